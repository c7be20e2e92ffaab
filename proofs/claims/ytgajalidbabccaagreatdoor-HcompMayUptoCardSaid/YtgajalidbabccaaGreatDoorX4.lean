/- Part 4 of a proof: the sources, with their names and remarks, lie in wip/. -/
import Derived.Test.YtgajalidbabccaaGreatDoorX3
namespace Go.Proofs.YtgajalidbabccaaGreatDoor
open Go PI
set_option linter.unusedVariables false
set_option maxRecDepth 100000
noncomputable section
def DO {S:Type} (hd:iG S):Rw S:=ah yR xn fun t most κ=>hd t most (bk κ)
def mZ {S:Type} (hd:iG S) (k:Nat):Fx S:=fp 119 [(9,DO hd)] [(5,bW [1,2,5,6] [(2,6)],aS 6 23),(9,bW [1,2,5,7] [(2,6)],aS 7 47),(15,bW [1,2,5,7,8] [(2,6)],aS 15 14639)] k Tryz.f9 0
def Di (t:Tm) (most:Int) (v5 i6:Int):St UU:=⟨[(1,(iI most)),(2,(pt 2)),(5,(iI v5)),(6,(iI i6))],[(2,bT t)],[],[]⟩
def tQ (t:Tm) (most:Int) (v5' i7:Int):St UU:=⟨[(1,(iI most)),(2,(pt 2)),(5,(iI v5')),(7,(iI i7))],[(2,bT t)],[],[]⟩
def I9 (t:Tm) (most i7:Int) (v5'' v8:Int):St UU:=⟨[(1,(iI most)),(2,(pt 2)),(5,(iI v5'')),(7,(iI i7)),(8,(iI v8))],[(2,bT t)],[],[]⟩
section
variable {S:Type} (hd:iG S) (k:Nat) (t:Tm) (most:Int) (κ:Out UU→Option S)
theorem Tq (i7 κ1): ∀n v5'' v8,(mZ hd k).lp κ 15 [κ1] n (I9 t most i7 v5'' v8)=lf hd k (bk κ) (fun v5' i7=>κ1 (tQ t most v5' i7)) t most i7 n v5'' v8:=bR (wz hd k (bk κ) t most i7 (fun v5' i7=>κ1 (tQ t most v5' i7))) rfl (fun _=>rfl) fun r v5'' v8=>by kernel_rfl
theorem Tp: ∀n v5' i7,(mZ hd k).lp κ 9 [] n (tQ t most v5' i7)=jX hd k (bk κ) t most n v5' i7:=bR (fun own=>rV hd k (bk κ) t most (fun i7 v5'' v8=>lf hd k (bk κ) own t most i7 k v5'' v8) own) rfl (fun _=>rfl) fun r v5' i7=>Eq.trans (b:=rV hd k (bk κ) t most (fun i7 v5'' v8=>(mZ hd k).lp κ 15 [r] k (I9 t most i7 v5'' v8)) (fun v5' i7=>r (tQ t most v5' i7)) v5' i7) (by kernel_rfl) (by simp only [Tq])
theorem To: ∀n v5 i6,(mZ hd k).lp κ 5 [] n (Di t most v5 i6)=nU hd k (bk κ) t most n v5 i6:=bR (fun own=>rU hd k (bk κ) t most (fun v5' i7=>jX hd k (bk κ) t most k v5' i7) own) rfl (fun _=>rfl) fun r v5 i6=>Eq.trans (b:=rU hd k (bk κ) t most (fun v5' i7=>(mZ hd k).lp κ 9 [] k (tQ t most v5' i7)) (fun v5 i6=>r (Di t most v5 i6)) v5 i6) (by kernel_rfl) (by simp only [Tp])
end
theorem Ie {S:Type} (o:Obj) (ho:ag o): ∀k:Nat,Tl o 9 (DO (hZ k:iG S))
 |0=>gy fun t most κ x h=>by cases h
 |k+1=>aj (mZ (hZ k) k) ⟨Ie o ho k,trivial⟩ Tryz.func9 (by kernel_rfl) fun t most κ x h=>Eq.trans (b:=F0 (hZ k) k (bk κ) (fun v5 i6=>(mZ (hZ k) k).lp κ 5 [] k (Di t most v5 i6)) t most) (by kernel_rfl) (Eq.trans (by simp only [To];rfl) h)
def jl {S:Type} (k:Nat):Rw S:=ah ZM xn fun kind kid κ=>aa k (gI k kind kid) (qX2 κ)
def RP {S:Type} (k:Nat):Fx S:=fp 26 [] [] k Tryz.f49 0
theorem jP {S:Type} (o:Obj) (ho:ag o) (k:Nat):Tl o 49 (jl k:Rw S):=aj (RP k) trivial Tryz.func49 (by kernel_rfl) fun kind kid κ x h=>Eq.trans (by kernel_rfl) (am h)
def uH {S:Type} (hd:dF S):Rw S:=ah yR xn fun t left κ=>hd t left (bw κ)
def Mp {S:Type} (hd:dF S) (k:Nat):Rw S:=ah yU cr fun a_k p p' c0 κ=>aa k (tg hd k a_k p p' c0) (fh c0 κ)
def Sr {S:Type} (hd:dF S) (k:Nat):Fx S:=fp 12 [(113,uH hd)] [] k Tryz.f198 1
theorem XP {S:Type} (o:Obj) (ho:ag o) (hd:dF S) (Hd:Tl o 113 (uH hd)) (k:Nat):Tl o 198 (Mp hd k:Rw S):=aj (Sr hd k) ⟨Hd,trivial⟩ Tryz.func198 (by kernel_rfl) fun a_k p p' c0 κ x h=>Eq.trans (by kernel_rfl) (am h)
def Mu {S:Type} (hd:dF S) (k:Nat):Rw S:=ah Z2 cr fun t c0 κ=>aa k (B9 hd k t c0) (fh c0 κ)
def m_ {S:Type} (hd:dF S) (k:Nat):Fx S:=fp 60 [(49,jl k),(198,Mp hd k)] [(2,bW [1,2,15,16,17] [(2,6),(1000000,1)],aS 4 5),(12,bW [1,9,40,41,42] [(1000000,1)],aS 7 47),(15,bW [1,9,40,41,42,47,48,49] [(1000000,1)],aS 15 13103)] k Tryz.f116 1
def Dt (c0:Int) (t:Tm) (v17:Int):St UU:=⟨[(1,(.func 198 [] [(pt 1000000)])),(2,(pt 2)),(15,(sT t.kids)),(16,(.int .i64 (t.kids.length:Int))),(17,(iI v17))],[(2,bT t),(1000000,bI c0)],[],[]⟩
def t6 (c0:Int) (t:Tm) (v42 more9:Int):St UU:=⟨[(1,(.func 198 [] [(pt 1000000)])),(9,(iI more9)),(40,(sB t.sys)),(41,(.int .i64 (t.sys.length:Int))),(42,(iI v42))],[(1000000,bI c0)],[],[]⟩
def JS (c0:Int) (t:Tm) (v42:Int) (x4:(Br Tm)) (more9:Int) (v49:Int):St UU:=⟨[(1,(.func 198 [] [(pt 1000000)])),(9,(iI more9)),(40,(sB t.sys)),(41,(.int .i64 (t.sys.length:Int))),(42,(iI v42)),(47,(sT x4.kids)),(48,(.int .i64 (x4.kids.length:Int))),(49,(iI v49))],[(1000000,bI c0)],[],[]⟩
section
variable {S:Type} (hd:dF S) (k:Nat) (t:Tm) (c0:Int) (κ:Out UU→Option S)
theorem Uu (v42 x4 more9 κ1): ∀n v49,(m_ hd k).lp κ 15 [κ1] n (JS c0 t v42 x4 more9 v49)=nX hd k (fh c0 κ) (fun v42 more9=>κ1 (t6 c0 t v42 more9)) c0 t v42 x4 more9 n v49:=eP (wJ hd k (fh c0 κ) c0 t v42 x4 more9 (fun v42 more9=>κ1 (t6 c0 t v42 more9))) rfl (fun _=>rfl) fun r v49=>by kernel_rfl
theorem Ut: ∀n v42 more9,(m_ hd k).lp κ 12 [] n (t6 c0 t v42 more9)=jY hd k (fh c0 κ) c0 t n v42 more9:=bR (fun own=>sc hd k (fh c0 κ) c0 t (fun v42 x4 more9 v49=>nX hd k (fh c0 κ) own c0 t v42 x4 more9 k v49) own) rfl (fun _=>rfl) fun r v42 more9=>Eq.trans (b:=sc hd k (fh c0 κ) c0 t (fun v42 x4 more9 v49=>(m_ hd k).lp κ 15 [r] k (JS c0 t v42 x4 more9 v49)) (fun v42 more9=>r (t6 c0 t v42 more9)) v42 more9) (by kernel_rfl) (by simp only [Uu])
theorem Us: ∀n v17,(m_ hd k).lp κ 2 [] n (Dt c0 t v17)=qu hd k (fh c0 κ) c0 t n v17:=eP (fun own=>r_ hd k (fh c0 κ) c0 t (fun v42 more9=>jY hd k (fh c0 κ) c0 t k v42 more9) own) rfl (fun _=>rfl) fun r v17=>Eq.trans (b:=r_ hd k (fh c0 κ) c0 t (fun v42 more9=>(m_ hd k).lp κ 12 [] k (t6 c0 t v42 more9)) (fun v17=>r (Dt c0 t v17)) v17) (by kernel_rfl) (by simp only [Ut])
end
theorem XV {S:Type} (o:Obj) (ho:ag o) (hd:dF S) (Hd:Tl o 113 (uH hd)) (k:Nat):Tl o 116 (Mu hd k:Rw S):=aj (m_ hd k) ⟨jP o ho k,XP o ho hd Hd k,trivial⟩ Tryz.func116 (by kernel_rfl) fun t c0 κ x h=>Eq.trans (b:=Gf hd k (fh c0 κ) (fun v17=>(m_ hd k).lp κ 2 [] k (Dt c0 t v17)) t c0) (by kernel_rfl) (Eq.trans (by simp only [Us];rfl) (am h))
def Si {S:Type} (hd:dF S) (k:Nat):Fx S:=fp 12 [(116,Mu hd k)] [] k Tryz.f113 0
theorem Ij {S:Type} (o:Obj) (ho:ag o): ∀k:Nat,Tl o 113 (uH (jL k:dF S))
 |0=>gy fun t left κ x h=>by cases h
 |k+1=>aj (Si (jL k) k) ⟨XV o ho (jL k) (Ij o ho k) k,trivial⟩ Tryz.func113 (by kernel_rfl) fun t left κ x h=>Eq.trans (by kernel_rfl) h
def zV {S:Type} (hd:dE S):Rw S:=ah Z9 QU fun t c1 κ=>hd t c1 (gV κ)
def Eb {S:Type} (hd:dE S) (k:Nat):Rw S:=ah kX8 xX9 fun t c0 κ=>aa k (pm hd k t c0) (qX6 κ)
def SO {S:Type} (hd:dE S) (k:Nat):Fx S:=fp 14 [(116,zV hd)] [] k Tryz.f199 2
theorem HH {S:Type} (o:Obj) (ho:ag o) (hd:dE S) (Hd:Tl o 116 (zV hd)) (k:Nat):Tl o 199 (Eb hd k:Rw S):=aj (SO hd k) ⟨Hd,trivial⟩ Tryz.func199 (by kernel_rfl) fun t c0 κ x h=>Eq.trans (by kernel_rfl) (am h)
def MJ {S:Type} (hd:dE S) (k:Nat):Rw S:=ah yU QU fun a_k p p' c1 κ=>aa k (ti hd k a_k p p' c1) (gV κ)
def SZ {S:Type} (hd:dE S) (k:Nat):Fx S:=fp 11 [(199,Eb hd k)] [] k Tryz.f200 2
theorem X_ {S:Type} (o:Obj) (ho:ag o) (hd:dE S) (Hd:Tl o 116 (zV hd)) (k:Nat):Tl o 200 (MJ hd k:Rw S):=aj (SZ hd k) ⟨HH o ho hd Hd k,trivial⟩ Tryz.func200 (by kernel_rfl) fun a_k p p' c1 κ x h=>Eq.trans (by kernel_rfl) (am h)
def na {S:Type} (hd:dE S) (k:Nat):Fx S:=fp 60 [(49,jl k),(200,MJ hd k)] [(2,bW [1,2,15,16,17] [(2,6),(1000000,1),(1000001,1)],aS 4 5),(12,bW [1,9,40,41,42] [(1000000,1),(1000001,1)],aS 7 47),(15,bW [1,9,40,41,42,47,48,49] [(1000000,1),(1000001,1)],aS 15 13103)] k Tryz.f116 2
def Du (t:Tm) (e1_0 v17:Int):St UU:=⟨[(1,(.func 200 [] [(pt 1000000)])),(2,(pt 2)),(15,(sT t.kids)),(16,(.int .i64 (t.kids.length:Int))),(17,(iI v17))],[(2,bT t),(1000000,.cells [(.func 199 [] [(pt 1000001),(pt 1000000)])]),(1000001,bI e1_0)],[],[]⟩
def t7 (t:Tm) (e1_0' v42 more9:Int):St UU:=⟨[(1,(.func 200 [] [(pt 1000000)])),(9,(iI more9)),(40,(sB t.sys)),(41,(.int .i64 (t.sys.length:Int))),(42,(iI v42))],[(1000000,.cells [(.func 199 [] [(pt 1000001),(pt 1000000)])]),(1000001,bI e1_0')],[],[]⟩
def JU (t:Tm) (v42:Int) (x4:(Br Tm)) (more9:Int) (e1_0'' v49:Int):St UU:=⟨[(1,(.func 200 [] [(pt 1000000)])),(9,(iI more9)),(40,(sB t.sys)),(41,(.int .i64 (t.sys.length:Int))),(42,(iI v42)),(47,(sT x4.kids)),(48,(.int .i64 (x4.kids.length:Int))),(49,(iI v49))],[(1000000,.cells [(.func 199 [] [(pt 1000001),(pt 1000000)])]),(1000001,bI e1_0'')],[],[]⟩
section
variable {S:Type} (hd:dE S) (k:Nat) (t:Tm) (c1:Int) (κ:Out UU→Option S)
theorem Uy (v42 x4 more9 κ1): ∀n e1_0'' v49,(na hd k).lp κ 15 [κ1] n (JU t v42 x4 more9 e1_0'' v49)=lg hd k (gV κ) (fun e1_0' v42 more9=>κ1 (t7 t e1_0' v42 more9)) t v42 x4 more9 n e1_0'' v49:=bR (wH hd k (gV κ) t v42 x4 more9 (fun e1_0' v42 more9=>κ1 (t7 t e1_0' v42 more9))) rfl (fun _=>rfl) fun r e1_0'' v49=>by kernel_rfl
theorem Ux: ∀n e1_0' v42 more9,(na hd k).lp κ 12 [] n (t7 t e1_0' v42 more9)=iY hd k (gV κ) t n e1_0' v42 more9:=gi (fun own=>rX hd k (gV κ) t (fun v42 x4 more9 e1_0'' v49=>lg hd k (gV κ) own t v42 x4 more9 k e1_0'' v49) own) rfl (fun _=>rfl) fun r e1_0' v42 more9=>Eq.trans (b:=rX hd k (gV κ) t (fun v42 x4 more9 e1_0'' v49=>(na hd k).lp κ 15 [r] k (JU t v42 x4 more9 e1_0'' v49)) (fun e1_0' v42 more9=>r (t7 t e1_0' v42 more9)) e1_0' v42 more9) (by kernel_rfl) (by simp only [Uy])
theorem Uw: ∀n e1_0 v17,(na hd k).lp κ 2 [] n (Du t e1_0 v17)=nV hd k (gV κ) t n e1_0 v17:=bR (fun own=>rW hd k (gV κ) t (fun e1_0' v42 more9=>iY hd k (gV κ) t k e1_0' v42 more9) own) rfl (fun _=>rfl) fun r e1_0 v17=>Eq.trans (b:=rW hd k (gV κ) t (fun e1_0' v42 more9=>(na hd k).lp κ 12 [] k (t7 t e1_0' v42 more9)) (fun e1_0 v17=>r (Du t e1_0 v17)) e1_0 v17) (by kernel_rfl) (by simp only [Ux])
end
theorem Il {S:Type} (o:Obj) (ho:ag o): ∀k:Nat,Tl o 116 (zV (gf k:dE S))
 |0=>gy fun t c1 κ x h=>by cases h
 |k+1=>aj (na (gf k) k) ⟨jP o ho k,X_ o ho (gf k) (Il o ho k) k,trivial⟩ Tryz.func116 (by kernel_rfl) fun t c1 κ x h=>Eq.trans (b:=Gc (gf k) k (gV κ) (fun e1_0 v17=>(na (gf k) k).lp κ 2 [] k (Du t e1_0 v17)) t c1) (by kernel_rfl) (Eq.trans (by simp only [Uw];rfl) h)
def MQ {S:Type} (k:Nat):Rw S:=ah yR xn fun t most κ=>aa k (yo k t most) (bw κ)
def S5 {S:Type} (k:Nat):Fx S:=fp 10 [(199,Eb (gf k) k)] [] k Tryz.f114 0
theorem Yg {S:Type} (o:Obj) (ho:ag o) (k:Nat):Tl o 114 (MQ k:Rw S):=aj (S5 k) ⟨HH o ho (gf k) (Il o ho k) k,trivial⟩ Tryz.func114 (by kernel_rfl) fun t most κ x h=>Eq.trans (by kernel_rfl) (am h)
def DP {S:Type} (k:Nat):Rw S:=ah ie xn fun t κ=>aa k (th k t) (bk κ)
def QY {S:Type} (k:Nat):Fx S:=fp 11 [(113,uH (jL k)),(114,MQ k)] [] k Tryz.f50 0
theorem Hq {S:Type} (o:Obj) (ho:ag o) (k:Nat):Tl o 50 (DP k:Rw S):=aj (QY k) ⟨Ij o ho k,Yg o ho k,trivial⟩ Tryz.func50 (by kernel_rfl) fun t κ x h=>Eq.trans (by kernel_rfl) (am h)
def K8 {S:Type} (k:Nat):Rw S:=ah jV xn fun kind κ=>aa k (yl k kind) (bk κ)
def Q6 {S:Type} (k:Nat):Fx S:=fp 38 [] [] k Tryz.f201 0
theorem Ww {S:Type} (o:Obj) (ho:ag o) (k:Nat):Tl o 201 (K8 k:Rw S):=aj (Q6 k) trivial Tryz.func201 (by kernel_rfl) fun kind κ x h=>Eq.trans (by kernel_rfl) (am h)
def Lb {S:Type} (k:Nat):Rw S:=ah jV xn fun kind κ=>aa k (lX k kind) (bk κ)
def Rd {S:Type} (k:Nat):Fx S:=fp 10 [] [] k Tryz.f202 0
theorem WA {S:Type} (o:Obj) (ho:ag o) (k:Nat):Tl o 202 (Lb k:Rw S):=aj (Rd k) trivial Tryz.func202 (by kernel_rfl) fun kind κ x h=>Eq.trans (by kernel_rfl) (am h)
def Li {S:Type} (k:Nat):Rw S:=ah ZI xn fun s κ=>aa k (yn k s) (bw κ)
def rz {S:Type} (k:Nat):Fx S:=fp 49 [] [(2,bW [0,7,8] [],aS 4 5),(1000006,bW [0,3,4,5,7,8] [],aS 12 3685)] k Tryz.f203 0
def tW (s:ByteArray) (v8:Int):St UU:=⟨[(0,(.str s)),(7,(.int .i64 (s.size:Int))),(8,(iI v8))],[],[],[]⟩
def Jm (s:ByteArray) (v8:Int) (x1:UInt8) (letter5:Bool):St UU:=⟨[(0,(.str s)),(3,(iI v8)),(4,(.int .u8 (x1.toNat:Int))),(5,(.bool letter5)),(7,(.int .i64 (s.size:Int))),(8,(iI v8))],[],[],[]⟩
section
variable {S:Type} (k:Nat) (s:ByteArray) (κ:Out UU→Option S)
theorem TP (v8 x1 κ0): ∀n letter5,(rz k).jn κ 1000006 [κ0] n (Jm s v8 x1 letter5)=yX k (bw κ) (fun v8=>κ0 (tW s v8)) s v8 x1 n letter5:=Is (Bm k (bw κ) s v8 x1 (fun v8=>κ0 (tW s v8))) rfl (fun _=>rfl) (fun letter5=>by kernel_rfl)
theorem TO: ∀n v8,(rz k).lp κ 2 [] n (tW s v8)=n4 k (bw κ) s n v8:=eP (fun own=>sx k (bw κ) s (fun v8 x1 letter5=>yX k (bw κ) own s v8 x1 k letter5) own) rfl (fun _=>rfl) fun r v8=>Eq.trans (b:=sx k (bw κ) s (fun v8 x1 letter5=>(rz k).jn κ 1000006 [r] k (Jm s v8 x1 letter5)) (fun v8=>r (tW s v8)) v8) (by kernel_rfl) (by simp only [TP])
end
theorem WH {S:Type} (o:Obj) (ho:ag o) (k:Nat):Tl o 203 (Li k:Rw S):=aj (rz k) trivial Tryz.func203 (by kernel_rfl) fun s κ x h=>Eq.trans (b:=Gj k (bw κ) (fun v8=>(rz k).lp κ 2 [] k (tW s v8)) s) (by kernel_rfl) (Eq.trans (by simp only [TO];rfl) (am h))
def Lq {S:Type} (k:Nat):Rw S:=ah CU xn fun s κ=>aa k (pi k s) (bw κ)
def Rr {S:Type} (k:Nat):Fx S:=fp 6 [] [] k Tryz.f276 0
theorem WO {S:Type} (o:Obj) (ho:ag o) (k:Nat):Tl o 276 (Lq k:Rw S):=aj (Rr k) trivial Tryz.func276 (by kernel_rfl) fun s κ x h=>Eq.trans (by kernel_rfl) (am h)
def DW {S:Type} (k:Nat):Rw S:=ah yS xn fun c κ=>aa k (sN k c) (bw κ)
def Ru {S:Type} (k:Nat):Fx S:=fp 11 [(276,Lq k)] [] k Tryz.f224 0
theorem Hv {S:Type} (o:Obj) (ho:ag o) (k:Nat):Tl o 224 (DW k:Rw S):=aj (Ru k) ⟨WO o ho k,trivial⟩ Tryz.func224 (by kernel_rfl) fun c κ x h=>Eq.trans (by kernel_rfl) (am h)
def zO {S:Type} (k:Nat):Rw S:=ah Iz xn fun a b κ=>aa k (oX k a b) (qX7 κ)
def RE {S:Type} (k:Nat):Fx S:=fp 16 [] [] k Tryz.f278 0
theorem Ch {S:Type} (o:Obj) (ho:ag o) (k:Nat):Tl o 278 (zO k:Rw S):=aj (RE k) trivial Tryz.func278 (by kernel_rfl) fun a b κ x h=>Eq.trans (by kernel_rfl) (am h)
def LB {S:Type} (k:Nat):Rw S:=ah Iz xn fun a b κ=>aa k (xe k a b) (bw κ)
def RJ {S:Type} (k:Nat):Fx S:=fp 10 [(278,zO k)] [] k Tryz.f229 0
theorem WZ {S:Type} (o:Obj) (ho:ag o) (k:Nat):Tl o 229 (LB k:Rw S):=aj (RJ k) ⟨Ch o ho k,trivial⟩ Tryz.func229 (by kernel_rfl) fun a b κ x h=>Eq.trans (by kernel_rfl) (am h)
def LF {S:Type} (k:Nat):Rw S:=ah CW vj fun d c0 κ=>aa k (xh k d c0) (KW c0 κ)
def RO {S:Type} (k:Nat):Fx S:=fp 12 [(229,LB k)] [] k Tryz.f228 1
theorem W6 {S:Type} (o:Obj) (ho:ag o) (k:Nat):Tl o 228 (LF k:Rw S):=aj (RO k) ⟨WZ o ho k,trivial⟩ Tryz.func228 (by kernel_rfl) fun d c0 κ x h=>Eq.trans (by kernel_rfl) (am h)
def LG {S:Type} (k:Nat):Rw S:=ah IA vj fun s c0 κ=>aa k (B7 k s c0) (zL c0 κ)
def AP {S:Type} (k:Nat):Fx S:=fp 19 [(228,LF k)] [(2,bW [0,1,7,8] [(1000000,2)],aS 4 5)] k Tryz.f277 1
def Js (c0:Cl) (s:List Cl) (v8:Int):St UU:=⟨[(0,(sC s)),(1,(.func 228 [] [(pt 1000000)])),(7,(.int .i64 (s.length:Int))),(8,(iI v8))],[(1000000,bC c0)],[],[]⟩
section
variable {S:Type} (k:Nat) (s:List Cl) (c0:Cl) (κ:Out UU→Option S)
theorem TV: ∀n v8,(AP k).lp κ 2 [] n (Js c0 s v8)=ql k (zL c0 κ) c0 s n v8:=eP (wD k (zL c0 κ) c0 s) rfl (fun _=>rfl) fun r v8=>by kernel_rfl
end
theorem W7 {S:Type} (o:Obj) (ho:ag o) (k:Nat):Tl o 277 (LG k:Rw S):=aj (AP k) ⟨W6 o ho k,trivial⟩ Tryz.func277 (by kernel_rfl) fun s c0 κ x h=>Eq.trans (b:=F7 k (zL c0 κ) (fun v8=>(AP k).lp κ 2 [] k (Js c0 s v8)) s c0) (by kernel_rfl) (Eq.trans (by simp only [TV];rfl) (am h))
def LI {S:Type} (k:Nat):Rw S:=ah IA vj fun s c0 κ=>aa k (B5 k s c0) (KW c0 κ)
def RQ {S:Type} (k:Nat):Fx S:=fp 9 [(277,LG k)] [] k Tryz.f227 1
theorem W9 {S:Type} (o:Obj) (ho:ag o) (k:Nat):Tl o 227 (LI k:Rw S):=aj (RQ k) ⟨W7 o ho k,trivial⟩ Tryz.func227 (by kernel_rfl) fun s c0 κ x h=>Eq.trans (by kernel_rfl) (am h)
def LJ {S:Type} (k:Nat):Rw S:=ah CW ahK fun c c0 κ=>aa k (xg k c c0) (adT c0 κ)
def RR {S:Type} (k:Nat):Fx S:=fp 7 [(227,LI k)] [] k Tryz.f226 1
theorem W_ {S:Type} (o:Obj) (ho:ag o) (k:Nat):Tl o 226 (LJ k:Rw S):=aj (RR k) ⟨W9 o ho k,trivial⟩ Tryz.func226 (by kernel_rfl) fun c c0 κ x h=>Eq.trans (by kernel_rfl) (am h)
def ke {S:Type} (k:Nat):Rw S:=ah jW xn fun l κ=>aa k (g9 k l) (bH κ)
def rA {S:Type} (k:Nat):Fx S:=fx 55 (fun _=>[]) (fun|53=>true|_=>false) [(224,DW k),(226,LJ k)] [(4,⟨[(4,.none),(5,.none),(13,.none),(14,.none),(15,.none)],[(5,[some (200320,true)]),(12,[])]⟩,aS 6 23),(15,⟨[(8,.none),(9,some (100009,true)),(34,.none),(35,.none),(36,.none)],[(5,[.none])]⟩,aS 9 191)] k Tryz.f146 false [] 0
def Dp (l:List Cl) (b12_0:List (Cl×Bool)) (b5_0:List Cl) (v15:Int):St UU:=⟨[(4,(.mp 12)),(5,(pt 5)),(13,(sC l)),(14,(.int .i64 (l.length:Int))),(15,(iI v15))],[(5,.cells [(.own 200320 0)]),(12,.map ET.C b12_0)],[(200320,⟨0,ET.C,b5_0⟩)],[(200320,.wr)]⟩
def Jt (b5_0:List Cl) (v36:Int) (kept9:List Cl):St UU:=⟨[(8,(.func 226 [] [(pt 5)])),(9,(.own 100009 0)),(34,(sC b5_0)),(35,(.int .i64 (b5_0.length:Int))),(36,(iI v36))],[(5,.cells [(sC b5_0)])],[(100009,⟨0,ET.C,kept9⟩)],[(100009,.wr)]⟩
section
variable {S:Type} (k:Nat) (l:List Cl) (κ:Out UU→Option S)
theorem TX (b5_0): ∀n v36 kept9,(rA k).lp κ 15 [] n (Jt b5_0 v36 kept9)=nK k (bH κ) b5_0 n v36 kept9:=bR (vD k (bH κ) b5_0) rfl (fun _=>rfl) fun r v36 kept9=>by kernel_rfl
theorem TW: ∀n b12_0 b5_0 v15,(rA k).lp κ 4 [] n (Dp l b12_0 b5_0 v15)=pK k (bH κ) l n b12_0 b5_0 v15:=gi (fun own=>rI k (bH κ) l (fun b5_0 v36 kept9=>nK k (bH κ) b5_0 k v36 kept9) own) rfl (fun _=>rfl) fun r b12_0 b5_0 v15=>Eq.trans (b:=rI k (bH κ) l (fun b5_0 v36 kept9=>(rA k).lp κ 15 [] k (Jt b5_0 v36 kept9)) (fun b12_0 b5_0 v15=>r (Dp l b12_0 b5_0 v15)) b12_0 b5_0 v15) (by kernel_rfl) (by simp only [TX])
end
theorem kS {S:Type} (o:Obj) (ho:ag o) (k:Nat):Tl o 146 (ke k:Rw S):=aj (rA k) ⟨Hv o ho k,W_ o ho k,trivial⟩ Tryz.func146 (by kernel_rfl) fun l κ x h=>Eq.trans (b:=Fe k (bH κ) (fun b12_0 b5_0 v15=>(rA k).lp κ 4 [] k (Dp l b12_0 b5_0 v15)) l) (by kernel_rfl) (Eq.trans (by simp only [TW];rfl) (am h))
def LK {S:Type} (k:Nat):Rw S:=ah pH xn fun s1 s2 κ=>aa k (yk k s1 s2) (bw κ)
def AT {S:Type} (k:Nat):Fx S:=fp 26 [] [(4,bW [0,1,12,13] [],aS 5 11)] k Tryz.f223 0
def Ju (s1 s2:List Cl) (v13:Int):St UU:=⟨[(0,(sC s1)),(1,(sC s2)),(12,(.int .i64 (s1.length:Int))),(13,(iI v13))],[],[],[]⟩
section
variable {S:Type} (k:Nat) (s1 s2:List Cl) (κ:Out UU→Option S)
theorem TY: ∀n v13,(AT k).lp κ 4 [] n (Ju s1 s2 v13)=qk k (bw κ) s1 s2 n v13:=eP (wC k (bw κ) s1 s2) rfl (fun _=>rfl) fun r v13=>by kernel_rfl
end
theorem Xa {S:Type} (o:Obj) (ho:ag o) (k:Nat):Tl o 223 (LK k:Rw S):=aj (AT k) trivial Tryz.func223 (by kernel_rfl) fun s1 s2 κ x h=>Eq.trans (b:=F6 k (bw κ) (fun v13=>(AT k).lp κ 4 [] k (Ju s1 s2 v13)) s1 s2) (by kernel_rfl) (Eq.trans (by simp only [TY];rfl) (am h))
def ot {S:Type} (k:Nat):Rw S:=ah jW xn fun f κ=>aa k (iO k f) (bw κ)
def RS {S:Type} (k:Nat):Fx S:=fp 17 [(146,ke k),(223,LK k)] [] k Tryz.f140 0
theorem pq {S:Type} (o:Obj) (ho:ag o) (k:Nat):Tl o 140 (ot k:Rw S):=aj (RS k) ⟨kS o ho k,Xa o ho k,trivial⟩ Tryz.func140 (by kernel_rfl) fun f κ x h=>Eq.trans (by kernel_rfl) (am h)
def uG {S:Type} (k:Nat):Rw S:=ah jV xn fun i κ=>aa k (ny k i) (bw κ)
def RT {S:Type} (k:Nat):Fx S:=fp 9 [] [] k Tryz.f232 0
theorem yv {S:Type} (o:Obj) (ho:ag o) (k:Nat):Tl o 232 (uG k:Rw S):=aj (RT k) trivial Tryz.func232 (by kernel_rfl) fun i κ x h=>Eq.trans (by kernel_rfl) (am h)
def zP {S:Type} (k:Nat):Rw S:=ah yT xn fun s i κ=>aa k (kP k s i) (mB κ)
def R1 {S:Type} (k:Nat):Fx S:=fp 16 [(232,uG k)] [] k Tryz.f233 0
theorem Ci {S:Type} (o:Obj) (ho:ag o) (k:Nat):Tl o 233 (zP k:Rw S):=aj (R1 k) ⟨yv o ho k,trivial⟩ Tryz.func233 (by kernel_rfl) fun s i κ x h=>Eq.trans (by kernel_rfl) (am h)
def zQ {S:Type} (k:Nat):Rw S:=ah jW xn fun f κ=>aa k (o8 k f) (mB κ)
def AY {S:Type} (k:Nat):Fx S:=fp 22 [(233,zP k)] [(3,bW [3,6,7,8] [],aS 5 11)] k Tryz.f150 0
def JD (f:List Cl) (s3 v8:Int):St UU:=⟨[(3,(iU s3)),(6,(sC f)),(7,(.int .i64 (f.length:Int))),(8,(iI v8))],[],[],[]⟩
section
variable {S:Type} (k:Nat) (f:List Cl) (κ:Out UU→Option S)
theorem T7: ∀n s3 v8,(AY k).lp κ 3 [] n (JD f s3 v8)=pQ k (mB κ) f n s3 v8:=bR (vQ k (mB κ) f) rfl (fun _=>rfl) fun r s3 v8=>by kernel_rfl
end
theorem Cj {S:Type} (o:Obj) (ho:ag o) (k:Nat):Tl o 150 (zQ k:Rw S):=aj (AY k) ⟨Ci o ho k,trivial⟩ Tryz.func150 (by kernel_rfl) fun f κ x h=>Eq.trans (b:=Fz k (mB κ) (fun s3 v8=>(AY k).lp κ 3 [] k (JD f s3 v8)) f) (by kernel_rfl) (Eq.trans (by simp only [T7];rfl) (am h))
def Me {S:Type} (k:Nat):Rw S:=ah ZN xn fun f dims κ=>aa k (lY k f dims) (bw κ)
def Sf {S:Type} (k:Nat):Fx S:=fp 15 [(150,zQ k)] [] k Tryz.f204 0
theorem XE {S:Type} (o:Obj) (ho:ag o) (k:Nat):Tl o 204 (Me k:Rw S):=aj (Sf k) ⟨Cj o ho k,trivial⟩ Tryz.func204 (by kernel_rfl) fun f dims κ x h=>Eq.trans (by kernel_rfl) (am h)
def D5 {S:Type} (k:Nat):Rw S:=ah yS xn fun c κ=>aa k (sM k c) (bw κ)
def Sh {S:Type} (k:Nat):Fx S:=fp 9 [] [] k Tryz.f269 0
theorem HB {S:Type} (o:Obj) (ho:ag o) (k:Nat):Tl o 269 (D5 k:Rw S):=aj (Sh k) trivial Tryz.func269 (by kernel_rfl) fun c κ x h=>Eq.trans (by kernel_rfl) (am h)
def Mg {S:Type} (k:Nat):Rw S:=ah IB xn fun s κ=>aa k (B8 k s) (bk κ)
def A3 {S:Type} (k:Nat):Fx S:=fp 19 [(269,D5 k)] [(2,bW [0,1,7,8] [],aS 4 5)] k Tryz.f277 0
def JE (s:List Cl) (v8:Int):St UU:=⟨[(0,(sC s)),(1,(.func 269 [] [])),(7,(.int .i64 (s.length:Int))),(8,(iI v8))],[],[],[]⟩
section
variable {S:Type} (k:Nat) (s:List Cl) (κ:Out UU→Option S)
theorem T8: ∀n v8,(A3 k).lp κ 2 [] n (JE s v8)=qm k (bk κ) s n v8:=eP (wE k (bk κ) s) rfl (fun _=>rfl) fun r v8=>by kernel_rfl
end
theorem XG {S:Type} (o:Obj) (ho:ag o) (k:Nat):Tl o 277 (Mg k:Rw S):=aj (A3 k) ⟨HB o ho k,trivial⟩ Tryz.func277 (by kernel_rfl) fun s κ x h=>Eq.trans (b:=F8 k (bk κ) (fun v8=>(A3 k).lp κ 2 [] k (JE s v8)) s) (by kernel_rfl) (Eq.trans (by simp only [T8];rfl) (am h))
def Mh {S:Type} (k:Nat):Rw S:=ah IB xn fun s κ=>aa k (B6 k s) (bw κ)
def Sj {S:Type} (k:Nat):Fx S:=fp 9 [(277,Mg k)] [] k Tryz.f227 0
theorem XH {S:Type} (o:Obj) (ho:ag o) (k:Nat):Tl o 227 (Mh k:Rw S):=aj (Sj k) ⟨XG o ho k,trivial⟩ Tryz.func227 (by kernel_rfl) fun s κ x h=>Eq.trans (by kernel_rfl) (am h)
def D6 {S:Type} (k:Nat):Rw S:=ah jW xn fun f κ=>aa k (oZ k f) (bw κ)
def Sk {S:Type} (k:Nat):Fx S:=fp 10 [(140,ot k),(227,Mh k)] [] k Tryz.f205 0
theorem HC {S:Type} (o:Obj) (ho:ag o) (k:Nat):Tl o 205 (D6 k:Rw S):=aj (Sk k) ⟨pq o ho k,XH o ho k,trivial⟩ Tryz.func205 (by kernel_rfl) fun f κ x h=>Eq.trans (by kernel_rfl) (am h)
def Mk {S:Type} (k:Nat):Rw S:=ah pI xn fun t vars dims κ=>aa k (tf k t vars dims) (bw κ)
def rB {S:Type} (k:Nat):Fx S:=fp 138 [(140,ot k),(201,K8 k),(202,Lb k),(203,Li k),(204,Me k),(205,D6 k)] [(1000003,bW [1,2,3] [(3,6)],aS 2 3),(15,bW [2,3,107,108,109] [(3,6)],aS 6 23)] k Tryz.f115 0
def JH (t:Tm) (vars dims:Int):St UU:=⟨[(1,(iI vars)),(2,(iI dims)),(3,(pt 3))],[(3,bT t)],[],[]⟩
def JI (t:Tm) (dims:Int) (v109:Int):St UU:=⟨[(2,(iI dims)),(3,(pt 3)),(107,(sB t.sys)),(108,(.int .i64 (t.sys.length:Int))),(109,(iI v109))],[(3,bT t)],[],[]⟩
section
variable {S:Type} (k:Nat) (t:Tm) (vars dims:Int) (κ:Out UU→Option S)
theorem Ud: ∀n v109,(rB k).lp κ 15 [] n (JI t dims v109)=lj k (bw κ) t dims n v109:=eP (wM k (bw κ) t dims) rfl (fun _=>rfl) fun r v109=>by kernel_rfl
theorem Uc: ∀n,(rB k).jn κ 1000003 [] n (JH t vars dims)=yY k (bw κ) t vars dims n:=Ir (sz k (bw κ) t vars dims (fun v109=>lj k (bw κ) t dims k v109)) rfl (fun _=>rfl) (Eq.trans (b:=sz k (bw κ) t vars dims (fun v109=>(rB k).lp κ 15 [] k (JI t dims v109))) (by kernel_rfl) (by simp only [Ud]))
end
theorem XK {S:Type} (o:Obj) (ho:ag o) (k:Nat):Tl o 115 (Mk k:Rw S):=aj (rB k) ⟨pq o ho k,Ww o ho k,WA o ho k,WH o ho k,XE o ho k,HC o ho k,trivial⟩ Tryz.func115 (by kernel_rfl) fun t vars dims κ x h=>Eq.trans (b:=Gk k (bw κ) ((rB k).jn κ 1000003 [] k (JH t vars dims)) t vars dims) (by kernel_rfl) (Eq.trans (by simp only [Uc];rfl) (am h))
def qT {S:Type} (hd:dD S):Rw S:=ah ZO xn fun t vars dims bound κ=>hd t vars dims bound (bw κ)
def Ml {S:Type} (hd:dD S) (k:Nat):Rw S:=ah ZP QQ fun a_k v d c0 c1 c2 κ=>aa k (td hd k a_k v d c0 c1 c2) (gT c0 c1 c2 κ)
def Sp {S:Type} (hd:dD S) (k:Nat):Fx S:=fp 21 [(51,qT hd)] [] k Tryz.f117 3
theorem XM {S:Type} (o:Obj) (ho:ag o) (hd:dD S) (Hd:Tl o 51 (qT hd)) (k:Nat):Tl o 117 (Ml hd k:Rw S):=aj (Sp hd k) ⟨Hd,trivial⟩ Tryz.func117 (by kernel_rfl) fun a_k v d c0 c1 c2 κ x h=>Eq.trans (by kernel_rfl) (am h)
def Mm {S:Type} (hd:dD S) (k:Nat):Rw S:=ah ZQ QQ fun t c0 c1 c2 κ=>aa k (ym hd k t c0 c1 c2) (gT c0 c1 c2 κ)
def m9 {S:Type} (hd:dD S) (k:Nat):Fx S:=fp 60 [(49,jl k),(117,Ml hd k)] [(2,bW [1,2,15,16,17] [(2,6),(1000000,1),(1000001,1),(1000002,1)],aS 4 5),(12,bW [1,9,40,41,42] [(1000000,1),(1000001,1),(1000002,1)],aS 7 47),(15,bW [1,9,40,41,42,47,48,49] [(1000000,1),(1000001,1),(1000002,1)],aS 15 13103)] k Tryz.f116 3
def Dr (c0 c1:Int) (c2:Bool) (t:Tm) (v17:Int):St UU:=⟨[(1,(.func 117 [] [(pt 1000000),(pt 1000001),(pt 1000002)])),(2,(pt 2)),(15,(sT t.kids)),(16,(.int .i64 (t.kids.length:Int))),(17,(iI v17))],[(2,bT t),(1000000,bI c0),(1000001,bI c1),(1000002,.cells [(.bool c2)])],[],[]⟩
def tY (c0 c1:Int) (c2:Bool) (t:Tm) (v42 more9:Int):St UU:=⟨[(1,(.func 117 [] [(pt 1000000),(pt 1000001),(pt 1000002)])),(9,(iI more9)),(40,(sB t.sys)),(41,(.int .i64 (t.sys.length:Int))),(42,(iI v42))],[(1000000,bI c0),(1000001,bI c1),(1000002,.cells [(.bool c2)])],[],[]⟩
def JJ (c0 c1:Int) (c2:Bool) (t:Tm) (v42:Int) (x4:(Br Tm)) (more9:Int) (v49:Int):St UU:=⟨[(1,(.func 117 [] [(pt 1000000),(pt 1000001),(pt 1000002)])),(9,(iI more9)),(40,(sB t.sys)),(41,(.int .i64 (t.sys.length:Int))),(42,(iI v42)),(47,(sT x4.kids)),(48,(.int .i64 (x4.kids.length:Int))),(49,(iI v49))],[(1000000,bI c0),(1000001,bI c1),(1000002,.cells [(.bool c2)])],[],[]⟩
section
variable {S:Type} (hd:dD S) (k:Nat) (t:Tm) (c0 c1:Int) (c2:Bool) (κ:Out UU→Option S)
theorem Ug (v42 x4 more9 κ1): ∀n v49,(m9 hd k).lp κ 15 [κ1] n (JJ c0 c1 c2 t v42 x4 more9 v49)=mr hd k (gT c0 c1 c2 κ) (fun v42 more9=>κ1 (tY c0 c1 c2 t v42 more9)) c0 c1 c2 t v42 x4 more9 n v49:=eP (wI hd k (gT c0 c1 c2 κ) c0 c1 c2 t v42 x4 more9 (fun v42 more9=>κ1 (tY c0 c1 c2 t v42 more9))) rfl (fun _=>rfl) fun r v49=>by kernel_rfl
theorem Uf: ∀n v42 more9,(m9 hd k).lp κ 12 [] n (tY c0 c1 c2 t v42 more9)=iZ hd k (gT c0 c1 c2 κ) c0 c1 c2 t n v42 more9:=bR (fun own=>rZ hd k (gT c0 c1 c2 κ) c0 c1 c2 t (fun v42 x4 more9 v49=>mr hd k (gT c0 c1 c2 κ) own c0 c1 c2 t v42 x4 more9 k v49) own) rfl (fun _=>rfl) fun r v42 more9=>Eq.trans (b:=rZ hd k (gT c0 c1 c2 κ) c0 c1 c2 t (fun v42 x4 more9 v49=>(m9 hd k).lp κ 15 [r] k (JJ c0 c1 c2 t v42 x4 more9 v49)) (fun v42 more9=>r (tY c0 c1 c2 t v42 more9)) v42 more9) (by kernel_rfl) (by simp only [Ug])
theorem Ue: ∀n v17,(m9 hd k).lp κ 2 [] n (Dr c0 c1 c2 t v17)=nW hd k (gT c0 c1 c2 κ) c0 c1 c2 t n v17:=eP (fun own=>rY hd k (gT c0 c1 c2 κ) c0 c1 c2 t (fun v42 more9=>iZ hd k (gT c0 c1 c2 κ) c0 c1 c2 t k v42 more9) own) rfl (fun _=>rfl) fun r v17=>Eq.trans (b:=rY hd k (gT c0 c1 c2 κ) c0 c1 c2 t (fun v42 more9=>(m9 hd k).lp κ 12 [] k (tY c0 c1 c2 t v42 more9)) (fun v17=>r (Dr c0 c1 c2 t v17)) v17) (by kernel_rfl) (by simp only [Uf])
end
theorem XN {S:Type} (o:Obj) (ho:ag o) (hd:dD S) (Hd:Tl o 51 (qT hd)) (k:Nat):Tl o 116 (Mm hd k:Rw S):=aj (m9 hd k) ⟨jP o ho k,XM o ho hd Hd k,trivial⟩ Tryz.func116 (by kernel_rfl) fun t c0 c1 c2 κ x h=>Eq.trans (b:=Ge hd k (gT c0 c1 c2 κ) (fun v17=>(m9 hd k).lp κ 2 [] k (Dr c0 c1 c2 t v17)) t c0 c1 c2) (by kernel_rfl) (Eq.trans (by simp only [Ue];rfl) (am h))
def So {S:Type} (hd:dD S) (k:Nat):Fx S:=fp 24 [(115,Mk k),(116,Mm hd k)] [] k Tryz.f51 0
theorem CI {S:Type} (o:Obj) (ho:ag o): ∀k:Nat,Tl o 51 (qT (gc k:dD S))
 |0=>gy fun t vars dims bound κ x h=>by cases h
 |k+1=>aj (So (gc k) k) ⟨XK o ho k,XN o ho (gc k) (CI o ho k) k,trivial⟩ Tryz.func51 (by kernel_rfl) fun t vars dims bound κ x h=>Eq.trans (by kernel_rfl) h
def jm {S:Type} (k:Nat):Rw S:=ah ie xn fun t κ=>aa k (gb k t) (bk κ)
def Sq {S:Type} (k:Nat):Fx S:=fp 12 [(50,DP k),(51,qT (gc k))] [] k Tryz.f40 0
theorem jQ {S:Type} (o:Obj) (ho:ag o) (k:Nat):Tl o 40 (jm k:Rw S):=aj (Sq k) ⟨Hq o ho k,CI o ho k,trivial⟩ Tryz.func40 (by kernel_rfl) fun t κ x h=>Eq.trans (by kernel_rfl) (am h)
def mE {S:Type} (hd:fK S):Rw S:=ah ie xn fun t κ=>hd t (zy κ)
def Mn {S:Type} (hd:fK S) (k:Nat):Rw S:=ah IC xn fun l κ=>aa k (te hd k l) (zz κ)
def A6 {S:Type} (hd:fK S) (k:Nat):Fx S:=fp 19 [(41,mE hd)] [(3,⟨[(3,some (100003,true)),(6,.none),(7,.none),(8,.none)],[]⟩,aS 5 11)] k Tryz.f92 0
def JL (l:List Tm) (out3:List Tm) (v8:Int):St UU:=⟨[(3,(.own 100003 0)),(6,(sT l)),(7,(.int .i64 (l.length:Int))),(8,(iI v8))],[],[(100003,⟨0,ET.T,out3⟩)],[(100003,.wr)]⟩
section
variable {S:Type} (hd:fK S) (k:Nat) (l:List Tm) (κ:Out UU→Option S)
theorem Ui: ∀n out3 v8,(A6 hd k).lp κ 3 [] n (JL l out3 v8)=qr hd k (zz κ) l n out3 v8:=bR (wG hd k (zz κ) l) rfl (fun _=>rfl) fun r out3 v8=>by kernel_rfl
end
theorem XO {S:Type} (o:Obj) (ho:ag o) (hd:fK S) (Hd:Tl o 41 (mE hd)) (k:Nat):Tl o 92 (Mn hd k:Rw S):=aj (A6 hd k) ⟨Hd,trivial⟩ Tryz.func92 (by kernel_rfl) fun l κ x h=>Eq.trans (b:=Gb hd k (zz κ) (fun out3 v8=>(A6 hd k).lp κ 3 [] k (JL l out3 v8)) l) (by kernel_rfl) (Eq.trans (by simp only [Ui];rfl) (am h))
def A5 {S:Type} (hd:fK S) (k:Nat):Fx S:=fp 40 [(91,Ev),(92,Mn hd k)] [(3,⟨[(2,.none),(3,.none),(20,.none),(21,.none),(22,.none)],[(2,[.none,.none,.none,some (200131,true),some (200132,true),some (200133,true)]),(3,[.none,.none,.none,.none,.none,some (200197,true)])]⟩,aS 5 11)] k Tryz.f41 0
def JK (t:Tm) (r1:List Cl) (r2:List Tm) (b3_5:List (Br Tm)) (v22:Int):St UU:=⟨[(2,(pt 2)),(3,(pt 3)),(20,(sB t.sys)),(21,(.int .i64 (t.sys.length:Int))),(22,(iI v22))],[(2,.cells [(iI 0),(iI 0),(.str ByteArray.empty),(.own 200131 0),(.own 200132 0),(.own 200133 0)]),(3,.cells [(iI t.kind),(iI t.n),(.str t.name),(sC r1),(sT r2),(.own 200197 0)])],[(200197,⟨0,ET.B,b3_5⟩),(200133,⟨0,ET.B,([]:List (Br Tm))⟩),(200132,⟨0,ET.T,([]:List Tm)⟩),(200131,⟨0,ET.C,([]:List Cl)⟩)],[(200197,.wr),(200133,.wr),(200132,.wr),(200131,.wr)]⟩
section
variable {S:Type} (hd:fK S) (k:Nat) (t:Tm) (κ:Out UU→Option S)
theorem Uh (r1 r2): ∀n b3_5 v22,(A5 hd k).lp κ 3 [] n (JK t r1 r2 b3_5 v22)=qn hd k (zy κ) t r1 r2 n b3_5 v22:=bR (wF hd k (zy κ) t r1 r2) rfl (fun _=>rfl) fun r b3_5 v22=>by kernel_rfl
end
theorem pG {S:Type} (o:Obj) (ho:ag o): ∀k:Nat,Tl o 41 (mE (du k:fK S))
 |0=>gy fun t κ x h=>by cases h
 |k+1=>aj (A5 (du k) k) ⟨ag5 o ho,XO o ho (du k) (pG o ho k) k,trivial⟩ Tryz.func41 (by kernel_rfl) fun t κ x h=>Eq.trans (b:=F9 (du k) k (zy κ) (fun r1 r2 b3_5 v22=>(A5 (du k) k).lp κ 3 [] k (JK t r1 r2 b3_5 v22)) t) (by kernel_rfl) (Eq.trans (by simp only [Uh];rfl) h)
def jo {S:Type} (k:Nat):Rw S:=ah ID cr fun t a_e c0 κ=>aa k (f_ k t a_e c0) (gU κ)
def Ss {S:Type} (k:Nat):Fx S:=fp 23 [] [] k Tryz.f93 1
theorem jR {S:Type} (o:Obj) (ho:ag o) (k:Nat):Tl o 93 (jo k:Rw S):=aj (Ss k) trivial Tryz.func93 (by kernel_rfl) fun t a_e c0 κ x h=>Eq.trans (by kernel_rfl) (am h)
def aes {S:Type} (k:Nat):Rw S:=ah yV cr fun c0 κ=>aa k (cY k c0) (fh c0 κ)
def jp {S:Type} (k:Nat):Rw S:=ah yV cr fun c0 κ=>aa k (cY k c0) (bw κ)
def Su {S:Type} (k:Nat):Fx S:=fp 8 [] [] k Tryz.f94 1
theorem XQ {S:Type} (o:Obj) (ho:ag o) (k:Nat):Tl o 94 (aes k:Rw S):=aj (Su k) trivial Tryz.func94 (by kernel_rfl) fun c0 κ x h=>Eq.trans (by kernel_rfl) (am h)
theorem jS {S:Type} (o:Obj) (ho:ag o) (k:Nat):Tl o 94 (jp k:Rw S):=Qc (XQ o ho k) fun c0 κ x h=>Eq.trans (b:=aa k (cY k c0) (fh c0 (wZ _ κ))) (by kernel_rfl) (Eq.trans (congrArg (aa k (cY k c0)) (funext fun r=>if_pos rfl)) h)
def D8 {S:Type} (k:Nat):Rw S:=ah mh cr fun t c0 κ=>aa k (f8 k t c0) (adW κ)
def Sv {S:Type} (k:Nat):Fx S:=fp 20 [(40,jm k),(41,mE (du k)),(93,jo k),(94,jp k)] [] k Tryz.f42 1
theorem HD {S:Type} (o:Obj) (ho:ag o) (k:Nat):Tl o 42 (D8 k:Rw S):=aj (Sv k) ⟨jQ o ho k,pG o ho k,jR o ho k,jS o ho k,trivial⟩ Tryz.func42 (by kernel_rfl) fun t c0 κ x h=>Eq.trans (by kernel_rfl) (am h)
end
end Go.Proofs.YtgajalidbabccaaGreatDoor
namespace Go.Proofs.YtgajalidbabccaaGreatDoor
open Go PI
set_option linter.unusedVariables false
set_option maxRecDepth 100000
noncomputable section
def zS {S:Type} (k:Nat):Rw S:=ah ZR xn fun l κ=>aa k (o_ k l) (bk κ)
def A7 {S:Type} (k:Nat):Fx S:=fp 15 [(140,ot k)] [(2,bW [5,6,7] [],aS 4 5)] k Tryz.f141 0
def JM (l:List (List Cl)) (v7:Int):St UU:=⟨[(5,(E2 l .none)),(6,(.int .i64 (l.length:Int))),(7,(iI v7))],[],[],[]⟩
section
variable {S:Type} (k:Nat) (l:List (List Cl)) (κ:Out UU→Option S)
theorem Uj: ∀n v7,(A7 k).lp κ 2 [] n (JM l v7)=pV k (bk κ) l n v7:=eP (vW k (bk κ) l) rfl (fun _=>rfl) fun r v7=>by kernel_rfl
end
theorem Ck {S:Type} (o:Obj) (ho:ag o) (k:Nat):Tl o 141 (zS k:Rw S):=aj (A7 k) ⟨pq o ho k,trivial⟩ Tryz.func141 (by kernel_rfl) fun l κ x h=>Eq.trans (b:=FG k (bk κ) (fun v7=>(A7 k).lp κ 2 [] k (JM l v7)) l) (by kernel_rfl) (Eq.trans (by simp only [Uj];rfl) (am h))
def D9 {S:Type} (k:Nat):Rw S:=ah cn xn fun κ=>aa k (sV k) (adX κ)
def Sw {S:Type} (k:Nat):Fx S:=fx 1 (fun _=>[]) (fun _=>false) [] [] k Tryz.f143 false [true] 0
theorem HE {S:Type} (o:Obj) (ho:ag o) (k:Nat):Tl o 143 (D9 k:Rw S):=aj (Sw k) trivial Tryz.func143 (by kernel_rfl) fun κ x h=>Eq.trans (by kernel_rfl) (am h)
def D_ {S:Type} (k:Nat):Rw S:=ah jV xn fun i κ=>aa k (pj k i) (mB κ)
def Sx {S:Type} (k:Nat):Fx S:=fp 9 [] [] k Tryz.f244 0
theorem HF {S:Type} (o:Obj) (ho:ag o) (k:Nat):Tl o 244 (D_ k:Rw S):=aj (Sx k) trivial Tryz.func244 (by kernel_rfl) fun i κ x h=>Eq.trans (by kernel_rfl) (am h)
def Mq {S:Type} (k:Nat):Rw S:=ah ZS xn fun s a_from a_by κ=>aa k (lW k s a_from a_by) (adY κ)
def Sy {S:Type} (k:Nat):Fx S:=fp 46 [(244,D_ k)] [] k Tryz.f225 0
theorem XR {S:Type} (o:Obj) (ho:ag o) (k:Nat):Tl o 225 (Mq k:Rw S):=aj (Sy k) ⟨HF o ho k,trivial⟩ Tryz.func225 (by kernel_rfl) fun s a_from a_by κ x h=>Eq.trans (by kernel_rfl) (am h)
def Mr {S:Type} (k:Nat):Rw S:=ah ZT xn fun c a_from a_by κ=>aa k (xj k c a_from a_by) (ad0 κ)
def Sz {S:Type} (k:Nat):Fx S:=fp 42 [(224,DW k),(225,Mq k)] [] k Tryz.f145 0
theorem XS {S:Type} (o:Obj) (ho:ag o) (k:Nat):Tl o 145 (Mr k:Rw S):=aj (Sz k) ⟨Hv o ho k,XR o ho k,trivial⟩ Tryz.func145 (by kernel_rfl) fun c a_from a_by κ x h=>Eq.trans (by kernel_rfl) (am h)
def Ms {S:Type} (k:Nat):Rw S:=ah ZU Az fun a_have c c0 c1 κ=>aa k (BV k a_have c c0 c1) (ad1 c0 c1 κ)
def SA {S:Type} (k:Nat):Fx S:=fx 22 (fun _=>[]) (fun _=>false) [(145,Mr k)] [] k Tryz.f144 false [true,false] 2
theorem XT {S:Type} (o:Obj) (ho:ag o) (k:Nat):Tl o 144 (Ms k:Rw S):=aj (SA k) ⟨XS o ho k,trivial⟩ Tryz.func144 (by kernel_rfl) fun a_have c c0 c1 κ x h=>Eq.trans (by kernel_rfl) (am h)
def Mt {S:Type} (k:Nat):Rw S:=ah ZV Az fun l a_from c0 c1 κ=>aa k (xE k l a_from c0 c1) (zA c0 c1 κ)
def A8 {S:Type} (k:Nat):Fx S:=fx 33 (fun|23=>[true,false]|_=>[]) (fun _=>false) [(144,Ms k)] [(2,⟨[(1,some (100001,true)),(2,.none),(13,.none),(14,.none),(15,.none)],[(1000000,[.none]),(1000001,[.none])]⟩,aS 4 5)] k Tryz.f142 false [] 2
def JN (c0 c1:Int) (l:List Cl) (v1:List Cl) (v15:Int):St UU:=⟨[(1,(.own 100001 0)),(2,(.func 144 [] [(pt 1000000),(pt 1000001)])),(13,(sC l)),(14,(.int .i64 (l.length:Int))),(15,(iI v15))],[(1000000,bI c0),(1000001,bI c1)],[(100001,⟨0,ET.C,v1⟩)],[(100001,.wr)]⟩
section
variable {S:Type} (k:Nat) (l a_from:List Cl) (c0 c1:Int) (κ:Out UU→Option S)
theorem Uk: ∀n v1 v15,(A8 k).lp κ 2 [] n (JN c0 c1 l v1 v15)=pT k (zA c0 c1 κ) c0 c1 l n v1 v15:=bR (vT k (zA c0 c1 κ) c0 c1 l) rfl (fun _=>rfl) fun r v1 v15=>by kernel_rfl
end
theorem XU {S:Type} (o:Obj) (ho:ag o) (k:Nat):Tl o 142 (Mt k:Rw S):=aj (A8 k) ⟨XT o ho k,trivial⟩ Tryz.func142 (by kernel_rfl) fun l a_from c0 c1 κ x h=>Eq.trans (b:=FD k (zA c0 c1 κ) (fun v1 v15=>(A8 k).lp κ 2 [] k (JN c0 c1 l v1 v15)) l a_from c0 c1) (by kernel_rfl) (Eq.trans (by simp only [Uk];rfl) (am h))
def ou {S:Type} (k:Nat):Rw S:=ah ZW xn fun f a_from a_by κ=>aa k (kN k f a_from a_by) (bH κ)
def SB {S:Type} (k:Nat):Fx S:=fx 31 (fun|21=>[false,true,false]|_=>[]) (fun _=>false) [(141,zS k),(142,Mt k),(143,D9 k),(146,ke k)] [] k Tryz.f75 false [] 0
theorem pr {S:Type} (o:Obj) (ho:ag o) (k:Nat):Tl o 75 (ou k:Rw S):=aj (SB k) ⟨Ck o ho k,XU o ho k,HE o ho k,kS o ho k,trivial⟩ Tryz.func75 (by kernel_rfl) fun f a_from a_by κ x h=>Eq.trans (by kernel_rfl) (am h)
def Mv {S:Type} (k:Nat):Rw S:=ah ZX xn fun l_0 l_1 f a_from κ=>aa k (sY k l_0 l_1 f a_from) (ad2 κ)
def SC {S:Type} (k:Nat):Fx S:=fp 31 [(75,ou k)] [] k Tryz.f165 0
theorem XW {S:Type} (o:Obj) (ho:ag o) (k:Nat):Tl o 165 (Mv k:Rw S):=aj (SC k) ⟨pr o ho k,trivial⟩ Tryz.func165 (by kernel_rfl) fun l_0 l_1 f a_from κ x h=>Eq.trans (by kernel_rfl) (am h)
def uI {S:Type} (hd:gC S):Rw S:=ah ZY xn fun l_0 l_1 t v d κ=>hd l_0 l_1 t v d (cK κ)
def kE {S:Type} (hd:gC S) (k:Nat):Fx S:=fp 128 [(49,jl k),(85,uI hd),(165,Mv k)] [(1000006,⟨[(2,.none),(3,.none),(4,.none),(5,.none),(8,.none),(9,.none)],[(4,[.none,.none]),(5,[.none,.none,.none,.none,.none,.none]),(8,[.none,.none,.none,some (200515,true),some (200516,true),some (200517,true)]),(9,[.none,.none,.none,.none,some (200580,true),some (200581,true)])]⟩,aS 3 7),(7,⟨[(2,.none),(3,.none),(4,.none),(5,.none),(8,.none),(9,.none),(55,.none),(56,.none),(57,.none)],[(4,[.none,.none]),(5,[.none,.none,.none,.none,.none,.none]),(8,[.none,.none,.none,some (200515,true),some (200516,true),some (200517,true)]),(9,[.none,.none,.none,.none,some (200580,true),some (200581,true)])]⟩,aS 6 23),(16,⟨[(2,.none),(3,.none),(4,.none),(8,.none),(9,.none),(14,.none),(88,.none),(89,.none),(90,.none)],[(4,[.none,.none]),(8,[.none,.none,.none,some (200515,true),some (200516,true),some (200517,true)]),(9,[.none,.none,.none,.none,some (200580,true),some (200581,true)])]⟩,aS 9 191),(20,⟨[(2,.none),(3,.none),(4,.none),(8,.none),(9,.none),(14,.none),(17,.none),(88,.none),(89,.none),(90,.none),(101,.none),(102,.none),(103,.none)],[(4,[.none,.none]),(8,[.none,.none,.none,some (200515,true),some (200516,true),some (200517,true)]),(9,[.none,.none,.none,.none,some (200580,true),some (200581,true)]),(17,[.none,some (201089,true)])]⟩,aS 19 183487)] k Tryz.f85 0
def JO (l_0 l_1:Int) (t:Tm) (r2:List Cl) (v d:Int) (b9_1:Int):St UU:=⟨[(2,(iI v)),(3,(iI d)),(4,(pt 4)),(5,(pt 5)),(8,(pt 8)),(9,(pt 9))],[(4,.cells [(iI l_0),(iI l_1)]),(5,bT t),(8,.cells [(iI 0),(iI 0),(.str ByteArray.empty),(.own 200515 0),(.own 200516 0),(.own 200517 0)]),(9,.cells [(iI t.kind),(iI b9_1),(.str t.name),(sC r2),(.own 200580 0),(.own 200581 0)])],[(200581,⟨0,ET.B,([]:List (Br Tm))⟩),(200580,⟨0,ET.T,([]:List Tm)⟩),(200517,⟨0,ET.B,([]:List (Br Tm))⟩),(200516,⟨0,ET.T,([]:List Tm)⟩),(200515,⟨0,ET.C,([]:List Cl)⟩)],[(200581,.wr),(200580,.wr),(200517,.wr),(200516,.wr),(200515,.wr)]⟩
def Ds (l_0 l_1:Int) (t:Tm) (b9_1:Int) (r2:List Cl) (v d:Int) (b9_4:List Tm) (v57:Int):St UU:=⟨[(2,(iI v)),(3,(iI d)),(4,(pt 4)),(5,(pt 5)),(8,(pt 8)),(9,(pt 9)),(55,(sT t.kids)),(56,(.int .i64 (t.kids.length:Int))),(57,(iI v57))],[(4,.cells [(iI l_0),(iI l_1)]),(5,bT t),(8,.cells [(iI 0),(iI 0),(.str ByteArray.empty),(.own 200515 0),(.own 200516 0),(.own 200517 0)]),(9,.cells [(iI t.kind),(iI b9_1),(.str t.name),(sC r2),(.own 200580 0),(.own 200581 0)])],[(200581,⟨0,ET.B,([]:List (Br Tm))⟩),(200580,⟨0,ET.T,b9_4⟩),(200517,⟨0,ET.B,([]:List (Br Tm))⟩),(200516,⟨0,ET.T,([]:List Tm)⟩),(200515,⟨0,ET.C,([]:List Cl)⟩)],[(200581,.wr),(200580,.wr),(200517,.wr),(200516,.wr),(200515,.wr)]⟩
def tZ (l_0 l_1:Int) (t:Tm) (b9_1:Int) (r2:List Cl) (b9_4:List Tm) (v d:Int) (b9_5:List (Br Tm)) (more14 v90:Int):St UU:=⟨[(2,(iI v)),(3,(iI d)),(4,(pt 4)),(8,(pt 8)),(9,(pt 9)),(14,(iI more14)),(88,(sB t.sys)),(89,(.int .i64 (t.sys.length:Int))),(90,(iI v90))],[(4,.cells [(iI l_0),(iI l_1)]),(8,.cells [(iI 0),(iI 0),(.str ByteArray.empty),(.own 200515 0),(.own 200516 0),(.own 200517 0)]),(9,.cells [(iI t.kind),(iI b9_1),(.str t.name),(sC r2),(.own 200580 0),(.own 200581 0)])],[(200581,⟨0,ET.B,b9_5⟩),(200580,⟨0,ET.T,b9_4⟩),(200517,⟨0,ET.B,([]:List (Br Tm))⟩),(200516,⟨0,ET.T,([]:List Tm)⟩),(200515,⟨0,ET.C,([]:List Cl)⟩)],[(200581,.wr),(200580,.wr),(200517,.wr),(200516,.wr),(200515,.wr)]⟩
def JP (r12:List Cl) (l_0 l_1:Int) (t:Tm) (b9_1:Int) (r2:List Cl) (b9_4:List Tm) (b9_5:List (Br Tm)) (x10:(Br Tm)) (more14 v d v90:Int) (b17_1:List Tm) (v103:Int):St UU:=⟨[(2,(iI v)),(3,(iI d)),(4,(pt 4)),(8,(pt 8)),(9,(pt 9)),(14,(iI more14)),(17,(pt 17)),(88,(sB t.sys)),(89,(.int .i64 (t.sys.length:Int))),(90,(iI v90)),(101,(sT x10.kids)),(102,(.int .i64 (x10.kids.length:Int))),(103,(iI v103))],[(4,.cells [(iI l_0),(iI l_1)]),(8,.cells [(iI 0),(iI 0),(.str ByteArray.empty),(.own 200515 0),(.own 200516 0),(.own 200517 0)]),(9,.cells [(iI t.kind),(iI b9_1),(.str t.name),(sC r2),(.own 200580 0),(.own 200581 0)]),(17,.cells [(sC r12),(.own 201089 0)])],[(201089,⟨0,ET.T,b17_1⟩),(200581,⟨0,ET.B,b9_5⟩),(200580,⟨0,ET.T,b9_4⟩),(200517,⟨0,ET.B,([]:List (Br Tm))⟩),(200516,⟨0,ET.T,([]:List Tm)⟩),(200515,⟨0,ET.C,([]:List Cl)⟩)],[(201089,.wr),(200581,.wr),(200580,.wr),(200517,.wr),(200516,.wr),(200515,.wr)]⟩
section
variable {S:Type} (hd:gC S) (k:Nat) (l_0 l_1:Int) (t:Tm) (v d:Int) (κ:Out UU→Option S)
theorem Uo (r12 b9_1 r2 b9_4 b9_5 x10 more14 v90 κ2): ∀n b17_1 v103,(kE hd k).lp κ 20 [κ2] n (JP r12 l_0 l_1 t b9_1 r2 b9_4 b9_5 x10 more14 v d v90 b17_1 v103)=mq hd k (cK κ) (fun b9_5 more14 v90=>κ2 (tZ l_0 l_1 t b9_1 r2 b9_4 v d b9_5 more14 v90)) r12 l_0 l_1 t b9_1 r2 b9_4 b9_5 x10 more14 v d v90 n b17_1 v103:=bR (wq hd k (cK κ) r12 l_0 l_1 t b9_1 r2 b9_4 b9_5 x10 more14 v d v90 (fun b9_5 more14 v90=>κ2 (tZ l_0 l_1 t b9_1 r2 b9_4 v d b9_5 more14 v90))) rfl (fun _=>rfl) fun r b17_1 v103=>by kernel_rfl
theorem Un (b9_1 r2 b9_4): ∀n b9_5 more14 v90,(kE hd k).lp κ 16 [] n (tZ l_0 l_1 t b9_1 r2 b9_4 v d b9_5 more14 v90)=iX hd k (cK κ) l_0 l_1 t b9_1 r2 b9_4 v d n b9_5 more14 v90:=gi (fun own=>rP hd k (cK κ) l_0 l_1 t b9_1 r2 b9_4 v d (fun r12 b9_5 x10 more14 v90 b17_1 v103=>mq hd k (cK κ) own r12 l_0 l_1 t b9_1 r2 b9_4 b9_5 x10 more14 v d v90 k b17_1 v103) own) rfl (fun _=>rfl) fun r b9_5 more14 v90=>Eq.trans (b:=rP hd k (cK κ) l_0 l_1 t b9_1 r2 b9_4 v d (fun r12 b9_5 x10 more14 v90 b17_1 v103=>(kE hd k).lp κ 20 [r] k (JP r12 l_0 l_1 t b9_1 r2 b9_4 b9_5 x10 more14 v d v90 b17_1 v103)) (fun b9_5 more14 v90=>r (tZ l_0 l_1 t b9_1 r2 b9_4 v d b9_5 more14 v90)) b9_5 more14 v90) (by kernel_rfl) (by simp only [Uo])
theorem Um (b9_1 r2): ∀n b9_4 v57,(kE hd k).lp κ 7 [] n (Ds l_0 l_1 t b9_1 r2 v d b9_4 v57)=lb hd k (cK κ) l_0 l_1 t b9_1 r2 v d n b9_4 v57:=bR (fun own=>rO hd k (cK κ) l_0 l_1 t b9_1 r2 v d (fun b9_4 b9_5 more14 v90=>iX hd k (cK κ) l_0 l_1 t b9_1 r2 b9_4 v d k b9_5 more14 v90) own) rfl (fun _=>rfl) fun r b9_4 v57=>Eq.trans (b:=rO hd k (cK κ) l_0 l_1 t b9_1 r2 v d (fun b9_4 b9_5 more14 v90=>(kE hd k).lp κ 16 [] k (tZ l_0 l_1 t b9_1 r2 b9_4 v d b9_5 more14 v90)) (fun b9_4 v57=>r (Ds l_0 l_1 t b9_1 r2 v d b9_4 v57)) b9_4 v57) (by kernel_rfl) (by simp only [Un])
theorem Ul (r2): ∀n b9_1,(kE hd k).jn κ 1000006 [] n (JO l_0 l_1 t r2 v d b9_1)=tH hd k (cK κ) l_0 l_1 t r2 v d n b9_1:=Is (Bk hd k (cK κ) l_0 l_1 t r2 v d (fun b9_1 b9_4 v57=>lb hd k (cK κ) l_0 l_1 t b9_1 r2 v d k b9_4 v57)) rfl (fun _=>rfl) (fun b9_1=>Eq.trans (b:=Bk hd k (cK κ) l_0 l_1 t r2 v d (fun b9_1 b9_4 v57=>(kE hd k).lp κ 7 [] k (Ds l_0 l_1 t b9_1 r2 v d b9_4 v57)) b9_1) (by kernel_rfl) (by simp only [Um]))
end
theorem yO {S:Type} (o:Obj) (ho:ag o): ∀k:Nat,Tl o 85 (uI (dt k:gC S))
 |0=>gy fun l_0 l_1 t v d κ x h=>by cases h
 |k+1=>aj (kE (dt k) k) ⟨jP o ho k,yO o ho k,XW o ho k,trivial⟩ Tryz.func85 (by kernel_rfl) fun l_0 l_1 t v d κ x h=>Eq.trans (b:=FU (dt k) k (cK κ) (fun r2 b9_1=>(kE (dt k) k).jn κ 1000006 [] k (JO l_0 l_1 t r2 v d b9_1)) l_0 l_1 t v d) (by kernel_rfl) (Eq.trans (by simp only [Ul];rfl) h)
def Mw {S:Type} (k:Nat):Rw S:=ah CX QR fun c0 c1 c2 κ=>aa k (xV k c0 c1 c2) (ad3 c0 c1 c2 κ)
def SD {S:Type} (k:Nat):Fx S:=fp 11 [(85,uI (dt k))] [] k Tryz.f206 3
theorem XX {S:Type} (o:Obj) (ho:ag o) (k:Nat):Tl o 206 (Mw k:Rw S):=aj (SD k) ⟨yO o ho k,trivial⟩ Tryz.func206 (by kernel_rfl) fun c0 c1 c2 κ x h=>Eq.trans (by kernel_rfl) (am h)
def Mx {S:Type} (k:Nat):Rw S:=ah ZZ QR fun t numbers c0 c1 c2 κ=>aa k (x_ k t numbers c0 c1 c2) (zB c0 c1 c2 κ)
def A9 {S:Type} (k:Nat):Fx S:=⟨⟨30,(fun _=>[]),(fun _=>false),.none,fun|6=>true|7=>true|_=>false⟩,[(40,jm k),(206,Mw k)],[(5,⟨[(2,.none),(6,.none),(7,.none),(17,.none),(18,.none),(19,.none)],[(1000000,[.none]),(1000001,[.none]),(1000002,[.none,.none,.none,.none,.none,.none]),(5000006,[.none,.none,.none,some (320200387,true),some (320200388,true),some (320200389,true)]),(5000007,[.none])]⟩,aS 5 11)],k,Tryz.f83,false,[],3,some (oT 16 164 Tryz.f164 k)⟩
def JQ (c0 c1:Int) (c2:Tm) (numbers:List Int) (v19:Int):St UU:=⟨[(2,(.func 206 [] [(pt 1000000),(pt 1000001),(pt 1000002)])),(6,(pt 5000006)),(7,(pt 5000007)),(17,(mO numbers .none)),(18,(.int .i64 (numbers.length:Int))),(19,(iI v19))],[(1000000,bI c0),(1000001,bI c1),(1000002,bT c2),(5000006,.cells [(iI 0),(iI 0),(.str ByteArray.empty),(.own 320200387 0),(.own 320200388 0),(.own 320200389 0)]),(5000007,bI 0)],[(320200389,⟨0,ET.B,([]:List (Br Tm))⟩),(320200388,⟨0,ET.T,([]:List Tm)⟩),(320200387,⟨0,ET.C,([]:List Cl)⟩)],[(320200389,.wr),(320200388,.wr),(320200387,.wr)]⟩
section
variable {S:Type} (k:Nat) (t:Tm) (numbers:List Int) (c0 c1:Int) (c2:Tm) (κ:Out UU→Option S)
theorem Uq: ∀n v19,(A9 k).lp κ 5 [] n (JQ c0 c1 c2 numbers v19)=nQ k (zB c0 c1 c2 κ) c0 c1 c2 numbers n v19:=eP (wm k (zB c0 c1 c2 κ) c0 c1 c2 numbers) rfl (fun _=>rfl) fun r v19=>by kernel_rfl
end
theorem XY {S:Type} (o:Obj) (ho:ag o) (k:Nat):Tl o 83 (Mx k:Rw S):=Ao (A9 k) rfl (wU o Tryz.func164 (by kernel_rfl)) ⟨jQ o ho k,XX o ho k,trivial⟩ Tryz.func83 (by kernel_rfl) fun t numbers c0 c1 c2 κ x h=>Eq.trans (b:=Ak k (zB c0 c1 c2 κ) (fun v19=>(A9 k).lp κ 5 [] k (JQ c0 c1 c2 numbers v19)) t numbers c0 c1 c2) (by kernel_rfl) (Eq.trans (by simp only [Uq];rfl) (am h))
def zT {S:Type} (k:Nat):Rw S:=ah pI xn fun t vars dims κ=>aa k (lS k t vars dims) (gn κ)
def SE {S:Type} (k:Nat):Fx S:=fp 18 [(83,Mx k)] [] k Tryz.f119 0
theorem Cm {S:Type} (o:Obj) (ho:ag o) (k:Nat):Tl o 119 (zT k:Rw S):=aj (SE k) ⟨XY o ho k,trivial⟩ Tryz.func119 (by kernel_rfl) fun t vars dims κ x h=>Eq.trans (by kernel_rfl) (am h)
def ov {S:Type} (k:Nat):Rw S:=ah CY cr fun t vars dims c0 κ=>aa k (eu k t vars dims c0) (gU κ)
def SF {S:Type} (k:Nat):Fx S:=fp 21 [(93,jo k),(94,jp k),(119,zT k)] [] k Tryz.f56 1
theorem pu {S:Type} (o:Obj) (ho:ag o) (k:Nat):Tl o 56 (ov k:Rw S):=aj (SF k) ⟨jR o ho k,jS o ho k,Cm o ho k,trivial⟩ Tryz.func56 (by kernel_rfl) fun t vars dims c0 κ x h=>Eq.trans (by kernel_rfl) (am h)
def Ea {S:Type} (k:Nat):Rw S:=ah jV xn fun a_n κ=>aa k (s8 k a_n) (KO κ)
def SG {S:Type} (k:Nat):Fx S:=fx 5 (fun _=>[]) (fun _=>false) [] [] k Tryz.f95 true [] 0
theorem HG {S:Type} (o:Obj) (ho:ag o) (k:Nat):Tl o 95 (Ea k:Rw S):=aj (SG k) trivial Tryz.func95 (by kernel_rfl) fun a_n κ x h=>Eq.trans (by kernel_rfl) (am h)
def ow {S:Type} (k:Nat):Rw S:=ah Z0 cr fun a_e c0 κ=>aa k (jJ k a_e c0) (ad4 κ)
def SH {S:Type} (k:Nat):Fx S:=fp 13 [] [] k Tryz.f270 1
theorem pw {S:Type} (o:Obj) (ho:ag o) (k:Nat):Tl o 270 (ow k:Rw S):=aj (SH k) trivial Tryz.func270 (by kernel_rfl) fun a_e c0 κ x h=>Eq.trans (by kernel_rfl) (am h)
def zU {S:Type} (k:Nat):Rw S:=ah IC xn fun l κ=>aa k (lP k l) (zC κ)
def A_ {S:Type} (k:Nat):Fx S:=fp 22 [(40,jm k),(270,ow k)] [(3,bW [3,8,9,10] [(7,1)],aS 5 11)] k Tryz.f207 0
def JR (l:List Tm) (b7_0 v10:Int):St UU:=⟨[(3,(pt 7)),(8,(sT l)),(9,(.int .i64 (l.length:Int))),(10,(iI v10))],[(7,bI b7_0)],[],[]⟩
section
variable {S:Type} (k:Nat) (l:List Tm) (κ:Out UU→Option S)
theorem Ur: ∀n b7_0 v10,(A_ k).lp κ 3 [] n (JR l b7_0 v10)=pJ k (zC κ) l n b7_0 v10:=bR (vC k (zC κ) l) rfl (fun _=>rfl) fun r b7_0 v10=>by kernel_rfl
end
theorem Cn {S:Type} (o:Obj) (ho:ag o) (k:Nat):Tl o 207 (zU k:Rw S):=aj (A_ k) ⟨jQ o ho k,pw o ho k,trivial⟩ Tryz.func207 (by kernel_rfl) fun l κ x h=>Eq.trans (b:=E_ k (zC κ) (fun b7_0 v10=>(A_ k).lp κ 3 [] k (JR l b7_0 v10)) l) (by kernel_rfl) (Eq.trans (by simp only [Ur];rfl) (am h))
def mF {S:Type} (k:Nat):Rw S:=ah yV cr fun c0 κ=>aa k (dm k c0) (fh c0 κ)
def SI {S:Type} (k:Nat):Fx S:=fp 8 [] [] k Tryz.f210 1
theorem nB {S:Type} (o:Obj) (ho:ag o) (k:Nat):Tl o 210 (mF k:Rw S):=aj (SI k) trivial Tryz.func210 (by kernel_rfl) fun c0 κ x h=>Eq.trans (by kernel_rfl) (am h)
def My {S:Type} (k:Nat):Rw S:=ah Z1 cr fun f c0 κ=>aa k (sL k f c0) (KP κ)
def SJ {S:Type} (k:Nat):Fx S:=fp 23 [(75,ou k),(210,mF k),(270,ow k)] [] k Tryz.f211 1
theorem XZ {S:Type} (o:Obj) (ho:ag o) (k:Nat):Tl o 211 (My k:Rw S):=aj (SJ k) ⟨pr o ho k,nB o ho k,pw o ho k,trivial⟩ Tryz.func211 (by kernel_rfl) fun f c0 κ x h=>Eq.trans (by kernel_rfl) (am h)
section
variable {S:Type} (k:Nat) (l:List (List Cl)) (κ:Out UU→Option S)
end
def Mz {S:Type} (k:Nat):Rw S:=ah pH xn fun f g κ=>aa k (xv k f g) (bH κ)
def SK {S:Type} (k:Nat):Fx S:=fp 14 [(146,ke k)] [] k Tryz.f243 0
theorem X0 {S:Type} (o:Obj) (ho:ag o) (k:Nat):Tl o 243 (Mz k:Rw S):=aj (SK k) ⟨kS o ho k,trivial⟩ Tryz.func243 (by kernel_rfl) fun f g κ x h=>Eq.trans (by kernel_rfl) (am h)
def MA {S:Type} (k:Nat):Rw S:=ah CX AB fun c0 c1 c2 κ=>aa k (xW k c0 c1 c2) (KQ c0 c1 c2 κ)
def SL {S:Type} (k:Nat):Fx S:=fp 10 [(85,uI (dt k))] [] k Tryz.f84 3
theorem X1 {S:Type} (o:Obj) (ho:ag o) (k:Nat):Tl o 84 (MA k:Rw S):=aj (SL k) ⟨yO o ho k,trivial⟩ Tryz.func84 (by kernel_rfl) fun c0 c1 c2 κ x h=>Eq.trans (by kernel_rfl) (am h)
def MB {S:Type} (k:Nat):Rw S:=ah Z3 AB fun t numbers c0 c1 c2 κ=>aa k (xY k t numbers c0 c1 c2) (mC c0 c1 c2 κ)
def Ba {S:Type} (k:Nat):Fx S:=⟨⟨30,(fun _=>[]),(fun _=>false),.none,fun|6=>true|7=>true|_=>false⟩,[(40,jm k),(84,MA k)],[(5,⟨[(2,.none),(6,.none),(7,.none),(17,.none),(18,.none),(19,.none)],[(1000000,[.none]),(1000001,[.none,.none,.none,.none,.none,.none]),(1000002,[.none]),(5000006,[.none,.none,.none,some (320200387,true),some (320200388,true),some (320200389,true)]),(5000007,[.none])]⟩,aS 5 11)],k,Tryz.f83,false,[],3,some (oT 16 164 Tryz.f164 k)⟩
def JT (c0:Int) (c1:Tm) (c2:Int) (numbers:List Int) (v19:Int):St UU:=⟨[(2,(.func 84 [] [(pt 1000000),(pt 1000001),(pt 1000002)])),(6,(pt 5000006)),(7,(pt 5000007)),(17,(mO numbers .none)),(18,(.int .i64 (numbers.length:Int))),(19,(iI v19))],[(1000000,bI c0),(1000001,bT c1),(1000002,bI c2),(5000006,.cells [(iI 0),(iI 0),(.str ByteArray.empty),(.own 320200387 0),(.own 320200388 0),(.own 320200389 0)]),(5000007,bI 0)],[(320200389,⟨0,ET.B,([]:List (Br Tm))⟩),(320200388,⟨0,ET.T,([]:List Tm)⟩),(320200387,⟨0,ET.C,([]:List Cl)⟩)],[(320200389,.wr),(320200388,.wr),(320200387,.wr)]⟩
section
variable {S:Type} (k:Nat) (t:Tm) (numbers:List Int) (c0:Int) (c1:Tm) (c2:Int) (κ:Out UU→Option S)
theorem Uv: ∀n v19,(Ba k).lp κ 5 [] n (JT c0 c1 c2 numbers v19)=nO k (mC c0 c1 c2 κ) c0 c1 c2 numbers n v19:=eP (wj k (mC c0 c1 c2 κ) c0 c1 c2 numbers) rfl (fun _=>rfl) fun r v19=>by kernel_rfl
end
theorem X2 {S:Type} (o:Obj) (ho:ag o) (k:Nat):Tl o 83 (MB k:Rw S):=Ao (Ba k) rfl (wU o Tryz.func164 (by kernel_rfl)) ⟨jQ o ho k,X1 o ho k,trivial⟩ Tryz.func83 (by kernel_rfl) fun t numbers c0 c1 c2 κ x h=>Eq.trans (b:=Ai k (mC c0 c1 c2 κ) (fun v19=>(Ba k).lp κ 5 [] k (JT c0 c1 c2 numbers v19)) t numbers c0 c1 c2) (by kernel_rfl) (Eq.trans (by simp only [Uv];rfl) (am h))
def zW {S:Type} (k:Nat):Rw S:=ah pI xn fun t a_from a_by κ=>aa k (lU k t a_from a_by) (gn κ)
def SM {S:Type} (k:Nat):Fx S:=fp 16 [(83,MB k)] [] k Tryz.f35 0
theorem Co {S:Type} (o:Obj) (ho:ag o) (k:Nat):Tl o 35 (zW k:Rw S):=aj (SM k) ⟨X2 o ho k,trivial⟩ Tryz.func35 (by kernel_rfl) fun t a_from a_by κ x h=>Eq.trans (by kernel_rfl) (am h)
def uJ {S:Type} (k:Nat):Rw S:=ah yT xn fun s i κ=>aa k (jK k s i) (mB κ)
def SN {S:Type} (k:Nat):Fx S:=fp 16 [(232,uG k)] [] k Tryz.f222 0
theorem yw {S:Type} (o:Obj) (ho:ag o) (k:Nat):Tl o 222 (uJ k:Rw S):=aj (SN k) ⟨yv o ho k,trivial⟩ Tryz.func222 (by kernel_rfl) fun s i κ x h=>Eq.trans (by kernel_rfl) (am h)
def MC {S:Type} (k:Nat):Rw S:=ah CU xn fun a_x κ=>aa k (Hg k a_x) (bk κ)
def SP {S:Type} (k:Nat):Fx S:=fp 21 [] [] k Tryz.f275 0
theorem X3 {S:Type} (o:Obj) (ho:ag o) (k:Nat):Tl o 275 (MC k:Rw S):=aj (SP k) trivial Tryz.func275 (by kernel_rfl) fun a_x κ x h=>Eq.trans (by kernel_rfl) (am h)
def zX {S:Type} (k:Nat):Rw S:=ah CU xn fun s κ=>aa k (lV k s) (bk κ)
def SQ {S:Type} (k:Nat):Fx S:=fp 6 [(275,MC k)] [] k Tryz.f221 0
theorem Cp {S:Type} (o:Obj) (ho:ag o) (k:Nat):Tl o 221 (zX k:Rw S):=aj (SQ k) ⟨X3 o ho k,trivial⟩ Tryz.func221 (by kernel_rfl) fun s κ x h=>Eq.trans (by kernel_rfl) (am h)
def MD {S:Type} (k:Nat):Rw S:=ah jV xn fun i κ=>aa k (xk k i) (bw κ)
def SR {S:Type} (k:Nat):Fx S:=fp 7 [(221,zX k),(222,uJ k)] [] k Tryz.f139 0
theorem X4 {S:Type} (o:Obj) (ho:ag o) (k:Nat):Tl o 139 (MD k:Rw S):=aj (SR k) ⟨Cp o ho k,yw o ho k,trivial⟩ Tryz.func139 (by kernel_rfl) fun i κ x h=>Eq.trans (by kernel_rfl) (am h)
def ME {S:Type} (k:Nat):Rw S:=ah IE xn fun t i a_r κ=>aa k (xp k t i a_r) (bk κ)
def SS {S:Type} (k:Nat):Fx S:=fp 21 [(40,jm k),(139,MD k),(140,ot k)] [] k Tryz.f74 0
theorem X5 {S:Type} (o:Obj) (ho:ag o) (k:Nat):Tl o 74 (ME k:Rw S):=aj (SS k) ⟨jQ o ho k,X4 o ho k,pq o ho k,trivial⟩ Tryz.func74 (by kernel_rfl) fun t i a_r κ x h=>Eq.trans (by kernel_rfl) (am h)
def MF {S:Type} (k:Nat):Rw S:=ah IF vk fun c0 c1 κ=>aa k (BP k c0 c1) (ad5 c0 c1 κ)
def ST {S:Type} (k:Nat):Fx S:=fp 6 [] [] k Tryz.f147 2
theorem X6 {S:Type} (o:Obj) (ho:ag o) (k:Nat):Tl o 147 (MF k:Rw S):=aj (ST k) trivial Tryz.func147 (by kernel_rfl) fun c0 c1 κ x h=>Eq.trans (by kernel_rfl) (am h)
def MG {S:Type} (k:Nat):Rw S:=ah Z4 vk fun c0 c1 κ=>aa k (BQ k c0 c1) (ad6 c0 c1 κ)
def SU {S:Type} (k:Nat):Fx S:=fp 6 [] [] k Tryz.f147 2
theorem X7 {S:Type} (o:Obj) (ho:ag o) (k:Nat):Tl o 147 (MG k:Rw S):=aj (SU k) trivial Tryz.func147 (by kernel_rfl) fun c0 c1 κ x h=>Eq.trans (by kernel_rfl) (am h)
def MH {S:Type} (k:Nat):Rw S:=ah Z5 xn fun i a_r κ=>aa k (BO k i a_r) (ad7 κ)
def SV {S:Type} (k:Nat):Fx S:=fp 12 [(147,lq (nD IF vk) (MF k) (MG k))] [] k Tryz.f76 0
theorem X8 {S:Type} (o:Obj) (ho:ag o) (k:Nat):Tl o 76 (MH k:Rw S):=aj (SV k) ⟨ol (X6 o ho k) (X7 o ho k),trivial⟩ Tryz.func76 (by kernel_rfl) fun i a_r κ x h=>Eq.trans (by kernel_rfl) (am h)
def uK {S:Type} (k:Nat):Rw S:=ah yT xn fun s i κ=>aa k (iP k s i) (bw κ)
def SW {S:Type} (k:Nat):Fx S:=fp 15 [(232,uG k)] [] k Tryz.f149 0
theorem yx {S:Type} (o:Obj) (ho:ag o) (k:Nat):Tl o 149 (uK k:Rw S):=aj (SW k) ⟨yv o ho k,trivial⟩ Tryz.func149 (by kernel_rfl) fun s i κ x h=>Eq.trans (by kernel_rfl) (am h)
def Ec {S:Type} (k:Nat):Rw S:=ah jW xn fun f κ=>aa k (sO k f) (qO κ)
def SX {S:Type} (k:Nat):Fx S:=fp 5 [] [] k Tryz.f151 0
theorem HI {S:Type} (o:Obj) (ho:ag o) (k:Nat):Tl o 151 (Ec k:Rw S):=aj (SX k) trivial Tryz.func151 (by kernel_rfl) fun f κ x h=>Eq.trans (by kernel_rfl) (am h)
def MI {S:Type} (k:Nat):Rw S:=ah jV xn fun i κ=>aa k (xu k i) (bw κ)
def SY {S:Type} (k:Nat):Fx S:=fp 7 [(221,zX k),(222,uJ k)] [] k Tryz.f239 0
theorem X9 {S:Type} (o:Obj) (ho:ag o) (k:Nat):Tl o 239 (MI k:Rw S):=aj (SY k) ⟨Cp o ho k,yw o ho k,trivial⟩ Tryz.func239 (by kernel_rfl) fun i κ x h=>Eq.trans (by kernel_rfl) (am h)
def Ed {S:Type} (k:Nat):Rw S:=ah yS xn fun c κ=>aa k (sU k c) (ad8 κ)
def S0 {S:Type} (k:Nat):Fx S:=fp 8 [(269,D5 k)] [] k Tryz.f284 0
theorem HJ {S:Type} (o:Obj) (ho:ag o) (k:Nat):Tl o 284 (Ed k:Rw S):=aj (S0 k) ⟨HB o ho k,trivial⟩ Tryz.func284 (by kernel_rfl) fun c κ x h=>Eq.trans (by kernel_rfl) (am h)
def MK {S:Type} (k:Nat):Rw S:=ah Z6 xn fun l κ=>aa k (xx k l) (qO κ)
def Bb {S:Type} (k:Nat):Fx S:=fp 29 [(284,Ed k)] [(3,⟨[(1,.none),(5,some (100005,true)),(10,.none),(11,.none),(12,.none)],[]⟩,aS 5 11)] k Tryz.f272 0
def JV (l:List Cl) (v12:Int) (out5:List Cl):St UU:=⟨[(1,(.func 284 [] [])),(5,(.own 100005 0)),(10,(sC l)),(11,(.int .i64 (l.length:Int))),(12,(iI v12))],[],[(100005,⟨0,ET.C,out5⟩)],[(100005,.wr)]⟩
section
variable {S:Type} (k:Nat) (l:List Cl) (κ:Out UU→Option S)
theorem Uz: ∀n v12 out5,(Bb k).lp κ 3 [] n (JV l v12 out5)=pO k (qO κ) l n v12 out5:=bR (vO k (qO κ) l) rfl (fun _=>rfl) fun r v12 out5=>by kernel_rfl
end
theorem Ya {S:Type} (o:Obj) (ho:ag o) (k:Nat):Tl o 272 (MK k:Rw S):=aj (Bb k) ⟨HJ o ho k,trivial⟩ Tryz.func272 (by kernel_rfl) fun l κ x h=>Eq.trans (b:=Fw k (qO κ) (fun v12 out5=>(Bb k).lp κ 3 [] k (JV l v12 out5)) l) (by kernel_rfl) (Eq.trans (by simp only [Uz];rfl) (am h))
def Ee {S:Type} (k:Nat):Rw S:=ah jW xn fun f κ=>aa k (sS k f) (bH κ)
def S1 {S:Type} (k:Nat):Fx S:=fp 12 [(140,ot k),(146,ke k),(272,MK k)] [] k Tryz.f240 0
theorem HK {S:Type} (o:Obj) (ho:ag o) (k:Nat):Tl o 240 (Ee k:Rw S):=aj (S1 k) ⟨pq o ho k,kS o ho k,Ya o ho k,trivial⟩ Tryz.func240 (by kernel_rfl) fun f κ x h=>Eq.trans (by kernel_rfl) (am h)
def ML {S:Type} (k:Nat):Rw S:=ah CW vj fun b c0 κ=>aa k (xy k b c0) (ad9 c0 κ)
def S2 {S:Type} (k:Nat):Fx S:=fp 11 [(278,zO k),(284,Ed k)] [] k Tryz.f285 1
theorem Yb {S:Type} (o:Obj) (ho:ag o) (k:Nat):Tl o 285 (ML k:Rw S):=aj (S2 k) ⟨Ch o ho k,HJ o ho k,trivial⟩ Tryz.func285 (by kernel_rfl) fun b c0 κ x h=>Eq.trans (by kernel_rfl) (am h)
def MM {S:Type} (k:Nat):Rw S:=ah Z7 vj fun l c0 κ=>aa k (xw k l c0) (zD c0 κ)
def Bc {S:Type} (k:Nat):Fx S:=fp 29 [(285,ML k)] [(3,⟨[(1,.none),(5,some (100005,true)),(10,.none),(11,.none),(12,.none)],[(1000000,[.none,.none])]⟩,aS 5 11)] k Tryz.f272 1
def JW (c0:Cl) (l:List Cl) (v12:Int) (out5:List Cl):St UU:=⟨[(1,(.func 285 [] [(pt 1000000)])),(5,(.own 100005 0)),(10,(sC l)),(11,(.int .i64 (l.length:Int))),(12,(iI v12))],[(1000000,bC c0)],[(100005,⟨0,ET.C,out5⟩)],[(100005,.wr)]⟩
section
variable {S:Type} (k:Nat) (l:List Cl) (c0:Cl) (κ:Out UU→Option S)
theorem UA: ∀n v12 out5,(Bc k).lp κ 3 [] n (JW c0 l v12 out5)=pN k (zD c0 κ) c0 l n v12 out5:=bR (vM k (zD c0 κ) c0 l) rfl (fun _=>rfl) fun r v12 out5=>by kernel_rfl
end
theorem Yc {S:Type} (o:Obj) (ho:ag o) (k:Nat):Tl o 272 (MM k:Rw S):=aj (Bc k) ⟨Yb o ho k,trivial⟩ Tryz.func272 (by kernel_rfl) fun l c0 κ x h=>Eq.trans (b:=Fv k (zD c0 κ) (fun v12 out5=>(Bc k).lp κ 3 [] k (JW c0 l v12 out5)) l c0) (by kernel_rfl) (Eq.trans (by simp only [UA];rfl) (am h))
def MN {S:Type} (k:Nat):Rw S:=ah pH xn fun f g κ=>aa k (o0 k f g) (bH κ)
def Bd {S:Type} (k:Nat):Fx S:=fp 25 [(146,ke k),(272,MM k)] [(3,⟨[(1,.none),(6,some (100006,true)),(9,.none),(10,.none),(11,.none)],[]⟩,aS 5 11)] k Tryz.f241 0
def JX (g f:List Cl) (v11:Int) (out6:List Cl):St UU:=⟨[(1,(sC g)),(6,(.own 100006 0)),(9,(sC f)),(10,(.int .i64 (f.length:Int))),(11,(iI v11))],[],[(100006,⟨0,ET.C,out6⟩)],[(100006,.wr)]⟩
section
variable {S:Type} (k:Nat) (f g:List Cl) (κ:Out UU→Option S)
theorem UB: ∀n v11 out6,(Bd k).lp κ 3 [] n (JX g f v11 out6)=pP k (bH κ) g f n v11 out6:=bR (vP k (bH κ) g f) rfl (fun _=>rfl) fun r v11 out6=>by kernel_rfl
end
theorem Yd {S:Type} (o:Obj) (ho:ag o) (k:Nat):Tl o 241 (MN k:Rw S):=aj (Bd k) ⟨kS o ho k,Yc o ho k,trivial⟩ Tryz.func241 (by kernel_rfl) fun f g κ x h=>Eq.trans (b:=Fy k (bH κ) (fun v11 out6=>(Bd k).lp κ 3 [] k (JX g f v11 out6)) f g) (by kernel_rfl) (Eq.trans (by simp only [UB];rfl) (am h))
def zY {S:Type} (k:Nat):Rw S:=ah cn xn fun κ=>aa k (nr k) (qO κ)
def S3 {S:Type} (k:Nat):Fx S:=fp 3 [] [] k Tryz.f29 0
theorem Cq {S:Type} (o:Obj) (ho:ag o) (k:Nat):Tl o 29 (zY k:Rw S):=aj (S3 k) trivial Tryz.func29 (by kernel_rfl) fun κ x h=>Eq.trans (by kernel_rfl) (am h)
def MO {S:Type} (k:Nat):Rw S:=ah yS xn fun c κ=>aa k (xG k c) (bH κ)
def rC {S:Type} (k:Nat):Fx S:=fp 43 [(146,ke k),(222,uJ k),(314,Eu)] [(3,⟨[(1,.none),(4,some (100004,true)),(11,.none),(12,.none),(13,.none)],[(1,[.none,.none])]⟩,aS 5 11),(8,⟨[(4,some (100004,true)),(26,.none),(27,.none),(28,.none)],[]⟩,aS 6 23)] k Tryz.f283 0
def Dv (c:Cl) (r1:List Int) (v13:Int) (out4:List Cl):St UU:=⟨[(1,(pt 1)),(4,(.own 100004 0)),(11,(mO r1 .none)),(12,(.int .i64 (r1.length:Int))),(13,(iI v13))],[(1,bC c)],[(100004,⟨0,ET.C,out4⟩)],[(100004,.wr)]⟩
def JY (r5:List Int) (v28:Int) (out4':List Cl):St UU:=⟨[(4,(.own 100004 0)),(26,(mO r5 .none)),(27,(.int .i64 (r5.length:Int))),(28,(iI v28))],[],[(100004,⟨0,ET.C,out4'⟩)],[(100004,.wr)]⟩
section
variable {S:Type} (k:Nat) (c:Cl) (κ:Out UU→Option S)
theorem UD (r5): ∀n v28 out4',(rC k).lp κ 8 [] n (JY r5 v28 out4')=nM k (bH κ) r5 n v28 out4':=bR (vV k (bH κ) r5) rfl (fun _=>rfl) fun r v28 out4'=>by kernel_rfl
theorem UC (r1): ∀n v13 out4,(rC k).lp κ 3 [] n (Dv c r1 v13 out4)=pU k (bH κ) c r1 n v13 out4:=bR (fun own=>rL k (bH κ) c r1 (fun r5 v28 out4'=>nM k (bH κ) r5 k v28 out4') own) rfl (fun _=>rfl) fun r v13 out4=>Eq.trans (b:=rL k (bH κ) c r1 (fun r5 v28 out4'=>(rC k).lp κ 8 [] k (JY r5 v28 out4')) (fun v13 out4=>r (Dv c r1 v13 out4)) v13 out4) (by kernel_rfl) (by simp only [UD])
end
theorem Ye {S:Type} (o:Obj) (ho:ag o) (k:Nat):Tl o 283 (MO k:Rw S):=aj (rC k) ⟨kS o ho k,yw o ho k,ag4 o ho,trivial⟩ Tryz.func283 (by kernel_rfl) fun c κ x h=>Eq.trans (b:=FF k (bH κ) (fun r1 v13 out4=>(rC k).lp κ 3 [] k (Dv c r1 v13 out4)) c) (by kernel_rfl) (Eq.trans (by simp only [UC];rfl) (am h))
def Ef {S:Type} (k:Nat):Rw S:=ah pH xn fun f g κ=>aa k (kO k f g) (bH κ)
def rD {S:Type} (k:Nat):Fx S:=fp 35 [(146,ke k),(278,zO k)] [(3,⟨[(1,.none),(6,some (100006,true)),(11,.none),(12,.none),(13,.none)],[]⟩,aS 5 11),(6,⟨[(1,.none),(6,some (100006,true)),(8,.none),(11,.none),(12,.none),(13,.none),(17,.none),(18,.none),(19,.none)],[(8,[.none,.none])]⟩,aS 13 3275)] k Tryz.f236 0
def t8 (g f:List Cl) (v13:Int) (out6:List Cl):St UU:=⟨[(1,(sC g)),(6,(.own 100006 0)),(11,(sC f)),(12,(.int .i64 (f.length:Int))),(13,(iI v13))],[],[(100006,⟨0,ET.C,out6⟩)],[(100006,.wr)]⟩
def JZ (x1:Cl) (g f:List Cl) (v13:Int) (v19:Int) (out6':List Cl):St UU:=⟨[(1,(sC g)),(6,(.own 100006 0)),(8,(pt 8)),(11,(sC f)),(12,(.int .i64 (f.length:Int))),(13,(iI v13)),(17,(sC g)),(18,(.int .i64 (g.length:Int))),(19,(iI v19))],[(8,bC x1)],[(100006,⟨0,ET.C,out6'⟩)],[(100006,.wr)]⟩
section
variable {S:Type} (k:Nat) (f g:List Cl) (κ:Out UU→Option S)
theorem UF (x1 v13 κ0): ∀n v19 out6',(rD k).lp κ 6 [κ0] n (JZ x1 g f v13 v19 out6')=nL k (bH κ) (fun v13 out6=>κ0 (t8 g f v13 out6)) x1 g f v13 n v19 out6':=bR (vU k (bH κ) x1 g f v13 (fun v13 out6=>κ0 (t8 g f v13 out6))) rfl (fun _=>rfl) fun r v19 out6'=>by kernel_rfl
theorem UE: ∀n v13 out6,(rD k).lp κ 3 [] n (t8 g f v13 out6)=mo k (bH κ) g f n v13 out6:=bR (fun own=>rK k (bH κ) g f (fun x1 v13 v19 out6'=>nL k (bH κ) own x1 g f v13 k v19 out6') own) rfl (fun _=>rfl) fun r v13 out6=>Eq.trans (b:=rK k (bH κ) g f (fun x1 v13 v19 out6'=>(rD k).lp κ 6 [r] k (JZ x1 g f v13 v19 out6')) (fun v13 out6=>r (t8 g f v13 out6)) v13 out6) (by kernel_rfl) (by simp only [UF])
end
theorem HL {S:Type} (o:Obj) (ho:ag o) (k:Nat):Tl o 236 (Ef k:Rw S):=aj (rD k) ⟨kS o ho k,Ch o ho k,trivial⟩ Tryz.func236 (by kernel_rfl) fun f g κ x h=>Eq.trans (b:=FE k (bH κ) (fun v13 out6=>(rD k).lp κ 3 [] k (t8 g f v13 out6)) f g) (by kernel_rfl) (Eq.trans (by simp only [UE];rfl) (am h))
end
end Go.Proofs.YtgajalidbabccaaGreatDoor
namespace Go.Proofs.YtgajalidbabccaaGreatDoor
open Go PI
set_option linter.unusedVariables false
set_option maxRecDepth 100000
noncomputable section
def MP {S:Type} (k:Nat):Rw S:=ah Z8 xn fun a_have c κ=>aa k (xF k a_have c) (bH κ)
def S4 {S:Type} (k:Nat):Fx S:=fp 21 [(236,Ef k),(283,MO k)] [] k Tryz.f282 0
theorem Yf {S:Type} (o:Obj) (ho:ag o) (k:Nat):Tl o 282 (MP k:Rw S):=aj (S4 k) ⟨HL o ho k,Ye o ho k,trivial⟩ Tryz.func282 (by kernel_rfl) fun a_have c κ x h=>Eq.trans (by kernel_rfl) (am h)
def MS {S:Type} (k:Nat):Rw S:=ah Z_ xn fun l a_from κ=>aa k (BX k l a_from) (bH κ)
def Be {S:Type} (k:Nat):Fx S:=fp 33 [(282,MP k)] [(2,bW [1,2,13,14,15] [],aS 4 5)] k Tryz.f142 0
def J4 (l:List Cl) (v1:List Cl) (v15:Int):St UU:=⟨[(1,(sC v1)),(2,(.func 282 [] [])),(13,(sC l)),(14,(.int .i64 (l.length:Int))),(15,(iI v15))],[],[],[]⟩
section
variable {S:Type} (k:Nat) (l a_from:List Cl) (κ:Out UU→Option S)
theorem UG: ∀n v1 v15,(Be k).lp κ 2 [] n (J4 l v1 v15)=pS k (bH κ) l n v1 v15:=bR (vS k (bH κ) l) rfl (fun _=>rfl) fun r v1 v15=>by kernel_rfl
end
theorem Yh {S:Type} (o:Obj) (ho:ag o) (k:Nat):Tl o 142 (MS k:Rw S):=aj (Be k) ⟨Yf o ho k,trivial⟩ Tryz.func142 (by kernel_rfl) fun l a_from κ x h=>Eq.trans (b:=FC k (bH κ) (fun v1 v15=>(Be k).lp κ 2 [] k (J4 l v1 v15)) l a_from) (by kernel_rfl) (Eq.trans (by simp only [UG];rfl) (am h))
def Eg {S:Type} (k:Nat):Rw S:=ah jW xn fun f κ=>aa k (o9 k f) (bH κ)
def S6 {S:Type} (k:Nat):Fx S:=fp 9 [(29,zY k),(142,MS k)] [] k Tryz.f237 0
theorem HM {S:Type} (o:Obj) (ho:ag o) (k:Nat):Tl o 237 (Eg k:Rw S):=aj (S6 k) ⟨Cq o ho k,Yh o ho k,trivial⟩ Tryz.func237 (by kernel_rfl) fun f κ x h=>Eq.trans (by kernel_rfl) (am h)
def MT {S:Type} (k:Nat):Rw S:=ah jW xn fun f κ=>aa k (xA k f) (bH κ)
def S7 {S:Type} (k:Nat):Fx S:=fp 15 [(141,zS k),(237,Eg k)] [] k Tryz.f286 0
theorem Yi {S:Type} (o:Obj) (ho:ag o) (k:Nat):Tl o 286 (MT k:Rw S):=aj (S7 k) ⟨Ck o ho k,HM o ho k,trivial⟩ Tryz.func286 (by kernel_rfl) fun f κ x h=>Eq.trans (by kernel_rfl) (am h)
def MU {S:Type} (k:Nat):Rw S:=ah jW xn fun f κ=>aa k (xq k f) (bH κ)
def S8 {S:Type} (k:Nat):Fx S:=fp 18 [(240,Ee k),(286,MT k)] [] k Tryz.f242 0
theorem Yj {S:Type} (o:Obj) (ho:ag o) (k:Nat):Tl o 242 (MU k:Rw S):=aj (S8 k) ⟨HK o ho k,Yi o ho k,trivial⟩ Tryz.func242 (by kernel_rfl) fun f κ x h=>Eq.trans (by kernel_rfl) (am h)
def MV {S:Type} (k:Nat):Rw S:=ah IG xn fun f i a_r κ=>aa k (xt k f i a_r) (bH κ)
def rE {S:Type} (k:Nat):Fx S:=fp 92 [(140,ot k),(149,uK k),(205,D6 k),(233,zP k),(239,MI k),(240,Ee k),(241,MN k),(242,MU k),(243,Mz k)] [(5,bW [1,2,8,27,28,29] [],aS 6 23),(1000018,bW [1,2,8,11,13,27,28,29] [],aS 16 63895)] k Tryz.f153 0
def t_ (i:Int) (a_r f:List Cl) (v29:Int) (v8:List Cl):St UU:=⟨[(1,(iI i)),(2,(sC a_r)),(8,(sC v8)),(27,(sC f)),(28,(.int .i64 (f.length:Int))),(29,(iI v29))],[],[],[]⟩
def J5 (i:Int) (a_r f:List Cl) (v29:Int) (v8:List Cl) (g11:List Cl) (v13:Int):St UU:=⟨[(1,(iI i)),(2,(sC a_r)),(8,(sC v8)),(11,(sC g11)),(13,(iI v13)),(27,(sC f)),(28,(.int .i64 (f.length:Int))),(29,(iI v29))],[],[],[]⟩
section
variable {S:Type} (k:Nat) (f:List Cl) (i:Int) (a_r:List Cl) (κ:Out UU→Option S)
theorem UI (v29 v8 κ0): ∀n g11 v13,(rE k).jn κ 1000018 [κ0] n (J5 i a_r f v29 v8 g11 v13)=pM k (bH κ) (fun v29 v8=>κ0 (t_ i a_r f v29 v8)) i a_r f v29 v8 n g11 v13:=ZB (vL k (bH κ) i a_r f v29 v8 (fun v29 v8=>κ0 (t_ i a_r f v29 v8))) rfl (fun _=>rfl) (fun g11 v13=>by kernel_rfl)
theorem UH: ∀n v29 v8,(rE k).lp κ 5 [] n (t_ i a_r f v29 v8)=mn k (bH κ) i a_r f n v29 v8:=bR (fun own=>rJ k (bH κ) i a_r f (fun v29 v8 g11 v13=>pM k (bH κ) own i a_r f v29 v8 k g11 v13) own) rfl (fun _=>rfl) fun r v29 v8=>Eq.trans (b:=rJ k (bH κ) i a_r f (fun v29 v8 g11 v13=>(rE k).jn κ 1000018 [r] k (J5 i a_r f v29 v8 g11 v13)) (fun v29 v8=>r (t_ i a_r f v29 v8)) v29 v8) (by kernel_rfl) (by simp only [UI])
end
theorem Yk {S:Type} (o:Obj) (ho:ag o) (k:Nat):Tl o 153 (MV k:Rw S):=aj (rE k) ⟨pq o ho k,yx o ho k,HC o ho k,Ci o ho k,X9 o ho k,HK o ho k,Yd o ho k,Yj o ho k,X0 o ho k,trivial⟩ Tryz.func153 (by kernel_rfl) fun f i a_r κ x h=>Eq.trans (b:=Ft k (bH κ) (fun v29 v8=>(rE k).lp κ 5 [] k (t_ i a_r f v29 v8)) f i a_r) (by kernel_rfl) (Eq.trans (by simp only [UH];rfl) (am h))
def Eh {S:Type} (k:Nat):Rw S:=ah CZ ahL fun f depth c0 c1 κ=>aa k (sP k f depth c0 c1) (ad_ c0 c1 κ)
def S9 {S:Type} (k:Nat):Fx S:=fp 38 [(75,ou k),(149,uK k),(150,zQ k),(151,Ec k),(153,MV k)] [] k Tryz.f148 3
theorem HN {S:Type} (o:Obj) (ho:ag o) (k:Nat):Tl o 148 (Eh k:Rw S):=aj (S9 k) ⟨pr o ho k,yx o ho k,Cj o ho k,HI o ho k,Yk o ho k,trivial⟩ Tryz.func148 (by kernel_rfl) fun f depth c0 c1 κ x h=>Eq.trans (by kernel_rfl) (am h)
def MW {S:Type} (k:Nat):Rw S:=ah jV xn fun i κ=>aa k (xz k i) (bH κ)
def S_ {S:Type} (k:Nat):Fx S:=fp 12 [(221,zX k),(222,uJ k)] [] k Tryz.f234 0
theorem Yl {S:Type} (o:Obj) (ho:ag o) (k:Nat):Tl o 234 (MW k:Rw S):=aj (S_ k) ⟨Cp o ho k,yw o ho k,trivial⟩ Tryz.func234 (by kernel_rfl) fun i κ x h=>Eq.trans (by kernel_rfl) (am h)
def MX {S:Type} (k:Nat):Rw S:=ah pH xn fun f g κ=>aa k (nu k f g) (bH κ)
def Ta {S:Type} (k:Nat):Fx S:=fp 14 [(146,ke k)] [] k Tryz.f238 0
theorem Ym {S:Type} (o:Obj) (ho:ag o) (k:Nat):Tl o 238 (MX k:Rw S):=aj (Ta k) ⟨kS o ho k,trivial⟩ Tryz.func238 (by kernel_rfl) fun f g κ x h=>Eq.trans (by kernel_rfl) (am h)
def MY {S:Type} (k:Nat):Rw S:=ah aaa vk fun a_have c c0 c1 κ=>aa k (xD k a_have c c0 c1) (uy c0 c1 κ)
def Tb {S:Type} (k:Nat):Fx S:=fp 63 [(149,uK k),(233,zP k),(236,Ef k),(237,Eg k),(238,MX k)] [] k Tryz.f235 2
theorem Yn {S:Type} (o:Obj) (ho:ag o) (k:Nat):Tl o 235 (MY k:Rw S):=aj (Tb k) ⟨yx o ho k,Ci o ho k,HL o ho k,HM o ho k,Ym o ho k,trivial⟩ Tryz.func235 (by kernel_rfl) fun a_have c c0 c1 κ x h=>Eq.trans (by kernel_rfl) (am h)
def MZ {S:Type} (k:Nat):Rw S:=ah aab vk fun l a_from c0 c1 κ=>aa k (BW k l a_from c0 c1) (uy c0 c1 κ)
def Bf {S:Type} (k:Nat):Fx S:=fp 33 [(235,MY k)] [(2,bW [1,2,13,14,15] [(1000000,1),(1000001,1)],aS 4 5)] k Tryz.f142 2
def J6 (c0:Int) (c1 l:List Cl) (v1:List Cl) (v15:Int):St UU:=⟨[(1,(sC v1)),(2,(.func 235 [] [(pt 1000000),(pt 1000001)])),(13,(sC l)),(14,(.int .i64 (l.length:Int))),(15,(iI v15))],[(1000000,bI c0),(1000001,.cells [(sC c1)])],[],[]⟩
section
variable {S:Type} (k:Nat) (l a_from:List Cl) (c0:Int) (c1:List Cl) (κ:Out UU→Option S)
theorem UJ: ∀n v1 v15,(Bf k).lp κ 2 [] n (J6 c0 c1 l v1 v15)=pR k (uy c0 c1 κ) c0 c1 l n v1 v15:=bR (vR k (uy c0 c1 κ) c0 c1 l) rfl (fun _=>rfl) fun r v1 v15=>by kernel_rfl
end
theorem Yo {S:Type} (o:Obj) (ho:ag o) (k:Nat):Tl o 142 (MZ k:Rw S):=aj (Bf k) ⟨Yn o ho k,trivial⟩ Tryz.func142 (by kernel_rfl) fun l a_from c0 c1 κ x h=>Eq.trans (b:=FB k (uy c0 c1 κ) (fun v1 v15=>(Bf k).lp κ 2 [] k (J6 c0 c1 l v1 v15)) l a_from c0 c1) (by kernel_rfl) (Eq.trans (by simp only [UJ];rfl) (am h))
def KZ {S:Type} (k:Nat):Rw S:=ah IG xn fun f i a_r κ=>aa k (xB k f i a_r) (bH κ)
def QZ {S:Type} (k:Nat):Fx S:=fp 32 [(141,zS k),(142,MZ k),(143,D9 k),(234,MW k)] [] k Tryz.f152 0
theorem Wp {S:Type} (o:Obj) (ho:ag o) (k:Nat):Tl o 152 (KZ k:Rw S):=aj (QZ k) ⟨Ck o ho k,Yo o ho k,HE o ho k,Yl o ho k,trivial⟩ Tryz.func152 (by kernel_rfl) fun f i a_r κ x h=>Eq.trans (by kernel_rfl) (am h)
def K0 {S:Type} (k:Nat):Rw S:=ah CZ QS fun f depth c0 c1 κ=>aa k (xl k f depth c0 c1) (aea c0 c1 κ)
def Q0 {S:Type} (k:Nat):Fx S:=fp 38 [(75,ou k),(149,uK k),(150,zQ k),(151,Ec k),(152,KZ k)] [] k Tryz.f148 3
theorem Wq {S:Type} (o:Obj) (ho:ag o) (k:Nat):Tl o 148 (K0 k:Rw S):=aj (Q0 k) ⟨pr o ho k,yx o ho k,Cj o ho k,HI o ho k,Wp o ho k,trivial⟩ Tryz.func148 (by kernel_rfl) fun f depth c0 c1 κ x h=>Eq.trans (by kernel_rfl) (am h)
def K3 {S:Type} (k:Nat):Rw S:=ah C0 GD fun t depth c0 c1 κ=>aa k (xm k t depth c0 c1) (aeb c0 c1 κ)
def Q1 {S:Type} (k:Nat):Fx S:=fp 27 [(148,lq (nD CZ QS) (K0 k) (Eh k))] [] k Tryz.f154 4
theorem Wr {S:Type} (o:Obj) (ho:ag o) (k:Nat):Tl o 154 (K3 k:Rw S):=aj (Q1 k) ⟨ol (Wq o ho k) (HN o ho k),trivial⟩ Tryz.func154 (by kernel_rfl) fun t depth c0 c1 κ x h=>Eq.trans (by kernel_rfl) (am h)
def DQ {S:Type} (k:Nat):Rw S:=ah C1 ahM fun i c0 κ=>aa k (sQ k i c0) (aec c0 κ)
def Q2 {S:Type} (k:Nat):Fx S:=fp 14 [(49,jl k)] [] k Tryz.f156 1
theorem Hr {S:Type} (o:Obj) (ho:ag o) (k:Nat):Tl o 156 (DQ k:Rw S):=aj (Q2 k) ⟨jP o ho k,trivial⟩ Tryz.func156 (by kernel_rfl) fun i c0 κ x h=>Eq.trans (by kernel_rfl) (am h)
def DR {S:Type} (k:Nat):Rw S:=ah C1 cr fun p c0 κ=>aa k (sR k p c0) (aed c0 κ)
def Q3 {S:Type} (k:Nat):Fx S:=fp 5 [] [] k Tryz.f157 1
theorem Hs {S:Type} (o:Obj) (ho:ag o) (k:Nat):Tl o 157 (DR k:Rw S):=aj (Q3 k) trivial Tryz.func157 (by kernel_rfl) fun p c0 κ x h=>Eq.trans (by kernel_rfl) (am h)
def qQ {S:Type} (hd:dj S):Rw S:=ah C0 GD fun t depth c0 c1 κ=>hd t depth c0 c1 (zE c0 c1 κ)
def K4 {S:Type} (hd:dj S) (k:Nat):Rw S:=ah IH QV fun l depth c0 c1 c4 κ=>aa k (BT hd k l depth c0 c1 c4) (zF c0 c1 c4 κ)
def AG {S:Type} (hd:dj S) (k:Nat):Fx S:=fp 42 [(77,qQ hd),(157,DR k)] [(3,⟨[(2,.none),(3,.none),(4,.none),(10,some (100010,true)),(15,.none),(16,.none),(17,.none)],[(4,[.none,.none]),(1000000,[.none]),(1000001,[.none]),(1000002,[.none]),(1000003,[.none]),(1000004,[.none])]⟩,aS 5 11)] k Tryz.f155 5
def Ja (c0:Int) (c1:List Cl) (c4:Int) (l:List Tm) (depth:Int) (out10:List Tm) (v17:Int):St UU:=⟨[(2,(iI depth)),(3,(.func 157 [] [(pt 1000004)])),(4,(pt 4)),(10,(.own 100010 0)),(15,(sT l)),(16,(.int .i64 (l.length:Int))),(17,(iI v17))],[(4,.cells [(.func 148 [] [(pt 1000000),(pt 1000001),(pt 1000002)]),(.func 148 [] [(pt 1000000),(pt 1000001),(pt 1000003)])]),(1000000,bI c0),(1000001,.cells [(sC c1)]),(1000002,.cells [(.func 152 [] [])]),(1000003,.cells [(.func 153 [] [])]),(1000004,bI c4)],[(100010,⟨0,ET.T,out10⟩)],[(100010,.wr)]⟩
section
variable {S:Type} (hd:dj S) (k:Nat) (l:List Tm) (depth c0:Int) (c1:List Cl) (c4:Int) (κ:Out UU→Option S)
theorem Ts: ∀n out10 v17,(AG hd k).lp κ 3 [] n (Ja c0 c1 c4 l depth out10 v17)=ml hd k (zF c0 c1 c4 κ) c0 c1 c4 l depth n out10 v17:=bR (vH hd k (zF c0 c1 c4 κ) c0 c1 c4 l depth) rfl (fun _=>rfl) fun r out10 v17=>by kernel_rfl
end
theorem Ws {S:Type} (o:Obj) (ho:ag o) (hd:dj S) (Hd:Tl o 77 (qQ hd)) (k:Nat):Tl o 155 (K4 hd k:Rw S):=aj (AG hd k) ⟨Hd,Hs o ho k,trivial⟩ Tryz.func155 (by kernel_rfl) fun l depth c0 c1 c4 κ x h=>Eq.trans (b:=Fk hd k (zF c0 c1 c4 κ) (fun out10 v17=>(AG hd k).lp κ 3 [] k (Ja c0 c1 c4 l depth out10 v17)) l depth c0 c1 c4) (by kernel_rfl) (Eq.trans (by simp only [Ts];rfl) (am h))
def K5 {S:Type} (hd:dj S) (k:Nat):Rw S:=ah aac ahN fun l depth c0 c1 c4 κ=>aa k (BU hd k l depth c0 c1 c4) (zG c0 c1 c4 κ)
def AH {S:Type} (hd:dj S) (k:Nat):Fx S:=fp 42 [(77,qQ hd),(156,DQ k)] [(3,⟨[(2,.none),(3,.none),(4,.none),(10,some (100010,true)),(15,.none),(16,.none),(17,.none)],[(4,[.none,.none]),(1000000,[.none]),(1000001,[.none]),(1000002,[.none]),(1000003,[.none]),(1000004,[.none,.none,.none,.none,.none,.none])]⟩,aS 5 11)] k Tryz.f155 5
def Jb (c0:Int) (c1:List Cl) (c4:Tm) (l:List Tm) (depth:Int) (out10:List Tm) (v17:Int):St UU:=⟨[(2,(iI depth)),(3,(.func 156 [] [(pt 1000004)])),(4,(pt 4)),(10,(.own 100010 0)),(15,(sT l)),(16,(.int .i64 (l.length:Int))),(17,(iI v17))],[(4,.cells [(.func 148 [] [(pt 1000000),(pt 1000001),(pt 1000002)]),(.func 148 [] [(pt 1000000),(pt 1000001),(pt 1000003)])]),(1000000,bI c0),(1000001,.cells [(sC c1)]),(1000002,.cells [(.func 152 [] [])]),(1000003,.cells [(.func 153 [] [])]),(1000004,bT c4)],[(100010,⟨0,ET.T,out10⟩)],[(100010,.wr)]⟩
section
variable {S:Type} (hd:dj S) (k:Nat) (l:List Tm) (depth c0:Int) (c1:List Cl) (c4:Tm) (κ:Out UU→Option S)
theorem Tt: ∀n out10 v17,(AH hd k).lp κ 3 [] n (Jb c0 c1 c4 l depth out10 v17)=mm hd k (zG c0 c1 c4 κ) c0 c1 c4 l depth n out10 v17:=bR (vI hd k (zG c0 c1 c4 κ) c0 c1 c4 l depth) rfl (fun _=>rfl) fun r out10 v17=>by kernel_rfl
end
theorem Wt {S:Type} (o:Obj) (ho:ag o) (hd:dj S) (Hd:Tl o 77 (qQ hd)) (k:Nat):Tl o 155 (K5 hd k:Rw S):=aj (AH hd k) ⟨Hd,Hr o ho k,trivial⟩ Tryz.func155 (by kernel_rfl) fun l depth c0 c1 c4 κ x h=>Eq.trans (b:=Fl hd k (zG c0 c1 c4 κ) (fun out10 v17=>(AH hd k).lp κ 3 [] k (Jb c0 c1 c4 l depth out10 v17)) l depth c0 c1 c4) (by kernel_rfl) (Eq.trans (by simp only [Tt];rfl) (am h))
def AF {S:Type} (hd:dj S) (k:Nat):Fx S:=fp 98 [(148,Eh k),(154,K3 k),(155,lq (nD IH QV) (K4 hd k) (K5 hd k))] [(13,⟨[(2,.none),(3,.none),(6,.none),(8,.none),(10,.none),(53,.none),(54,.none),(55,.none)],[(3,[.none,.none]),(6,[.none,.none,.none,some (200387,true),some (200388,true),some (200389,true)]),(8,[.none,.none,.none,.none,.none,some (200517,true)]),(10,[.none]),(1000000,[.none]),(1000001,[.none]),(1000002,[.none]),(1000003,[.none])]⟩,aS 11 767)] k Tryz.f77 4
def I_ (c0:Int) (c1:List Cl) (t:Tm) (r1:List Cl×Int) (r2:List Tm×Int) (depth:Int) (b10_0:Int) (b8_5:List (Br Tm)) (v55:Int):St UU:=⟨[(2,(iI depth)),(3,(pt 3)),(6,(pt 6)),(8,(pt 8)),(10,(pt 10)),(53,(sB t.sys)),(54,(.int .i64 (t.sys.length:Int))),(55,(iI v55))],[(3,.cells [(.func 148 [] [(pt 1000000),(pt 1000001),(pt 1000002)]),(.func 148 [] [(pt 1000000),(pt 1000001),(pt 1000003)])]),(6,.cells [(iI 0),(iI 0),(.str ByteArray.empty),(.own 200387 0),(.own 200388 0),(.own 200389 0)]),(8,.cells [(iI t.kind),(iI t.n),(.str t.name),(sC r1.1),(sT r2.1),(.own 200517 0)]),(10,bI b10_0),(1000000,bI c0),(1000001,.cells [(sC c1)]),(1000002,.cells [(.func 152 [] [])]),(1000003,.cells [(.func 153 [] [])])],[(200517,⟨0,ET.B,b8_5⟩),(200389,⟨0,ET.B,([]:List (Br Tm))⟩),(200388,⟨0,ET.T,([]:List Tm)⟩),(200387,⟨0,ET.C,([]:List Cl)⟩)],[(200517,.wr),(200389,.wr),(200388,.wr),(200387,.wr)]⟩
section
variable {S:Type} (hd:dj S) (k:Nat) (t:Tm) (depth c0:Int) (c1:List Cl) (κ:Out UU→Option S)
theorem Tr (r1 r2): ∀n b10_0 b8_5 v55,(AF hd k).lp κ 13 [] n (I_ c0 c1 t r1 r2 depth b10_0 b8_5 v55)=gO hd k (zE c0 c1 κ) c0 c1 t r1 r2 depth n b10_0 b8_5 v55:=gi (vJ hd k (zE c0 c1 κ) c0 c1 t r1 r2 depth) rfl (fun _=>rfl) fun r b10_0 b8_5 v55=>by kernel_rfl
end
theorem CF {S:Type} (o:Obj) (ho:ag o): ∀k:Nat,Tl o 77 (qQ (er k:dj S))
 |0=>gy fun t depth c0 c1 κ x h=>by cases h
 |k+1=>aj (AF (er k) k) ⟨HN o ho k,Wr o ho k,ol (Ws o ho (er k) (CF o ho k) k) (Wt o ho (er k) (CF o ho k) k),trivial⟩ Tryz.func77 (by kernel_rfl) fun t depth c0 c1 κ x h=>Eq.trans (b:=Fq (er k) k (zE c0 c1 κ) (fun r1 r2 b10_0 b8_5 v55=>(AF (er k) k).lp κ 13 [] k (I_ c0 c1 t r1 r2 depth b10_0 b8_5 v55)) t depth c0 c1) (by kernel_rfl) (Eq.trans (by simp only [Tr];rfl) h)
def K6 {S:Type} (k:Nat):Rw S:=ah jV xn fun i κ=>aa k (BN k i) (aee κ)
def Q4 {S:Type} (k:Nat):Fx S:=fp 8 [] [] k Tryz.f78 0
theorem Wu {S:Type} (o:Obj) (ho:ag o) (k:Nat):Tl o 78 (K6 k:Rw S):=aj (Q4 k) trivial Tryz.func78 (by kernel_rfl) fun i κ x h=>Eq.trans (by kernel_rfl) (am h)
def K7 {S:Type} (k:Nat):Rw S:=ah yT xn fun s i κ=>aa k (ph k s i) (mB κ)
def Q5 {S:Type} (k:Nat):Fx S:=fp 24 [(232,uG k),(244,D_ k)] [] k Tryz.f159 0
theorem Wv {S:Type} (o:Obj) (ho:ag o) (k:Nat):Tl o 159 (K7 k:Rw S):=aj (Q5 k) ⟨yv o ho k,HF o ho k,trivial⟩ Tryz.func159 (by kernel_rfl) fun s i κ x h=>Eq.trans (by kernel_rfl) (am h)
def DS {S:Type} (k:Nat):Rw S:=ah aad cr fun f depth c0 κ=>aa k (oY k f depth c0) (uA c0 κ)
def AI {S:Type} (k:Nat):Fx S:=fp 37 [(146,ke k),(159,K7 k)] [(3,⟨[(1,.none),(2,.none),(7,some (100007,true)),(10,.none),(11,.none),(12,.none)],[(1000000,[.none])]⟩,aS 5 11)] k Tryz.f158 1
def Jc (c0 depth:Int) (f:List Cl) (v12:Int) (out7:List Cl):St UU:=⟨[(1,(iI depth)),(2,(pt 1000000)),(7,(.own 100007 0)),(10,(sC f)),(11,(.int .i64 (f.length:Int))),(12,(iI v12))],[(1000000,bI c0)],[(100007,⟨0,ET.C,out7⟩)],[(100007,.wr)]⟩
section
variable {S:Type} (k:Nat) (f:List Cl) (depth c0:Int) (κ:Out UU→Option S)
theorem Tu: ∀n v12 out7,(AI k).lp κ 3 [] n (Jc c0 depth f v12 out7)=pL k (uA c0 κ) c0 depth f n v12 out7:=bR (vE k (uA c0 κ) c0 depth f) rfl (fun _=>rfl) fun r v12 out7=>by kernel_rfl
end
theorem Ht {S:Type} (o:Obj) (ho:ag o) (k:Nat):Tl o 158 (DS k:Rw S):=aj (AI k) ⟨kS o ho k,Wv o ho k,trivial⟩ Tryz.func158 (by kernel_rfl) fun f depth c0 κ x h=>Eq.trans (b:=Fg k (uA c0 κ) (fun v12 out7=>(AI k).lp κ 3 [] k (Jc c0 depth f v12 out7)) f depth c0) (by kernel_rfl) (Eq.trans (by simp only [Tu];rfl) (am h))
def K9 {S:Type} (k:Nat):Rw S:=ah II cr fun t depth c0 κ=>aa k (xo k t depth c0) (uA c0 κ)
def Q7 {S:Type} (k:Nat):Fx S:=fp 27 [(158,DS k)] [] k Tryz.f154 1
theorem Wx {S:Type} (o:Obj) (ho:ag o) (k:Nat):Tl o 154 (K9 k:Rw S):=aj (Q7 k) ⟨Ht o ho k,trivial⟩ Tryz.func154 (by kernel_rfl) fun t depth c0 κ x h=>Eq.trans (by kernel_rfl) (am h)
def qR {S:Type} (hd:dk S):Rw S:=ah II cr fun t depth c0 κ=>hd t depth c0 (zH c0 κ)
def K_ {S:Type} (hd:dk S) (k:Nat):Rw S:=ah IJ Az fun l depth c0 c1 κ=>aa k (BR hd k l depth c0 c1) (zI c0 c1 κ)
def AK {S:Type} (hd:dk S) (k:Nat):Fx S:=fp 42 [(77,qR hd),(157,DR k)] [(3,⟨[(2,.none),(3,.none),(4,.none),(10,some (100010,true)),(15,.none),(16,.none),(17,.none)],[(4,[.none,.none]),(1000000,[.none]),(1000001,[.none])]⟩,aS 5 11)] k Tryz.f155 2
def Je (c0 c1:Int) (l:List Tm) (depth:Int) (out10:List Tm) (v17:Int):St UU:=⟨[(2,(iI depth)),(3,(.func 157 [] [(pt 1000001)])),(4,(pt 4)),(10,(.own 100010 0)),(15,(sT l)),(16,(.int .i64 (l.length:Int))),(17,(iI v17))],[(4,.cells [(.func 158 [] [(pt 1000000)]),(.func 158 [] [(pt 1000000)])]),(1000000,bI c0),(1000001,bI c1)],[(100010,⟨0,ET.T,out10⟩)],[(100010,.wr)]⟩
section
variable {S:Type} (hd:dk S) (k:Nat) (l:List Tm) (depth c0 c1:Int) (κ:Out UU→Option S)
theorem Tw: ∀n out10 v17,(AK hd k).lp κ 3 [] n (Je c0 c1 l depth out10 v17)=mi hd k (zI c0 c1 κ) c0 c1 l depth n out10 v17:=bR (vF hd k (zI c0 c1 κ) c0 c1 l depth) rfl (fun _=>rfl) fun r out10 v17=>by kernel_rfl
end
theorem Wy {S:Type} (o:Obj) (ho:ag o) (hd:dk S) (Hd:Tl o 77 (qR hd)) (k:Nat):Tl o 155 (K_ hd k:Rw S):=aj (AK hd k) ⟨Hd,Hs o ho k,trivial⟩ Tryz.func155 (by kernel_rfl) fun l depth c0 c1 κ x h=>Eq.trans (b:=Fi hd k (zI c0 c1 κ) (fun out10 v17=>(AK hd k).lp κ 3 [] k (Je c0 c1 l depth out10 v17)) l depth c0 c1) (by kernel_rfl) (Eq.trans (by simp only [Tw];rfl) (am h))
def La {S:Type} (hd:dk S) (k:Nat):Rw S:=ah aae ahO fun l depth c0 c1 κ=>aa k (BS hd k l depth c0 c1) (zJ c0 c1 κ)
def AL {S:Type} (hd:dk S) (k:Nat):Fx S:=fp 42 [(77,qR hd),(156,DQ k)] [(3,⟨[(2,.none),(3,.none),(4,.none),(10,some (100010,true)),(15,.none),(16,.none),(17,.none)],[(4,[.none,.none]),(1000000,[.none]),(1000001,[.none,.none,.none,.none,.none,.none])]⟩,aS 5 11)] k Tryz.f155 2
def Jf (c0:Int) (c1:Tm) (l:List Tm) (depth:Int) (out10:List Tm) (v17:Int):St UU:=⟨[(2,(iI depth)),(3,(.func 156 [] [(pt 1000001)])),(4,(pt 4)),(10,(.own 100010 0)),(15,(sT l)),(16,(.int .i64 (l.length:Int))),(17,(iI v17))],[(4,.cells [(.func 158 [] [(pt 1000000)]),(.func 158 [] [(pt 1000000)])]),(1000000,bI c0),(1000001,bT c1)],[(100010,⟨0,ET.T,out10⟩)],[(100010,.wr)]⟩
section
variable {S:Type} (hd:dk S) (k:Nat) (l:List Tm) (depth c0:Int) (c1:Tm) (κ:Out UU→Option S)
theorem Tx: ∀n out10 v17,(AL hd k).lp κ 3 [] n (Jf c0 c1 l depth out10 v17)=mj hd k (zJ c0 c1 κ) c0 c1 l depth n out10 v17:=bR (vG hd k (zJ c0 c1 κ) c0 c1 l depth) rfl (fun _=>rfl) fun r out10 v17=>by kernel_rfl
end
theorem Wz {S:Type} (o:Obj) (ho:ag o) (hd:dk S) (Hd:Tl o 77 (qR hd)) (k:Nat):Tl o 155 (La hd k:Rw S):=aj (AL hd k) ⟨Hd,Hr o ho k,trivial⟩ Tryz.func155 (by kernel_rfl) fun l depth c0 c1 κ x h=>Eq.trans (b:=Fj hd k (zJ c0 c1 κ) (fun out10 v17=>(AL hd k).lp κ 3 [] k (Jf c0 c1 l depth out10 v17)) l depth c0 c1) (by kernel_rfl) (Eq.trans (by simp only [Tx];rfl) (am h))
def AJ {S:Type} (hd:dk S) (k:Nat):Fx S:=fp 98 [(154,K9 k),(155,lq (nD IJ Az) (K_ hd k) (La hd k)),(158,DS k)] [(13,⟨[(2,.none),(3,.none),(6,.none),(8,.none),(10,.none),(53,.none),(54,.none),(55,.none)],[(3,[.none,.none]),(6,[.none,.none,.none,some (200387,true),some (200388,true),some (200389,true)]),(8,[.none,.none,.none,.none,.none,some (200517,true)]),(10,[.none]),(1000000,[.none])]⟩,aS 11 767)] k Tryz.f77 1
def Jd (c0:Int) (t:Tm) (r1:List Cl×Int) (r2:List Tm×Int) (depth:Int) (b10_0:Int) (b8_5:List (Br Tm)) (v55:Int):St UU:=⟨[(2,(iI depth)),(3,(pt 3)),(6,(pt 6)),(8,(pt 8)),(10,(pt 10)),(53,(sB t.sys)),(54,(.int .i64 (t.sys.length:Int))),(55,(iI v55))],[(3,.cells [(.func 158 [] [(pt 1000000)]),(.func 158 [] [(pt 1000000)])]),(6,.cells [(iI 0),(iI 0),(.str ByteArray.empty),(.own 200387 0),(.own 200388 0),(.own 200389 0)]),(8,.cells [(iI t.kind),(iI t.n),(.str t.name),(sC r1.1),(sT r2.1),(.own 200517 0)]),(10,bI b10_0),(1000000,bI c0)],[(200517,⟨0,ET.B,b8_5⟩),(200389,⟨0,ET.B,([]:List (Br Tm))⟩),(200388,⟨0,ET.T,([]:List Tm)⟩),(200387,⟨0,ET.C,([]:List Cl)⟩)],[(200517,.wr),(200389,.wr),(200388,.wr),(200387,.wr)]⟩
section
variable {S:Type} (hd:dk S) (k:Nat) (t:Tm) (depth c0:Int) (κ:Out UU→Option S)
theorem Tv (r1 r2): ∀n b10_0 b8_5 v55,(AJ hd k).lp κ 13 [] n (Jd c0 t r1 r2 depth b10_0 b8_5 v55)=gP hd k (zH c0 κ) c0 t r1 r2 depth n b10_0 b8_5 v55:=gi (vK hd k (zH c0 κ) c0 t r1 r2 depth) rfl (fun _=>rfl) fun r b10_0 b8_5 v55=>by kernel_rfl
end
theorem CG {S:Type} (o:Obj) (ho:ag o): ∀k:Nat,Tl o 77 (qR (ee k:dk S))
 |0=>gy fun t depth c0 κ x h=>by cases h
 |k+1=>aj (AJ (ee k) k) ⟨Wx o ho k,ol (Wy o ho (ee k) (CG o ho k) k) (Wz o ho (ee k) (CG o ho k) k),Ht o ho k,trivial⟩ Tryz.func77 (by kernel_rfl) fun t depth c0 κ x h=>Eq.trans (b:=Fr (ee k) k (zH c0 κ) (fun r1 r2 b10_0 b8_5 v55=>(AJ (ee k) k).lp κ 13 [] k (Jd c0 t r1 r2 depth b10_0 b8_5 v55)) t depth c0) (by kernel_rfl) (Eq.trans (by simp only [Tv];rfl) h)
def zM {S:Type} (k:Nat):Rw S:=ah IE xn fun t i a_r κ=>aa k (kM k t i a_r) (gn κ)
def Q8 {S:Type} (k:Nat):Fx S:=fp 48 [(74,ME k),(75,ou k),(76,MH k),(77,lq (nD C0 GD) (qQ (er k)) (qR (ee k))),(78,K6 k)] [] k Tryz.f28 0
theorem Cf {S:Type} (o:Obj) (ho:ag o) (k:Nat):Tl o 28 (zM k:Rw S):=aj (Q8 k) ⟨X5 o ho k,pr o ho k,X8 o ho k,ol (CF o ho k) (CG o ho k),Wu o ho k,trivial⟩ Tryz.func28 (by kernel_rfl) fun t i a_r κ x h=>Eq.trans (by kernel_rfl) (am h)
def DT {S:Type} (k:Nat):Rw S:=ah IK cr fun line a_r c0 κ=>aa k (lQ k line a_r c0) (gU κ)
def Q9 {S:Type} (k:Nat):Fx S:=fp 44 [(28,zM k),(35,zW k),(210,mF k),(270,ow k)] [] k Tryz.f212 1
theorem Hu {S:Type} (o:Obj) (ho:ag o) (k:Nat):Tl o 212 (DT k:Rw S):=aj (Q9 k) ⟨Cf o ho k,Co o ho k,nB o ho k,pw o ho k,trivial⟩ Tryz.func212 (by kernel_rfl) fun line a_r c0 κ x h=>Eq.trans (by kernel_rfl) (am h)
def uC {S:Type} (k:Nat):Rw S:=ah CY cr fun t vars dims c0 κ=>aa k (de k t vars dims c0) (gU κ)
def Q_ {S:Type} (k:Nat):Fx S:=fp 30 [(119,zT k),(210,mF k),(270,ow k)] [] k Tryz.f209 1
theorem yu {S:Type} (o:Obj) (ho:ag o) (k:Nat):Tl o 209 (uC k:Rw S):=aj (Q_ k) ⟨Cm o ho k,nB o ho k,pw o ho k,trivial⟩ Tryz.func209 (by kernel_rfl) fun t vars dims c0 κ x h=>Eq.trans (by kernel_rfl) (am h)
def lw {S:Type} (k:Nat):Rw S:=ah CS xn fun kind kids κ=>aa k (ck k kind kids) (ux κ)
def Ra {S:Type} (k:Nat):Fx S:=fx 8 (fun _=>[]) (fun _=>false) [] [] k Tryz.f186 true [] 0
theorem l9 {S:Type} (o:Obj) (ho:ag o) (k:Nat):Tl o 186 (lw k:Rw S):=aj (Ra k) trivial Tryz.func186 (by kernel_rfl) fun kind kids κ x h=>Eq.trans (by kernel_rfl) (am h)
def zN {S:Type} (k:Nat):Rw S:=ah mh cr fun t c0 κ=>aa k (eK k t c0) (aef κ)
def Rc {S:Type} (k:Nat):Fx S:=fp 28 [(40,jm k),(210,mF k),(270,ow k)] [] k Tryz.f213 1
theorem Cg {S:Type} (o:Obj) (ho:ag o) (k:Nat):Tl o 213 (zN k:Rw S):=aj (Rc k) ⟨jQ o ho k,nB o ho k,pw o ho k,trivial⟩ Tryz.func213 (by kernel_rfl) fun t c0 κ x h=>Eq.trans (by kernel_rfl) (am h)
def Lc {S:Type} (k:Nat):Rw S:=ah CX AB fun c0 c1 c2 κ=>aa k (xX k c0 c1 c2) (KQ c0 c1 c2 κ)
def Re {S:Type} (k:Nat):Fx S:=fp 10 [(85,uI (dt k))] [] k Tryz.f259 3
theorem WB {S:Type} (o:Obj) (ho:ag o) (k:Nat):Tl o 259 (Lc k:Rw S):=aj (Re k) ⟨yO o ho k,trivial⟩ Tryz.func259 (by kernel_rfl) fun c0 c1 c2 κ x h=>Eq.trans (by kernel_rfl) (am h)
def Ld {S:Type} (k:Nat):Rw S:=ah aag AB fun t numbers c0 c1 c2 κ=>aa k (xZ k t numbers c0 c1 c2) (mC c0 c1 c2 κ)
def AM {S:Type} (k:Nat):Fx S:=⟨⟨30,(fun _=>[]),(fun _=>false),.none,fun|6=>true|7=>true|_=>false⟩,[(40,jm k),(259,Lc k)],[(5,⟨[(2,.none),(6,.none),(7,.none),(17,.none),(18,.none),(19,.none)],[(1000000,[.none]),(1000001,[.none,.none,.none,.none,.none,.none]),(1000002,[.none]),(5000006,[.none,.none,.none,some (320200387,true),some (320200388,true),some (320200389,true)]),(5000007,[.none])]⟩,aS 5 11)],k,Tryz.f83,false,[],3,some (oT 16 164 Tryz.f164 k)⟩
def Jg (c0:Int) (c1:Tm) (c2:Int) (numbers:List Int) (v19:Int):St UU:=⟨[(2,(.func 259 [] [(pt 1000000),(pt 1000001),(pt 1000002)])),(6,(pt 5000006)),(7,(pt 5000007)),(17,(mO numbers .none)),(18,(.int .i64 (numbers.length:Int))),(19,(iI v19))],[(1000000,bI c0),(1000001,bT c1),(1000002,bI c2),(5000006,.cells [(iI 0),(iI 0),(.str ByteArray.empty),(.own 320200387 0),(.own 320200388 0),(.own 320200389 0)]),(5000007,bI 0)],[(320200389,⟨0,ET.B,([]:List (Br Tm))⟩),(320200388,⟨0,ET.T,([]:List Tm)⟩),(320200387,⟨0,ET.C,([]:List Cl)⟩)],[(320200389,.wr),(320200388,.wr),(320200387,.wr)]⟩
section
variable {S:Type} (k:Nat) (t:Tm) (numbers:List Int) (c0:Int) (c1:Tm) (c2:Int) (κ:Out UU→Option S)
theorem Tz: ∀n v19,(AM k).lp κ 5 [] n (Jg c0 c1 c2 numbers v19)=nP k (mC c0 c1 c2 κ) c0 c1 c2 numbers n v19:=eP (wk k (mC c0 c1 c2 κ) c0 c1 c2 numbers) rfl (fun _=>rfl) fun r v19=>by kernel_rfl
end
theorem WC {S:Type} (o:Obj) (ho:ag o) (k:Nat):Tl o 83 (Ld k:Rw S):=Ao (AM k) rfl (wU o Tryz.func164 (by kernel_rfl)) ⟨jQ o ho k,WB o ho k,trivial⟩ Tryz.func83 (by kernel_rfl) fun t numbers c0 c1 c2 κ x h=>Eq.trans (b:=Aj k (mC c0 c1 c2 κ) (fun v19=>(AM k).lp κ 5 [] k (Jg c0 c1 c2 numbers v19)) t numbers c0 c1 c2) (by kernel_rfl) (Eq.trans (by simp only [Tz];rfl) (am h))
def Le {S:Type} (k:Nat):Rw S:=ah pI xn fun t a_from a_by κ=>aa k (pf k t a_from a_by) (gn κ)
def Rf {S:Type} (k:Nat):Fx S:=fp 18 [(83,Ld k)] [] k Tryz.f182 0
theorem WD {S:Type} (o:Obj) (ho:ag o) (k:Nat):Tl o 182 (Le k:Rw S):=aj (Rf k) ⟨WC o ho k,trivial⟩ Tryz.func182 (by kernel_rfl) fun t a_from a_by κ x h=>Eq.trans (by kernel_rfl) (am h)
def Lf {S:Type} (k:Nat):Rw S:=ah CY cr fun t vars dims c0 κ=>aa k (ya k t vars dims c0) (gU κ)
def Rg {S:Type} (k:Nat):Fx S:=fp 32 [(35,zW k),(93,jo k),(94,jp k),(182,Le k)] [] k Tryz.f101 1
theorem WE {S:Type} (o:Obj) (ho:ag o) (k:Nat):Tl o 101 (Lf k:Rw S):=aj (Rg k) ⟨Co o ho k,jR o ho k,jS o ho k,WD o ho k,trivial⟩ Tryz.func101 (by kernel_rfl) fun t vars dims c0 κ x h=>Eq.trans (by kernel_rfl) (am h)
def uD {S:Type} (hd:dC S):Rw S:=ah ie xn fun t κ=>hd t (bk κ)
def Lg {S:Type} (hd:dC S) (k:Nat):Rw S:=ah yU cr fun a_k p p' c0 κ=>aa k (tc hd k a_k p p' c0) (cV κ)
def Ri {S:Type} (hd:dC S) (k:Nat):Fx S:=fp 12 [(254,uD hd)] [] k Tryz.f296 1
theorem WF {S:Type} (o:Obj) (ho:ag o) (hd:dC S) (Hd:Tl o 254 (uD hd)) (k:Nat):Tl o 296 (Lg hd k:Rw S):=aj (Ri hd k) ⟨Hd,trivial⟩ Tryz.func296 (by kernel_rfl) fun a_k p p' c0 κ x h=>Eq.trans (by kernel_rfl) (am h)
def Lh {S:Type} (hd:dC S) (k:Nat):Rw S:=ah aah cr fun t c0 κ=>aa k (B_ hd k t c0) (cV κ)
def m0 {S:Type} (hd:dC S) (k:Nat):Fx S:=fp 60 [(49,jl k),(296,Lg hd k)] [(2,bW [1,2,15,16,17] [(2,6),(1000000,1)],aS 4 5),(12,bW [1,9,40,41,42] [(1000000,1)],aS 7 47),(15,bW [1,9,40,41,42,47,48,49] [(1000000,1)],aS 15 13103)] k Tryz.f116 1
def Dj (t:Tm) (e0_0 v17:Int):St UU:=⟨[(1,(.func 296 [] [(pt 1000000)])),(2,(pt 2)),(15,(sT t.kids)),(16,(.int .i64 (t.kids.length:Int))),(17,(iI v17))],[(2,bT t),(1000000,bI e0_0)],[],[]⟩
def tR (t:Tm) (e0_0' v42 more9:Int):St UU:=⟨[(1,(.func 296 [] [(pt 1000000)])),(9,(iI more9)),(40,(sB t.sys)),(41,(.int .i64 (t.sys.length:Int))),(42,(iI v42))],[(1000000,bI e0_0')],[],[]⟩
def Jh (t:Tm) (v42:Int) (x4:(Br Tm)) (more9:Int) (e0_0'' v49:Int):St UU:=⟨[(1,(.func 296 [] [(pt 1000000)])),(9,(iI more9)),(40,(sB t.sys)),(41,(.int .i64 (t.sys.length:Int))),(42,(iI v42)),(47,(sT x4.kids)),(48,(.int .i64 (x4.kids.length:Int))),(49,(iI v49))],[(1000000,bI e0_0'')],[],[]⟩
section
variable {S:Type} (hd:dC S) (k:Nat) (t:Tm) (c0:Int) (κ:Out UU→Option S)
theorem TD (v42 x4 more9 κ1): ∀n e0_0'' v49,(m0 hd k).lp κ 15 [κ1] n (Jh t v42 x4 more9 e0_0'' v49)=nY hd k (cV κ) (fun e0_0' v42 more9=>κ1 (tR t e0_0' v42 more9)) t v42 x4 more9 n e0_0'' v49:=bR (wK hd k (cV κ) t v42 x4 more9 (fun e0_0' v42 more9=>κ1 (tR t e0_0' v42 more9))) rfl (fun _=>rfl) fun r e0_0'' v49=>by kernel_rfl
theorem TC: ∀n e0_0' v42 more9,(m0 hd k).lp κ 12 [] n (tR t e0_0' v42 more9)=lh hd k (cV κ) t n e0_0' v42 more9:=gi (fun own=>si hd k (cV κ) t (fun v42 x4 more9 e0_0'' v49=>nY hd k (cV κ) own t v42 x4 more9 k e0_0'' v49) own) rfl (fun _=>rfl) fun r e0_0' v42 more9=>Eq.trans (b:=si hd k (cV κ) t (fun v42 x4 more9 e0_0'' v49=>(m0 hd k).lp κ 15 [r] k (Jh t v42 x4 more9 e0_0'' v49)) (fun e0_0' v42 more9=>r (tR t e0_0' v42 more9)) e0_0' v42 more9) (by kernel_rfl) (by simp only [TD])
theorem TB: ∀n e0_0 v17,(m0 hd k).lp κ 2 [] n (Dj t e0_0 v17)=qv hd k (cV κ) t n e0_0 v17:=bR (fun own=>sh hd k (cV κ) t (fun e0_0' v42 more9=>lh hd k (cV κ) t k e0_0' v42 more9) own) rfl (fun _=>rfl) fun r e0_0 v17=>Eq.trans (b:=sh hd k (cV κ) t (fun e0_0' v42 more9=>(m0 hd k).lp κ 12 [] k (tR t e0_0' v42 more9)) (fun e0_0 v17=>r (Dj t e0_0 v17)) e0_0 v17) (by kernel_rfl) (by simp only [TC])
end
theorem WG {S:Type} (o:Obj) (ho:ag o) (hd:dC S) (Hd:Tl o 254 (uD hd)) (k:Nat):Tl o 116 (Lh hd k:Rw S):=aj (m0 hd k) ⟨jP o ho k,WF o ho hd Hd k,trivial⟩ Tryz.func116 (by kernel_rfl) fun t c0 κ x h=>Eq.trans (b:=Gg hd k (cV κ) (fun e0_0 v17=>(m0 hd k).lp κ 2 [] k (Dj t e0_0 v17)) t c0) (by kernel_rfl) (Eq.trans (by simp only [TB];rfl) (am h))
def Rh {S:Type} (hd:dC S) (k:Nat):Fx S:=fp 8 [(116,Lh hd k)] [] k Tryz.f254 0
theorem If {S:Type} (o:Obj) (ho:ag o): ∀k:Nat,Tl o 254 (uD (kR k:dC S))
 |0=>gy fun t κ x h=>by cases h
 |k+1=>aj (Rh (kR k) k) ⟨WG o ho (kR k) (If o ho k) k,trivial⟩ Tryz.func254 (by kernel_rfl) fun t κ x h=>Eq.trans (by kernel_rfl) h
end
end Go.Proofs.YtgajalidbabccaaGreatDoor
namespace Go.Proofs.YtgajalidbabccaaGreatDoor
open Go PI
set_option linter.unusedVariables false
set_option maxRecDepth 100000
noncomputable section
def DU {S:Type} (hd:gD S):Rw S:=ah yR xn fun t a_n κ=>hd t a_n (bk κ)
def kC {S:Type} (hd:gD S) (k:Nat):Fx S:=fp 68 [(49,jl k),(255,DU hd)] [(1000003,bW [1,2] [(2,6)],aS 2 3),(5,bW [1,2,5,24,25,26] [(2,6)],aS 6 23),(11,bW [1,5,47,48,49] [],aS 7 47),(14,bW [1,5,47,48,49,54,55,56] [],aS 15 13103)] k Tryz.f255 0
def Ji (t:Tm) (a_n:Int):St UU:=⟨[(1,(iI a_n)),(2,(pt 2))],[(2,bT t)],[],[]⟩
def Dk (t:Tm) (a_n:Int) (v26 sum5:Int):St UU:=⟨[(1,(iI a_n)),(2,(pt 2)),(5,(iI sum5)),(24,(sT t.kids)),(25,(.int .i64 (t.kids.length:Int))),(26,(iI v26))],[(2,bT t)],[],[]⟩
def tT (a_n:Int) (t:Tm) (v49 sum5':Int):St UU:=⟨[(1,(iI a_n)),(5,(iI sum5')),(47,(sB t.sys)),(48,(.int .i64 (t.sys.length:Int))),(49,(iI v49))],[],[],[]⟩
def Jj (a_n:Int) (t:Tm) (v49:Int) (x4:(Br Tm)) (sum5'' v56:Int):St UU:=⟨[(1,(iI a_n)),(5,(iI sum5'')),(47,(sB t.sys)),(48,(.int .i64 (t.sys.length:Int))),(49,(iI v49)),(54,(sT x4.kids)),(55,(.int .i64 (x4.kids.length:Int))),(56,(iI v56))],[],[],[]⟩
section
variable {S:Type} (hd:gD S) (k:Nat) (t:Tm) (a_n:Int) (κ:Out UU→Option S)
theorem TH (v49 x4 κ2): ∀n sum5'' v56,(kC hd k).lp κ 14 [κ2] n (Jj a_n t v49 x4 sum5'' v56)=nS hd k (bk κ) (fun v49 sum5'=>κ2 (tT a_n t v49 sum5')) a_n t v49 x4 n sum5'' v56:=bR (ww hd k (bk κ) a_n t v49 x4 (fun v49 sum5'=>κ2 (tT a_n t v49 sum5'))) rfl (fun _=>rfl) fun r sum5'' v56=>by kernel_rfl
theorem TG: ∀n v49 sum5',(kC hd k).lp κ 11 [] n (tT a_n t v49 sum5')=lc hd k (bk κ) a_n t n v49 sum5':=bR (fun own=>rR hd k (bk κ) a_n t (fun v49 x4 sum5'' v56=>nS hd k (bk κ) own a_n t v49 x4 k sum5'' v56) own) rfl (fun _=>rfl) fun r v49 sum5'=>Eq.trans (b:=rR hd k (bk κ) a_n t (fun v49 x4 sum5'' v56=>(kC hd k).lp κ 14 [r] k (Jj a_n t v49 x4 sum5'' v56)) (fun v49 sum5'=>r (tT a_n t v49 sum5')) v49 sum5') (by kernel_rfl) (by simp only [TH])
theorem TF: ∀n v26 sum5,(kC hd k).lp κ 5 [] n (Dk t a_n v26 sum5)=nR hd k (bk κ) t a_n n v26 sum5:=bR (fun own=>rQ hd k (bk κ) t a_n (fun v49 sum5'=>lc hd k (bk κ) a_n t k v49 sum5') own) rfl (fun _=>rfl) fun r v26 sum5=>Eq.trans (b:=rQ hd k (bk κ) t a_n (fun v49 sum5'=>(kC hd k).lp κ 11 [] k (tT a_n t v49 sum5')) (fun v26 sum5=>r (Dk t a_n v26 sum5)) v26 sum5) (by kernel_rfl) (by simp only [TG])
theorem TE: ∀n,(kC hd k).jn κ 1000003 [] n (Ji t a_n)=yW hd k (bk κ) t a_n n:=Ir (ws hd k (bk κ) t a_n (fun v26 sum5=>nR hd k (bk κ) t a_n k v26 sum5)) rfl (fun _=>rfl) (Eq.trans (b:=ws hd k (bk κ) t a_n (fun v26 sum5=>(kC hd k).lp κ 5 [] k (Dk t a_n v26 sum5))) (by kernel_rfl) (by simp only [TF]))
end
theorem Ig {S:Type} (o:Obj) (ho:ag o): ∀k:Nat,Tl o 255 (DU (hU k:gD S))
 |0=>gy fun t a_n κ x h=>by cases h
 |k+1=>aj (kC (hU k) k) ⟨jP o ho k,Ig o ho k,trivial⟩ Tryz.func255 (by kernel_rfl) fun t a_n κ x h=>Eq.trans (b:=Am (hU k) k (bk κ) ((kC (hU k) k).jn κ 1000003 [] k (Ji t a_n)) t a_n) (by kernel_rfl) (Eq.trans (by simp only [TE];rfl) h)
def Lj {S:Type} (k:Nat):Rw S:=ah ie xn fun t κ=>aa k (yj k t) (bk κ)
def Rj {S:Type} (k:Nat):Fx S:=fp 6 [] [] k Tryz.f297 0
theorem WI {S:Type} (o:Obj) (ho:ag o) (k:Nat):Tl o 297 (Lj k:Rw S):=aj (Rj k) trivial Tryz.func297 (by kernel_rfl) fun t κ x h=>Eq.trans (by kernel_rfl) (am h)
def DV {S:Type} (hd:iE S):Rw S:=ah aai xn fun t a_n u vars dims κ=>hd t a_n u vars dims (cK κ)
def m6 {S:Type} (hd:iE S) (k:Nat):Fx S:=fp 137 [(49,jl k),(119,zT k),(257,DV hd),(297,Lj k)] [(12,⟨[(1,.none),(3,.none),(4,.none),(5,.none),(7,.none),(10,.none),(13,.none),(66,.none),(67,.none),(68,.none)],[(5,[.none,.none,.none,.none,.none,.none]),(7,[.none,.none,.none,.none,.none,.none]),(10,[.none,.none,.none,some (200643,true),some (200644,true),some (200645,true)]),(13,[.none,.none,.none,some (200835,true),some (200836,true),some (200837,true)])]⟩,aS 6 23),(18,⟨[(1,.none),(3,.none),(4,.none),(5,.none),(7,.none),(10,.none),(13,.none),(97,.none),(98,.none),(99,.none)],[(5,[.none,.none,.none,.none,.none,.none]),(7,[.none,.none,.none,.none,.none,.none]),(10,[.none,.none,.none,some (200643,true),some (200644,true),some (200645,true)]),(13,[.none,.none,.none,some (200835,true),some (200836,true),some (200837,true)])]⟩,aS 7 47),(22,⟨[(1,.none),(3,.none),(4,.none),(5,.none),(7,.none),(10,.none),(13,.none),(20,.none),(97,.none),(98,.none),(99,.none),(108,.none),(109,.none),(110,.none)],[(5,[.none,.none,.none,.none,.none,.none]),(7,[.none,.none,.none,.none,.none,.none]),(10,[.none,.none,.none,some (200643,true),some (200644,true),some (200645,true)]),(13,[.none,.none,.none,some (200835,true),some (200836,true),some (200837,true)]),(20,[some (201280,true),some (201281,true)])]⟩,aS 17 45871)] k Tryz.f257 0
def Dl (t u:Tm) (a_n vars dims:Int) (b13_4:List Tm) (v68:Int):St UU:=⟨[(1,(iI a_n)),(3,(iI vars)),(4,(iI dims)),(5,(pt 5)),(7,(pt 7)),(10,(pt 10)),(13,(pt 13)),(66,(sT t.kids)),(67,(.int .i64 (t.kids.length:Int))),(68,(iI v68))],[(5,bT t),(7,bT u),(10,.cells [(iI 0),(iI 0),(.str ByteArray.empty),(.own 200643 0),(.own 200644 0),(.own 200645 0)]),(13,.cells [(iI t.kind),(iI 0),(.str t.name),(.own 200835 0),(.own 200836 0),(.own 200837 0)])],[(200837,⟨0,ET.B,([]:List (Br Tm))⟩),(200836,⟨0,ET.T,b13_4⟩),(200835,⟨0,ET.C,t.r⟩),(200645,⟨0,ET.B,([]:List (Br Tm))⟩),(200644,⟨0,ET.T,([]:List Tm)⟩),(200643,⟨0,ET.C,([]:List Cl)⟩)],[(200837,.wr),(200836,.wr),(200835,.wr),(200645,.wr),(200644,.wr),(200643,.wr)]⟩
def tU (t:Tm) (b13_4:List Tm) (u:Tm) (a_n vars dims:Int) (b13_5:List (Br Tm)) (v99:Int):St UU:=⟨[(1,(iI a_n)),(3,(iI vars)),(4,(iI dims)),(5,(pt 5)),(7,(pt 7)),(10,(pt 10)),(13,(pt 13)),(97,(sB t.sys)),(98,(.int .i64 (t.sys.length:Int))),(99,(iI v99))],[(5,bT t),(7,bT u),(10,.cells [(iI 0),(iI 0),(.str ByteArray.empty),(.own 200643 0),(.own 200644 0),(.own 200645 0)]),(13,.cells [(iI t.kind),(iI 0),(.str t.name),(.own 200835 0),(.own 200836 0),(.own 200837 0)])],[(200837,⟨0,ET.B,b13_5⟩),(200836,⟨0,ET.T,b13_4⟩),(200835,⟨0,ET.C,t.r⟩),(200645,⟨0,ET.B,([]:List (Br Tm))⟩),(200644,⟨0,ET.T,([]:List Tm)⟩),(200643,⟨0,ET.C,([]:List Cl)⟩)],[(200837,.wr),(200836,.wr),(200835,.wr),(200645,.wr),(200644,.wr),(200643,.wr)]⟩
def Jk (t:Tm) (b13_4:List Tm) (b13_5:List (Br Tm)) (x9:(Br Tm)) (u:Tm) (a_n vars dims v99:Int) (b20_1:List Tm) (v110:Int):St UU:=⟨[(1,(iI a_n)),(3,(iI vars)),(4,(iI dims)),(5,(pt 5)),(7,(pt 7)),(10,(pt 10)),(13,(pt 13)),(20,(pt 20)),(97,(sB t.sys)),(98,(.int .i64 (t.sys.length:Int))),(99,(iI v99)),(108,(sT x9.kids)),(109,(.int .i64 (x9.kids.length:Int))),(110,(iI v110))],[(5,bT t),(7,bT u),(10,.cells [(iI 0),(iI 0),(.str ByteArray.empty),(.own 200643 0),(.own 200644 0),(.own 200645 0)]),(13,.cells [(iI t.kind),(iI 0),(.str t.name),(.own 200835 0),(.own 200836 0),(.own 200837 0)]),(20,.cells [(.own 201280 0),(.own 201281 0)])],[(201281,⟨0,ET.T,b20_1⟩),(201280,⟨0,ET.C,x9.face⟩),(200837,⟨0,ET.B,b13_5⟩),(200836,⟨0,ET.T,b13_4⟩),(200835,⟨0,ET.C,t.r⟩),(200645,⟨0,ET.B,([]:List (Br Tm))⟩),(200644,⟨0,ET.T,([]:List Tm)⟩),(200643,⟨0,ET.C,([]:List Cl)⟩)],[(201281,.wr),(201280,.wr),(200837,.wr),(200836,.wr),(200835,.wr),(200645,.wr),(200644,.wr),(200643,.wr)]⟩
section
variable {S:Type} (hd:iE S) (k:Nat) (t:Tm) (a_n:Int) (u:Tm) (vars dims:Int) (κ:Out UU→Option S)
theorem TK (b13_4 b13_5 x9 v99 κ1): ∀n b20_1 v110,(m6 hd k).lp κ 22 [κ1] n (Jk t b13_4 b13_5 x9 u a_n vars dims v99 b20_1 v110)=nT hd k (cK κ) (fun b13_5 v99=>κ1 (tU t b13_4 u a_n vars dims b13_5 v99)) t b13_4 b13_5 x9 u a_n vars dims v99 n b20_1 v110:=bR (wx hd k (cK κ) t b13_4 b13_5 x9 u a_n vars dims v99 (fun b13_5 v99=>κ1 (tU t b13_4 u a_n vars dims b13_5 v99))) rfl (fun _=>rfl) fun r b20_1 v110=>by kernel_rfl
theorem TJ (b13_4): ∀n b13_5 v99,(m6 hd k).lp κ 18 [] n (tU t b13_4 u a_n vars dims b13_5 v99)=ld hd k (cK κ) t b13_4 u a_n vars dims n b13_5 v99:=bR (fun own=>rT hd k (cK κ) t b13_4 u a_n vars dims (fun b13_5 x9 v99 b20_1 v110=>nT hd k (cK κ) own t b13_4 b13_5 x9 u a_n vars dims v99 k b20_1 v110) own) rfl (fun _=>rfl) fun r b13_5 v99=>Eq.trans (b:=rT hd k (cK κ) t b13_4 u a_n vars dims (fun b13_5 x9 v99 b20_1 v110=>(m6 hd k).lp κ 22 [r] k (Jk t b13_4 b13_5 x9 u a_n vars dims v99 b20_1 v110)) (fun b13_5 v99=>r (tU t b13_4 u a_n vars dims b13_5 v99)) b13_5 v99) (by kernel_rfl) (by simp only [TK])
theorem TI: ∀n b13_4 v68,(m6 hd k).lp κ 12 [] n (Dl t u a_n vars dims b13_4 v68)=qf hd k (cK κ) t u a_n vars dims n b13_4 v68:=bR (fun own=>rS hd k (cK κ) t u a_n vars dims (fun b13_4 b13_5 v99=>ld hd k (cK κ) t b13_4 u a_n vars dims k b13_5 v99) own) rfl (fun _=>rfl) fun r b13_4 v68=>Eq.trans (b:=rS hd k (cK κ) t u a_n vars dims (fun b13_4 b13_5 v99=>(m6 hd k).lp κ 18 [] k (tU t b13_4 u a_n vars dims b13_5 v99)) (fun b13_4 v68=>r (Dl t u a_n vars dims b13_4 v68)) b13_4 v68) (by kernel_rfl) (by simp only [TJ])
end
theorem Ih {S:Type} (o:Obj) (ho:ag o): ∀k:Nat,Tl o 257 (DV (hY k:iE S))
 |0=>gy fun t a_n u vars dims κ x h=>by cases h
 |k+1=>aj (m6 (hY k) k) ⟨jP o ho k,Cm o ho k,Ih o ho k,WI o ho k,trivial⟩ Tryz.func257 (by kernel_rfl) fun t a_n u vars dims κ x h=>Eq.trans (b:=FY (hY k) k (cK κ) (fun b13_4 v68=>(m6 (hY k) k).lp κ 12 [] k (Dl t u a_n vars dims b13_4 v68)) t a_n u vars dims) (by kernel_rfl) (Eq.trans (by simp only [TI];rfl) h)
def uE {S:Type} (hd:dB S):Rw S:=ah ie xn fun t κ=>hd t (bk κ)
def Lk {S:Type} (hd:dB S) (k:Nat):Rw S:=ah yU cr fun a_k p p' c0 κ=>aa k (ta hd k a_k p p' c0) (cV κ)
def Rl {S:Type} (hd:dB S) (k:Nat):Fx S:=fp 12 [(258,uE hd)] [] k Tryz.f298 1
theorem WJ {S:Type} (o:Obj) (ho:ag o) (hd:dB S) (Hd:Tl o 258 (uE hd)) (k:Nat):Tl o 298 (Lk hd k:Rw S):=aj (Rl hd k) ⟨Hd,trivial⟩ Tryz.func298 (by kernel_rfl) fun a_k p p' c0 κ x h=>Eq.trans (by kernel_rfl) (am h)
def Ll {S:Type} (hd:dB S) (k:Nat):Rw S:=ah aaj cr fun t c0 κ=>aa k (Ca hd k t c0) (cV κ)
def m7 {S:Type} (hd:dB S) (k:Nat):Fx S:=fp 60 [(49,jl k),(298,Lk hd k)] [(2,bW [1,2,15,16,17] [(2,6),(1000000,1)],aS 4 5),(12,bW [1,9,40,41,42] [(1000000,1)],aS 7 47),(15,bW [1,9,40,41,42,47,48,49] [(1000000,1)],aS 15 13103)] k Tryz.f116 1
def Dm (t:Tm) (e0_0 v17:Int):St UU:=⟨[(1,(.func 298 [] [(pt 1000000)])),(2,(pt 2)),(15,(sT t.kids)),(16,(.int .i64 (t.kids.length:Int))),(17,(iI v17))],[(2,bT t),(1000000,bI e0_0)],[],[]⟩
def tV (t:Tm) (e0_0' v42 more9:Int):St UU:=⟨[(1,(.func 298 [] [(pt 1000000)])),(9,(iI more9)),(40,(sB t.sys)),(41,(.int .i64 (t.sys.length:Int))),(42,(iI v42))],[(1000000,bI e0_0')],[],[]⟩
def Jl (t:Tm) (v42:Int) (x4:(Br Tm)) (more9:Int) (e0_0'' v49:Int):St UU:=⟨[(1,(.func 298 [] [(pt 1000000)])),(9,(iI more9)),(40,(sB t.sys)),(41,(.int .i64 (t.sys.length:Int))),(42,(iI v42)),(47,(sT x4.kids)),(48,(.int .i64 (x4.kids.length:Int))),(49,(iI v49))],[(1000000,bI e0_0'')],[],[]⟩
section
variable {S:Type} (hd:dB S) (k:Nat) (t:Tm) (c0:Int) (κ:Out UU→Option S)
theorem TN (v42 x4 more9 κ1): ∀n e0_0'' v49,(m7 hd k).lp κ 15 [κ1] n (Jl t v42 x4 more9 e0_0'' v49)=nZ hd k (cV κ) (fun e0_0' v42 more9=>κ1 (tV t e0_0' v42 more9)) t v42 x4 more9 n e0_0'' v49:=bR (wL hd k (cV κ) t v42 x4 more9 (fun e0_0' v42 more9=>κ1 (tV t e0_0' v42 more9))) rfl (fun _=>rfl) fun r e0_0'' v49=>by kernel_rfl
theorem TM: ∀n e0_0' v42 more9,(m7 hd k).lp κ 12 [] n (tV t e0_0' v42 more9)=li hd k (cV κ) t n e0_0' v42 more9:=gi (fun own=>sn hd k (cV κ) t (fun v42 x4 more9 e0_0'' v49=>nZ hd k (cV κ) own t v42 x4 more9 k e0_0'' v49) own) rfl (fun _=>rfl) fun r e0_0' v42 more9=>Eq.trans (b:=sn hd k (cV κ) t (fun v42 x4 more9 e0_0'' v49=>(m7 hd k).lp κ 15 [r] k (Jl t v42 x4 more9 e0_0'' v49)) (fun e0_0' v42 more9=>r (tV t e0_0' v42 more9)) e0_0' v42 more9) (by kernel_rfl) (by simp only [TN])
theorem TL: ∀n e0_0 v17,(m7 hd k).lp κ 2 [] n (Dm t e0_0 v17)=qw hd k (cV κ) t n e0_0 v17:=bR (fun own=>sk hd k (cV κ) t (fun e0_0' v42 more9=>li hd k (cV κ) t k e0_0' v42 more9) own) rfl (fun _=>rfl) fun r e0_0 v17=>Eq.trans (b:=sk hd k (cV κ) t (fun e0_0' v42 more9=>(m7 hd k).lp κ 12 [] k (tV t e0_0' v42 more9)) (fun e0_0 v17=>r (Dm t e0_0 v17)) e0_0 v17) (by kernel_rfl) (by simp only [TM])
end
theorem WK {S:Type} (o:Obj) (ho:ag o) (hd:dB S) (Hd:Tl o 258 (uE hd)) (k:Nat):Tl o 116 (Ll hd k:Rw S):=aj (m7 hd k) ⟨jP o ho k,WJ o ho hd Hd k,trivial⟩ Tryz.func116 (by kernel_rfl) fun t c0 κ x h=>Eq.trans (b:=Gi hd k (cV κ) (fun e0_0 v17=>(m7 hd k).lp κ 2 [] k (Dm t e0_0 v17)) t c0) (by kernel_rfl) (Eq.trans (by simp only [TL];rfl) (am h))
def Rk {S:Type} (hd:dB S) (k:Nat):Fx S:=fp 9 [(116,Ll hd k)] [] k Tryz.f258 0
theorem Ii {S:Type} (o:Obj) (ho:ag o): ∀k:Nat,Tl o 258 (uE (kQ k:dB S))
 |0=>gy fun t κ x h=>by cases h
 |k+1=>aj (Rk (kQ k) k) ⟨WK o ho (kQ k) (Ii o ho k) k,trivial⟩ Tryz.func258 (by kernel_rfl) fun t κ x h=>Eq.trans (by kernel_rfl) h
def Lm {S:Type} (k:Nat):Rw S:=ah aak xn fun t a_n u κ=>aa k (yi k t a_n u) (gn κ)
def Rm {S:Type} (k:Nat):Fx S:=⟨⟨49,(fun _=>[]),(fun _=>false),.none,fun|6=>true|7=>true|_=>false⟩,[(40,jm k),(254,uD (kR k)),(255,DU (hU k)),(257,DV (hY k)),(258,uE (kQ k))],[],k,Tryz.f181,false,[],0,some (oT 16 256 Tryz.f256 k)⟩
theorem WL {S:Type} (o:Obj) (ho:ag o) (k:Nat):Tl o 181 (Lm k:Rw S):=Ao (Rm k) rfl (wU o Tryz.func256 (by kernel_rfl)) ⟨jQ o ho k,If o ho k,Ig o ho k,Ih o ho k,Ii o ho k,trivial⟩ Tryz.func181 (by kernel_rfl) fun t a_n u κ x h=>Eq.trans (by kernel_rfl) (am h)
def Ln {S:Type} (k:Nat):Rw S:=ah IL cr fun t u c0 κ=>aa k (yf k t u c0) (gU κ)
def Rn {S:Type} (k:Nat):Fx S:=fp 18 [(93,jo k),(94,jp k),(181,Lm k)] [] k Tryz.f100 1
theorem WM {S:Type} (o:Obj) (ho:ag o) (k:Nat):Tl o 100 (Ln k:Rw S):=aj (Rn k) ⟨jR o ho k,jS o ho k,WL o ho k,trivial⟩ Tryz.func100 (by kernel_rfl) fun t u c0 κ x h=>Eq.trans (by kernel_rfl) (am h)
def Lp {S:Type} (k:Nat):Rw S:=ah IK cr fun t a_r c0 κ=>aa k (yh k t a_r c0) (gU κ)
def Rp {S:Type} (k:Nat):Fx S:=fp 18 [(28,zM k),(93,jo k),(94,jp k)] [] k Tryz.f130 1
theorem WN {S:Type} (o:Obj) (ho:ag o) (k:Nat):Tl o 130 (Lp k:Rw S):=aj (Rp k) ⟨Cf o ho k,jR o ho k,jS o ho k,trivial⟩ Tryz.func130 (by kernel_rfl) fun t a_r c0 κ x h=>Eq.trans (by kernel_rfl) (am h)
def jk {S:Type} (k:Nat):Rw S:=ah CS xn fun kind kids κ=>aa k (dI k kind kids) (ux κ)
def Rq {S:Type} (k:Nat):Fx S:=fx 8 (fun _=>[]) (fun _=>false) [] [] k Tryz.f58 true [] 0
theorem jO {S:Type} (o:Obj) (ho:ag o) (k:Nat):Tl o 58 (jk k:Rw S):=aj (Rq k) trivial Tryz.func58 (by kernel_rfl) fun kind kids κ x h=>Eq.trans (by kernel_rfl) (am h)
def Lr {S:Type} (k:Nat):Rw S:=ah aal xn fun kind a_r kids κ=>aa k (s9 k kind a_r kids) (aeg κ)
def Rs {S:Type} (k:Nat):Fx S:=fx 11 (fun _=>[]) (fun _=>false) [] [] k Tryz.f73 true [] 0
theorem WP {S:Type} (o:Obj) (ho:ag o) (k:Nat):Tl o 73 (Lr k:Rw S):=aj (Rs k) trivial Tryz.func73 (by kernel_rfl) fun kind a_r kids κ x h=>Eq.trans (by kernel_rfl) (am h)
def Ls {S:Type} (k:Nat):Rw S:=ah aam cr fun f a_by c0 κ=>aa k (yg k f a_by c0) (KP κ)
def Rt {S:Type} (k:Nat):Fx S:=fp 23 [(75,ou k),(93,jo k),(94,jp k)] [] k Tryz.f103 1
theorem WQ {S:Type} (o:Obj) (ho:ag o) (k:Nat):Tl o 103 (Ls k:Rw S):=aj (Rt k) ⟨pr o ho k,jR o ho k,jS o ho k,trivial⟩ Tryz.func103 (by kernel_rfl) fun f a_by c0 κ x h=>Eq.trans (by kernel_rfl) (am h)
def lx {S:Type} (k:Nat):Rw S:=ah aan xn fun f kids κ=>aa k (dU k f kids) (KR κ)
def Rv {S:Type} (k:Nat):Fx S:=fp 8 [] [] k Tryz.f59 0
theorem l_ {S:Type} (o:Obj) (ho:ag o) (k:Nat):Tl o 59 (lx k:Rw S):=aj (Rv k) trivial Tryz.func59 (by kernel_rfl) fun f kids κ x h=>Eq.trans (by kernel_rfl) (am h)
def Lt {S:Type} (k:Nat):Rw S:=ah ID cr fun t a_by c0 κ=>aa k (ye k t a_by c0) (gU κ)
def Rx {S:Type} (k:Nat):Fx S:=fp 18 [(35,zW k),(93,jo k),(94,jp k)] [] k Tryz.f104 1
theorem WR {S:Type} (o:Obj) (ho:ag o) (k:Nat):Tl o 104 (Lt k:Rw S):=aj (Rx k) ⟨Co o ho k,jR o ho k,jS o ho k,trivial⟩ Tryz.func104 (by kernel_rfl) fun t a_by c0 κ x h=>Eq.trans (by kernel_rfl) (am h)
def DX {S:Type} (k:Nat):Rw S:=ah aao xn fun sys κ=>aa k (oW k sys) (aei κ)
def Ry {S:Type} (k:Nat):Fx S:=fx 8 (fun _=>[]) (fun _=>false) [(186,lw k)] [] k Tryz.f208 true [] 0
theorem Hw {S:Type} (o:Obj) (ho:ag o) (k:Nat):Tl o 208 (DX k:Rw S):=aj (Ry k) ⟨l9 o ho k,trivial⟩ Tryz.func208 (by kernel_rfl) fun sys κ x h=>Eq.trans (by kernel_rfl) (am h)
def Lu {S:Type} (k:Nat):Rw S:=ah mh cr fun line c0 κ=>aa k (xd k line c0) (gU κ)
def Rz {S:Type} (k:Nat):Fx S:=fp 25 [(28,zM k),(29,zY k),(210,mF k),(270,ow k)] [] k Tryz.f260 1
theorem WS {S:Type} (o:Obj) (ho:ag o) (k:Nat):Tl o 260 (Lu k:Rw S):=aj (Rz k) ⟨Cf o ho k,Cq o ho k,nB o ho k,pw o ho k,trivial⟩ Tryz.func260 (by kernel_rfl) fun line c0 κ x h=>Eq.trans (by kernel_rfl) (am h)
def Lv {S:Type} (k:Nat):Rw S:=ah IM xn fun line a sys κ=>aa k (w9 k line a sys) (gn κ)
def AN {S:Type} (k:Nat):Fx S:=fp 78 [(41,mE (du k)),(186,lw k),(207,zU k),(208,DX k),(210,mF k),(212,DT k),(213,zN k),(260,Lu k)] [(5,⟨[(3,.none),(6,.none),(8,.none),(9,.none),(36,.none),(37,.none),(38,.none)],[(3,[.none,.none,.none,.none,.none,.none]),(6,[.none,.none,.none,some (200387,true),some (200388,true),some (200389,true)]),(9,[.none,.none,.none,some (200579,true),.none,some (200581,true)]),(19000,[.none])]⟩,aS 7 47)] k Tryz.f183 0
def Jn (r3:Tm) (r9:Int×Int×ByteArray×List Tm) (r6:Tm) (b19000_0:Int) (b9_5:List (Br Tm)) (v38:Int):St UU:=⟨[(3,(pt 3)),(6,(pt 6)),(8,(pt 19000)),(9,(pt 9)),(36,(sB r6.sys)),(37,(.int .i64 (r6.sys.length:Int))),(38,(iI v38))],[(3,bT r3),(6,.cells [(iI 0),(iI 0),(.str ByteArray.empty),(.own 200387 0),(.own 200388 0),(.own 200389 0)]),(9,.cells [(iI r9.1),(iI r9.2.1),(.str r9.2.2.1),(.own 200579 0),(sT r9.2.2.2),(.own 200581 0)]),(19000,bI b19000_0)],[(200581,⟨0,ET.B,b9_5⟩),(200579,⟨0,ET.C,([]:List Cl)⟩),(200389,⟨0,ET.B,([]:List (Br Tm))⟩),(200388,⟨0,ET.T,([]:List Tm)⟩),(200387,⟨0,ET.C,([]:List Cl)⟩)],[(200581,.wr),(200579,.wr),(200389,.wr),(200388,.wr),(200387,.wr)]⟩
section
variable {S:Type} (k:Nat) (line a:Tm) (sys:List (Br Tm)) (κ:Out UU→Option S)
theorem TQ (r3 r9 r6): ∀n b19000_0 b9_5 v38,(AN k).lp κ 5 [] n (Jn r3 r9 r6 b19000_0 b9_5 v38)=k_ k (gn κ) r3 r9 r6 n b19000_0 b9_5 v38:=gi (oN k (gn κ) r3 r9 r6) rfl (fun _=>rfl) fun r b19000_0 b9_5 v38=>by kernel_rfl
end
theorem WT {S:Type} (o:Obj) (ho:ag o) (k:Nat):Tl o 183 (Lv k:Rw S):=aj (AN k) ⟨pG o ho k,l9 o ho k,Cn o ho k,Hw o ho k,nB o ho k,Hu o ho k,Cg o ho k,WS o ho k,trivial⟩ Tryz.func183 (by kernel_rfl) fun line a sys κ x h=>Eq.trans (b:=E8 k (gn κ) (fun r3 r9 r6 b19000_0 b9_5 v38=>(AN k).lp κ 5 [] k (Jn r3 r9 r6 b19000_0 b9_5 v38)) line a sys) (by kernel_rfl) (Eq.trans (by simp only [TQ];rfl) (am h))
def Lw {S:Type} (k:Nat):Rw S:=ah IN cr fun line a sys c0 κ=>aa k (yb k line a sys c0) (gU κ)
def RA {S:Type} (k:Nat):Fx S:=fp 21 [(93,jo k),(94,jp k),(183,Lv k)] [] k Tryz.f102 1
theorem WU {S:Type} (o:Obj) (ho:ag o) (k:Nat):Tl o 102 (Lw k:Rw S):=aj (RA k) ⟨jR o ho k,jS o ho k,WT o ho k,trivial⟩ Tryz.func102 (by kernel_rfl) fun line a sys c0 κ x h=>Eq.trans (by kernel_rfl) (am h)
def Lx {S:Type} (k:Nat):Rw S:=ah mh cr fun t c0 κ=>aa k (yc k t c0) (gU κ)
def RB {S:Type} (k:Nat):Fx S:=fp 9 [(29,zY k),(130,Lp k)] [] k Tryz.f67 1
theorem WV {S:Type} (o:Obj) (ho:ag o) (k:Nat):Tl o 67 (Lx k:Rw S):=aj (RB k) ⟨Cq o ho k,WN o ho k,trivial⟩ Tryz.func67 (by kernel_rfl) fun t c0 κ x h=>Eq.trans (by kernel_rfl) (am h)
def mD {S:Type} (k:Nat):Rw S:=ah aap xn fun kind l kids κ=>aa k (dV k kind l kids) (KS κ)
def RD {S:Type} (k:Nat):Fx S:=fx 11 (fun _=>[]) (fun _=>false) [] [] k Tryz.f63 true [] 0
theorem nA {S:Type} (o:Obj) (ho:ag o) (k:Nat):Tl o 63 (mD k:Rw S):=aj (RD k) trivial Tryz.func63 (by kernel_rfl) fun kind l kids κ x h=>Eq.trans (by kernel_rfl) (am h)
section
variable {S:Type} (k:Nat) (t:Tm) (κ:Out UU→Option S)
end
def Ly {S:Type} (k:Nat):Rw S:=ah ZE xn fun b κ=>aa k (B2 k b) (KR κ)
def RG {S:Type} (k:Nat):Fx S:=fp 11 [(59,lx k)] [] k Tryz.f118 0
theorem WW {S:Type} (o:Obj) (ho:ag o) (k:Nat):Tl o 118 (Ly k:Rw S):=aj (RG k) ⟨l_ o ho k,trivial⟩ Tryz.func118 (by kernel_rfl) fun b κ x h=>Eq.trans (by kernel_rfl) (am h)
def Lz {S:Type} (k:Nat):Rw S:=ah ZF xn fun l κ=>aa k (B0 k l) (zK κ)
def AO {S:Type} (k:Nat):Fx S:=fx 22 (fun _=>[]) (fun _=>false) [(118,Ly k)] [(3,⟨[(1,.none),(5,some (100005,true)),(8,.none),(9,.none),(10,.none)],[]⟩,aS 5 11)] k Tryz.f54 false [true] 0
def Jo (l:List (Br Tm)) (v10:Int) (out5:List (Br Tm)):St UU:=⟨[(1,(.func 118 [] [])),(5,(.own 100005 0)),(8,(sB l)),(9,(.int .i64 (l.length:Int))),(10,(iI v10))],[],[(100005,⟨0,ET.B,out5⟩)],[(100005,.wr)]⟩
section
variable {S:Type} (k:Nat) (l:List (Br Tm)) (κ:Out UU→Option S)
theorem TR: ∀n v10 out5,(AO k).lp κ 3 [] n (Jo l v10 out5)=pZ k (zK κ) l n v10 out5:=bR (v6 k (zK κ) l) rfl (fun _=>rfl) fun r v10 out5=>by kernel_rfl
end
theorem WX {S:Type} (o:Obj) (ho:ag o) (k:Nat):Tl o 54 (Lz k:Rw S):=aj (AO k) ⟨WW o ho k,trivial⟩ Tryz.func54 (by kernel_rfl) fun l κ x h=>Eq.trans (b:=FI k (zK κ) (fun v10 out5=>(AO k).lp κ 3 [] k (Jo l v10 out5)) l) (by kernel_rfl) (Eq.trans (by simp only [TR];rfl) (am h))
def LA {S:Type} (k:Nat):Rw S:=ah ie xn fun g κ=>aa k (xL k g) (KU κ)
def RH {S:Type} (k:Nat):Fx S:=fp 6 [(54,Lz k)] [] k Tryz.f53 0
theorem WY {S:Type} (o:Obj) (ho:ag o) (k:Nat):Tl o 53 (LA k:Rw S):=aj (RH k) ⟨WX o ho k,trivial⟩ Tryz.func53 (by kernel_rfl) fun g κ x h=>Eq.trans (by kernel_rfl) (am h)
def DY {S:Type} (k:Nat):Rw S:=ah ZG xn fun a es κ=>aa k (nw k a es) (KS κ)
def RI {S:Type} (k:Nat):Fx S:=fx 9 (fun _=>[]) (fun _=>false) [(63,mD k)] [] k Tryz.f57 true [] 0
theorem Hx {S:Type} (o:Obj) (ho:ag o) (k:Nat):Tl o 57 (DY k:Rw S):=aj (RI k) ⟨nA o ho k,trivial⟩ Tryz.func57 (by kernel_rfl) fun a es κ x h=>Eq.trans (by kernel_rfl) (am h)
section
variable {S:Type} (k:Nat) (l:List Cl) (c0:Int) (κ:Out UU→Option S)
end
end
end Go.Proofs.YtgajalidbabccaaGreatDoor
namespace Go.Proofs.YtgajalidbabccaaGreatDoor
open Go PI
set_option linter.unusedVariables false
set_option maxRecDepth 100000
noncomputable section
def LC {S:Type} (k:Nat):Rw S:=ah ie xn fun a_e κ=>aa k (B1 k a_e) (ux κ)
def RL {S:Type} (k:Nat):Fx S:=fx 6 (fun _=>[]) (fun _=>false) [(58,jk k)] [] k Tryz.f61 true [] 0
theorem W4 {S:Type} (o:Obj) (ho:ag o) (k:Nat):Tl o 61 (LC k:Rw S):=aj (RL k) ⟨jO o ho k,trivial⟩ Tryz.func61 (by kernel_rfl) fun a_e κ x h=>Eq.trans (by kernel_rfl) (am h)
section
variable {S:Type} (k:Nat) (l:List (Br Tm)) (c1_0:Int) (c1_1:List Cl) (c1_2 c1_3:Int) (c1_4:ByteArray) (c1_5:List Cl) (c1_6:List Tm) (c1_7 c1_8:List (Br Tm)) (c1_9 c1_10:Int) (c1_11:ByteArray) (c1_12:List Cl) (c1_13:List Tm) (c1_14:List (Br Tm)) (c1_15 c1_16:Int) (c1_17:ByteArray) (c1_18:List Cl) (c1_19:List Tm) (c1_20:List (Br Tm)) (κ:Out UU→Option S)
end
section
variable {S:Type} (k:Nat) (g:Tm) (c0_0:Int) (c0_1:List Cl) (c0_2 c0_3:Int) (c0_4:ByteArray) (c0_5:List Cl) (c0_6:List Tm) (c0_7:List (Br Tm)) (c0_9 c0_10:Int) (c0_11:ByteArray) (c0_12:List Cl) (c0_13:List Tm) (c0_14:List (Br Tm)) (c0_15 c0_16:Int) (c0_17:ByteArray) (c0_18:List Cl) (c0_19:List Tm) (c0_20:List (Br Tm)) (κ:Out UU→Option S)
end
def qS {S:Type} (k:Nat):Rw S:=ah jV xn fun a_n κ=>aa k (fN k a_n) (KO κ)
def RM {S:Type} (k:Nat):Fx S:=fx 5 (fun _=>[]) (fun _=>false) [] [] k Tryz.f187 true [] 0
theorem tp {S:Type} (o:Obj) (ho:ag o) (k:Nat):Tl o 187 (qS k:Rw S):=aj (RM k) trivial Tryz.func187 (by kernel_rfl) fun a_n κ x h=>Eq.trans (by kernel_rfl) (am h)
def LD {S:Type} (k:Nat):Rw S:=ah ZH cr fun t a f y c0 κ=>aa k (sK k t a f y c0) (KV κ)
def RN {S:Type} (k:Nat):Fx S:=fx 28 (fun _=>[]) (fun _=>false) [(186,lw k),(187,qS k),(209,uC k)] [] k Tryz.f262 true [] 1
theorem W5 {S:Type} (o:Obj) (ho:ag o) (k:Nat):Tl o 262 (LD k:Rw S):=aj (RN k) ⟨l9 o ho k,tp o ho k,yu o ho k,trivial⟩ Tryz.func262 (by kernel_rfl) fun t a f y c0 κ x h=>Eq.trans (by kernel_rfl) (am h)
section
variable {S:Type} (k:Nat) (l:List (Br Tm)) (c2:Tm) (c3_0:Int) (c3_1:List Cl) (c3_2 c3_3:Int) (c3_4:ByteArray) (c3_5:List Cl) (c3_6:List Tm) (c3_7 c3_8:List (Br Tm)) (c3_9 c3_10:Int) (c3_11:ByteArray) (c3_12:List Cl) (c3_13:List Tm) (c3_14:List (Br Tm)) (c3_15 c3_16:Int) (c3_17:ByteArray) (c3_18:List Cl) (c3_19:List Tm) (c3_20:List (Br Tm)) (κ:Out UU→Option S)
end
section
variable {S:Type} (k:Nat) (l:List (Br Tm)) (c1_0:Int) (c1_1:List Cl) (c1_2 c1_3:Int) (c1_4:ByteArray) (c1_5:List Cl) (c1_6:List Tm) (c1_7 c1_8:List (Br Tm)) (c1_9 c1_10:Int) (c1_11:ByteArray) (c1_12:List Cl) (c1_13:List Tm) (c1_14:List (Br Tm)) (c1_15 c1_16:Int) (c1_17:ByteArray) (c1_18:List Cl) (c1_19:List Tm) (c1_20:List (Br Tm)) (κ:Out UU→Option S)
end
section
variable {S:Type} (k:Nat) (t:Tm) (κ:Out UU→Option S)
end
def DZ {S:Type} (k:Nat):Rw S:=ah pH xn fun a b κ=>aa k (pk k a b) (bw κ)
def AQ {S:Type} (k:Nat):Fx S:=fp 26 [] [(4,bW [0,1,5] [],aS 5 11)] k Tryz.f30 0
def Jp (a b:List Cl) (i5:Int):St UU:=⟨[(0,(sC a)),(1,(sC b)),(5,(iI i5))],[],[],[]⟩
section
variable {S:Type} (k:Nat) (a b:List Cl) (κ:Out UU→Option S)
theorem TS: ∀n i5,(AQ k).lp κ 4 [] n (Jp a b i5)=qh k (bw κ) a b n i5:=eP (wy k (bw κ) a b) rfl (fun _=>rfl) fun r i5=>by kernel_rfl
end
theorem Hy {S:Type} (o:Obj) (ho:ag o) (k:Nat):Tl o 30 (DZ k:Rw S):=aj (AQ k) trivial Tryz.func30 (by kernel_rfl) fun a b κ x h=>Eq.trans (b:=FZ k (bw κ) (fun i5=>(AQ k).lp κ 4 [] k (Jp a b i5)) a b) (by kernel_rfl) (Eq.trans (by simp only [TS];rfl) (am h))
def uF {S:Type} (hd:fJ S):Rw S:=ah CT xn fun a b κ=>hd a b (bw κ)
def LH {S:Type} (hd:fJ S) (k:Nat):Rw S:=ah ZJ xn fun a b κ=>aa k (s_ hd k a b) (bw κ)
def AS {S:Type} (hd:fJ S) (k:Nat):Fx S:=fp 27 [(14,uF hd)] [(4,bW [0,1,5] [],aS 5 11)] k Tryz.f38 0
def Jr (a b:List Tm) (i5:Int):St UU:=⟨[(0,(sT a)),(1,(sT b)),(5,(iI i5))],[],[],[]⟩
section
variable {S:Type} (hd:fJ S) (k:Nat) (a b:List Tm) (κ:Out UU→Option S)
theorem TU: ∀n i5,(AS hd k).lp κ 4 [] n (Jr a b i5)=qj hd k (bw κ) a b n i5:=eP (wB hd k (bw κ) a b) rfl (fun _=>rfl) fun r i5=>by kernel_rfl
end
theorem W8 {S:Type} (o:Obj) (ho:ag o) (hd:fJ S) (Hd:Tl o 14 (uF hd)) (k:Nat):Tl o 38 (LH hd k:Rw S):=aj (AS hd k) ⟨Hd,trivial⟩ Tryz.func38 (by kernel_rfl) fun a b κ x h=>Eq.trans (b:=F5 hd k (bw κ) (fun i5=>(AS hd k).lp κ 4 [] k (Jr a b i5)) a b) (by kernel_rfl) (Eq.trans (by simp only [TU];rfl) (am h))
def AR {S:Type} (hd:fJ S) (k:Nat):Fx S:=fp 87 [(30,DZ k),(38,LH hd k)] [(4,bW [2,3,5] [(2,6),(3,6)],aS 5 11)] k Tryz.f14 0
def Jq (a b:Tm) (i5:Int):St UU:=⟨[(2,(pt 2)),(3,(pt 3)),(5,(iI i5))],[(2,bT a),(3,bT b)],[],[]⟩
section
variable {S:Type} (hd:fJ S) (k:Nat) (a b:Tm) (κ:Out UU→Option S)
theorem TT: ∀n i5,(AR hd k).lp κ 4 [] n (Jq a b i5)=qi hd k (bw κ) a b n i5:=eP (wA hd k (bw κ) a b) rfl (fun _=>rfl) fun r i5=>by kernel_rfl
end
theorem CH {S:Type} (o:Obj) (ho:ag o): ∀k:Nat,Tl o 14 (uF (cZ k:fJ S))
 |0=>gy fun a b κ x h=>by cases h
 |k+1=>aj (AR (cZ k) k) ⟨Hy o ho k,W8 o ho (cZ k) (CH o ho k) k,trivial⟩ Tryz.func14 (by kernel_rfl) fun a b κ x h=>Eq.trans (b:=F1 (cZ k) k (bw κ) (fun i5=>(AR (cZ k) k).lp κ 4 [] k (Jq a b i5)) a b) (by kernel_rfl) (Eq.trans (by simp only [TT];rfl) h)
end
end Go.Proofs.YtgajalidbabccaaGreatDoor
namespace Go.Proofs.YtgajalidbabccaaGreatDoor
open Go PI
set_option linter.unusedVariables false
set_option maxRecDepth 100000
noncomputable section
section
variable {S:Type} (hd:Tf S) (k:Nat) (t:Tm) (κ:Out UU→Option S)
end
section
variable {S:Type} (hd:Tg S) (k:Nat) (t:Tm) (κ:Out UU→Option S)
end
section
variable {S:Type} (hd:Th S) (k:Nat) (t:Tm) (κ:Out UU→Option S)
end
section
variable {S:Type} (k:Nat) (s:ByteArray) (κ:Out UU→Option S)
end
section
variable {S:Type} (k:Nat) (a_n:Int) (κ:Out UU→Option S)
end
section
variable {S:Type} (k:Nat) (l:List Cl) (c:Cl) (κ:Out UU→Option S)
end
section
variable {S:Type} (k:Nat) (l:List Cl) (κ:Out UU→Option S)
end
section
variable {S:Type} (k:Nat) (l:List Int) (κ:Out UU→Option S)
end
section
variable {S:Type} (k:Nat) (f:List Cl) (κ:Out UU→Option S)
end
section
variable {S:Type} (k:Nat) (s:Int) (κ:Out UU→Option S)
end
section
variable {S:Type} (k:Nat) (kind kid:Int) (κ:Out UU→Option S)
end
section
variable {S:Type} (k:Nat) (c:Cl) (κ:Out UU→Option S)
end
section
variable {S:Type} (k:Nat) (f:List Cl) (κ:Out UU→Option S)
end
section
variable {S:Type} (hd:Te S) (k:Nat) (t:Tm) (vars dims:Int) (bound:Bool) (κ:Out UU→Option S)
end
section
variable {S:Type} (k:Nat) (s a_from a_by:Int) (κ:Out UU→Option S)
end
section
variable {S:Type} (k:Nat) (f:List Cl) (a_from a_by:Int) (κ:Out UU→Option S)
end
end
end Go.Proofs.YtgajalidbabccaaGreatDoor
namespace Go.Proofs.YtgajalidbabccaaGreatDoor
open Go PI
set_option linter.unusedVariables false
set_option maxRecDepth 100000
noncomputable section
section
variable {S:Type} (hd:Ti S) (k:Nat) (t:Tm) (v vby d dby:Int) (κ:Out UU→Option S)
end
section
variable {S:Type} (k:Nat) (s i:Int) (κ:Out UU→Option S)
end
section
variable {S:Type} (k:Nat) (l:List Cl) (κ:Out UU→Option S)
end
section
variable {S:Type} (k:Nat) (c:Cl) (κ:Out UU→Option S)
end
section
variable {S:Type} (k:Nat) (a b:Int) (κ:Out UU→Option S)
end
section
variable {S:Type} (k:Nat) (f g:List Cl) (κ:Out UU→Option S)
end
section
variable {S:Type} (k:Nat) (f:List Cl) (κ:Out UU→Option S)
end
section
variable {S:Type} (k:Nat) (f g:List Cl) (κ:Out UU→Option S)
end
section
variable {S:Type} (k:Nat) (f:List Cl) (i:Int) (a_r:List Cl) (κ:Out UU→Option S)
end
section
variable {S:Type} (k:Nat) (f:List Cl) (i:Int) (a_r:List Cl) (κ:Out UU→Option S)
end
section
variable {S:Type} (k:Nat) (s i:Int) (κ:Out UU→Option S)
end
section
variable {S:Type} (k:Nat) (f:List Cl) (i:Int) (κ:Out UU→Option S)
end
section
variable {S:Type} (hd:Tn S) (k:Nat) (t:Tm) (i:Int) (a_r:List Cl) (depth:Int) (drop:Bool) (κ:Out UU→Option S)
end
def LM {S:Type} (k:Nat):Rw S:=ah ie xn fun t κ=>aa k (xS k t) (bw κ)
def RU {S:Type} (k:Nat):Fx S:=fp 6 [(9,DO (hZ k))] [] k Tryz.f15 0
theorem Xb {S:Type} (o:Obj) (ho:ag o) (k:Nat):Tl o 15 (LM k:Rw S):=aj (RU k) ⟨Ie o ho k,trivial⟩ Tryz.func15 (by kernel_rfl) fun t κ x h=>Eq.trans (by kernel_rfl) (am h)
def LN {S:Type} (k:Nat):Rw S:=ah CS xn fun kind kids κ=>aa k (gH k kind kids) (ux κ)
def RV {S:Type} (k:Nat):Fx S:=fx 8 (fun _=>[]) (fun _=>false) [] [] k Tryz.f39 true [] 0
theorem Xc {S:Type} (o:Obj) (ho:ag o) (k:Nat):Tl o 39 (LN k:Rw S):=aj (RV k) trivial Tryz.func39 (by kernel_rfl) fun kind kids κ x h=>Eq.trans (by kernel_rfl) (am h)
def LO {S:Type} (k:Nat):Rw S:=ah CV GA fun u c1_0 c1_1 c1_2 c1_3 c1_4 c1_5 c1_6 c1_7 κ=>aa k (xN k u c1_0 c1_1 c1_2 c1_3 c1_4 c1_5 c1_6 c1_7) (KX c1_1 c1_2 c1_3 c1_4 c1_5 c1_6 c1_7 κ)
def RW {S:Type} (k:Nat):Fx S:=fp 13 [(56,ov k),(58,jk k),(95,Ea k)] [] k Tryz.f97 2
theorem Xd {S:Type} (o:Obj) (ho:ag o) (k:Nat):Tl o 97 (LO k:Rw S):=aj (RW k) ⟨pu o ho k,jO o ho k,HG o ho k,trivial⟩ Tryz.func97 (by kernel_rfl) fun u c1_0 c1_1 c1_2 c1_3 c1_4 c1_5 c1_6 c1_7 κ x h=>Eq.trans (by kernel_rfl) (am h)
end
end Go.Proofs.YtgajalidbabccaaGreatDoor
namespace Go.Proofs.YtgajalidbabccaaGreatDoor
open Go PI
set_option linter.unusedVariables false
set_option maxRecDepth 100000
noncomputable section
def aep {S:Type} (k:Nat):Rw S:=ah Iu Ax fun c0_0 c0_1 c0_2 c0_3 c0_4 c0_5 c0_6 c0_7 κ=>aa k (pc k c0_0 c0_1 c0_2 c0_3 c0_4 c0_5 c0_6 c0_7) (kc c0_1 c0_2 c0_3 c0_4 c0_5 c0_6 c0_7 κ)
def LP {S:Type} (k:Nat):Rw S:=ah Iu Ax fun c0_0 c0_1 c0_2 c0_3 c0_4 c0_5 c0_6 c0_7 κ=>aa k (pc k c0_0 c0_1 c0_2 c0_3 c0_4 c0_5 c0_6 c0_7) (KY κ)
def AU {S:Type} (k:Nat):Fx S:=fp 31 [(59,lx k),(97,LO k)] [(3,⟨[(1,.none),(5,some (100005,true)),(11,.none),(12,.none),(13,.none)],[(1000000,[.none,.none,.none,.none,.none,.none,.none,.none]),(1000001,[.none])]⟩,aS 5 11)] k Tryz.f96 2
def Jv (c0_1 c0_2:Int) (c0_3:ByteArray) (c0_4:List Cl) (c0_5:List Tm) (c0_6 c0_7:List (Br Tm)) (e0_0 v13:Int) (out5:List (Br Tm)):St UU:=⟨[(1,(.func 97 [] [(pt 1000001)])),(5,(.own 100005 0)),(11,(sB c0_7)),(12,(.int .i64 (c0_7.length:Int))),(13,(iI v13))],[(1000000,.cells [(iI e0_0),(iI c0_1),(iI c0_2),(.str c0_3),(sC c0_4),(sT c0_5),(sB c0_6),(sB c0_7)]),(1000001,.cells [(pt 1000000)])],[(100005,⟨0,ET.B,out5⟩)],[(100005,.wr)]⟩
section
variable {S:Type} (k:Nat) (c0_0 c0_1 c0_2:Int) (c0_3:ByteArray) (c0_4:List Cl) (c0_5:List Tm) (c0_6 c0_7:List (Br Tm)) (κ:Out UU→Option S)
theorem TZ: ∀n e0_0 v13 out5,(AU k).lp κ 3 [] n (Jv c0_1 c0_2 c0_3 c0_4 c0_5 c0_6 c0_7 e0_0 v13 out5)=p8 k (kc c0_1 c0_2 c0_3 c0_4 c0_5 c0_6 c0_7 κ) c0_1 c0_2 c0_3 c0_4 c0_5 c0_6 c0_7 n e0_0 v13 out5:=gi (wa k (kc c0_1 c0_2 c0_3 c0_4 c0_5 c0_6 c0_7 κ) c0_1 c0_2 c0_3 c0_4 c0_5 c0_6 c0_7) rfl (fun _=>rfl) fun r e0_0 v13 out5=>by kernel_rfl
end
theorem Xf {S:Type} (o:Obj) (ho:ag o) (k:Nat):Tl o 96 (aep k:Rw S):=aj (AU k) ⟨l_ o ho k,Xd o ho k,trivial⟩ Tryz.func96 (by kernel_rfl) fun c0_0 c0_1 c0_2 c0_3 c0_4 c0_5 c0_6 c0_7 κ x h=>Eq.trans (b:=FL k (kc c0_1 c0_2 c0_3 c0_4 c0_5 c0_6 c0_7 κ) (fun e0_0 v13 out5=>(AU k).lp κ 3 [] k (Jv c0_1 c0_2 c0_3 c0_4 c0_5 c0_6 c0_7 e0_0 v13 out5)) c0_0 c0_1 c0_2 c0_3 c0_4 c0_5 c0_6 c0_7) (by kernel_rfl) (Eq.trans (by simp only [TZ];rfl) (am h))
theorem Xe {S:Type} (o:Obj) (ho:ag o) (k:Nat):Tl o 96 (LP k:Rw S):=Qb (n:=0) (m:=1) (Xf o ho k) fun c0_0 c0_1 c0_2 c0_3 c0_4 c0_5 c0_6 c0_7 κ x h=>Eq.trans (b:=aa k (pc k c0_0 c0_1 c0_2 c0_3 c0_4 c0_5 c0_6 c0_7) (kc c0_1 c0_2 c0_3 c0_4 c0_5 c0_6 c0_7 (w7 0 1 [.cells [(iI c0_0),(iI c0_1),(iI c0_2),(.str c0_3),(sC c0_4),(sT c0_5),(sB c0_6),(sB c0_7)],.cells [(pt 0)]] κ))) (by kernel_rfl) (Eq.trans (congrArg (aa k (pc k c0_0 c0_1 c0_2 c0_3 c0_4 c0_5 c0_6 c0_7)) (funext fun r=>if_pos ⟨rfl,rfl⟩)) h)
def LQ {S:Type} (k:Nat):Rw S:=ah mh Ay fun t c0_0 c0_1 c0_2 c0_3 c0_4 c0_5 c0_6 c0_7 κ=>aa k (xO k t c0_0 c0_1 c0_2 c0_3 c0_4 c0_5 c0_6 c0_7) (qP c0_1 c0_2 c0_3 c0_4 c0_5 c0_6 c0_7 κ)
def RY {S:Type} (k:Nat):Fx S:=fx 31 (fun _=>[]) (fun _=>false) [(56,ov k),(58,jk k),(63,mD k),(95,Ea k),(96,LP k)] [] k Tryz.f43 true [] 1
theorem Xg {S:Type} (o:Obj) (ho:ag o) (k:Nat):Tl o 43 (LQ k:Rw S):=aj (RY k) ⟨pu o ho k,jO o ho k,nA o ho k,HG o ho k,Xe o ho k,trivial⟩ Tryz.func43 (by kernel_rfl) fun t c0_0 c0_1 c0_2 c0_3 c0_4 c0_5 c0_6 c0_7 κ x h=>Eq.trans (by kernel_rfl) (am h)
def LR {S:Type} (k:Nat):Rw S:=ah CV cr fun u c0 κ=>aa k (B3 k u c0) (aek c0 κ)
def RZ {S:Type} (k:Nat):Fx S:=fp 9 [(58,jk k)] [] k Tryz.f99 1
theorem Xh {S:Type} (o:Obj) (ho:ag o) (k:Nat):Tl o 99 (LR k:Rw S):=aj (RZ k) ⟨jO o ho k,trivial⟩ Tryz.func99 (by kernel_rfl) fun u c0 κ x h=>Eq.trans (by kernel_rfl) (am h)
def aeq {S:Type} (k:Nat):Rw S:=ah Iv QO fun c0_0 c0_1 c0_2 c0_3 c0_4 c0_5 c0_6 c0_7 c1 κ=>aa k (pe k c0_0 c0_1 c0_2 c0_3 c0_4 c0_5 c0_6 c0_7 c1) (uB c0_0 c0_1 c0_2 c0_3 c0_4 c0_5 c0_6 c0_7 c1 κ)
def LS {S:Type} (k:Nat):Rw S:=ah Iv QO fun c0_0 c0_1 c0_2 c0_3 c0_4 c0_5 c0_6 c0_7 c1 κ=>aa k (pe k c0_0 c0_1 c0_2 c0_3 c0_4 c0_5 c0_6 c0_7 c1) (KU κ)
def AV {S:Type} (k:Nat):Fx S:=fp 31 [(59,lx k),(99,LR k)] [(3,⟨[(1,.none),(5,some (100005,true)),(11,.none),(12,.none),(13,.none)],[(1000000,[.none,.none,.none,.none,.none,.none,.none,.none]),(1000001,[.none])]⟩,aS 5 11)] k Tryz.f96 2
def Jw (c0_0 c0_1 c0_2:Int) (c0_3:ByteArray) (c0_4:List Cl) (c0_5:List Tm) (c0_6 c0_7:List (Br Tm)) (c1:Int) (v13:Int) (out5:List (Br Tm)):St UU:=⟨[(1,(.func 99 [] [(pt 1000001)])),(5,(.own 100005 0)),(11,(sB c0_7)),(12,(.int .i64 (c0_7.length:Int))),(13,(iI v13))],[(1000000,.cells [(iI c0_0),(iI c0_1),(iI c0_2),(.str c0_3),(sC c0_4),(sT c0_5),(sB c0_6),(sB c0_7)]),(1000001,bI c1)],[(100005,⟨0,ET.B,out5⟩)],[(100005,.wr)]⟩
section
variable {S:Type} (k:Nat) (c0_0 c0_1 c0_2:Int) (c0_3:ByteArray) (c0_4:List Cl) (c0_5:List Tm) (c0_6 c0_7:List (Br Tm)) (c1:Int) (κ:Out UU→Option S)
theorem T0: ∀n v13 out5,(AV k).lp κ 3 [] n (Jw c0_0 c0_1 c0_2 c0_3 c0_4 c0_5 c0_6 c0_7 c1 v13 out5)=qb k (uB c0_0 c0_1 c0_2 c0_3 c0_4 c0_5 c0_6 c0_7 c1 κ) c0_0 c0_1 c0_2 c0_3 c0_4 c0_5 c0_6 c0_7 c1 n v13 out5:=bR (we k (uB c0_0 c0_1 c0_2 c0_3 c0_4 c0_5 c0_6 c0_7 c1 κ) c0_0 c0_1 c0_2 c0_3 c0_4 c0_5 c0_6 c0_7 c1) rfl (fun _=>rfl) fun r v13 out5=>by kernel_rfl
end
theorem Xj {S:Type} (o:Obj) (ho:ag o) (k:Nat):Tl o 96 (aeq k:Rw S):=aj (AV k) ⟨l_ o ho k,Xh o ho k,trivial⟩ Tryz.func96 (by kernel_rfl) fun c0_0 c0_1 c0_2 c0_3 c0_4 c0_5 c0_6 c0_7 c1 κ x h=>Eq.trans (b:=FO k (uB c0_0 c0_1 c0_2 c0_3 c0_4 c0_5 c0_6 c0_7 c1 κ) (fun v13 out5=>(AV k).lp κ 3 [] k (Jw c0_0 c0_1 c0_2 c0_3 c0_4 c0_5 c0_6 c0_7 c1 v13 out5)) c0_0 c0_1 c0_2 c0_3 c0_4 c0_5 c0_6 c0_7 c1) (by kernel_rfl) (Eq.trans (by simp only [T0];rfl) (am h))
theorem Xi {S:Type} (o:Obj) (ho:ag o) (k:Nat):Tl o 96 (LS k:Rw S):=Qc (Xj o ho k) fun c0_0 c0_1 c0_2 c0_3 c0_4 c0_5 c0_6 c0_7 c1 κ x h=>Eq.trans (b:=aa k (pe k c0_0 c0_1 c0_2 c0_3 c0_4 c0_5 c0_6 c0_7 c1) (uB c0_0 c0_1 c0_2 c0_3 c0_4 c0_5 c0_6 c0_7 c1 (wZ _ κ))) (by kernel_rfl) (Eq.trans (congrArg (aa k (pe k c0_0 c0_1 c0_2 c0_3 c0_4 c0_5 c0_6 c0_7 c1)) (funext fun r=>if_pos rfl)) h)
def LU {S:Type} (k:Nat):Rw S:=ah C1 GA fun kind c1_0 c1_1 c1_2 c1_3 c1_4 c1_5 c1_6 c1_7 κ=>aa k (sX k kind c1_0 c1_1 c1_2 c1_3 c1_4 c1_5 c1_6 c1_7) (ael c1_0 c1_1 c1_2 c1_3 c1_4 c1_5 c1_6 c1_7 κ)
def R0 {S:Type} (k:Nat):Fx S:=fx 15 (fun _=>[]) (fun _=>false) [(58,jk k),(96,LS k)] [] k Tryz.f98 true [] 2
theorem Xk {S:Type} (o:Obj) (ho:ag o) (k:Nat):Tl o 98 (LU k:Rw S):=aj (R0 k) ⟨jO o ho k,Xi o ho k,trivial⟩ Tryz.func98 (by kernel_rfl) fun kind c1_0 c1_1 c1_2 c1_3 c1_4 c1_5 c1_6 c1_7 κ x h=>Eq.trans (by kernel_rfl) (am h)
def LV {S:Type} (k:Nat):Rw S:=ah IM xn fun t a sys κ=>aa k (xa k t a sys) (gn κ)
def AW {S:Type} (k:Nat):Fx S:=fp 76 [(186,lw k),(207,zU k),(208,DX k),(209,uC k),(210,mF k),(211,My k),(212,DT k),(213,zN k)] [(4,⟨[(4,.none),(6,.none),(8,.none),(9,.none),(27,.none),(28,.none),(29,.none)],[(4,[.none,.none,.none,.none,.none,.none]),(6,[.none,.none,.none,some (200387,true),some (200388,true),some (200389,true)]),(9,[.none,.none,.none,some (200579,true),.none,some (200581,true)]),(19000,[.none])]⟩,aS 6 23)] k Tryz.f120 0
def Jx (a:Tm) (r5:Int×Int×ByteArray×List Tm) (sys:List (Br Tm)) (b19000_0:Int) (b9_5:List (Br Tm)) (v29:Int):St UU:=⟨[(4,(pt 4)),(6,(pt 6)),(8,(pt 19000)),(9,(pt 9)),(27,(sB sys)),(28,(.int .i64 (sys.length:Int))),(29,(iI v29))],[(4,bT a),(6,.cells [(iI 0),(iI 0),(.str ByteArray.empty),(.own 200387 0),(.own 200388 0),(.own 200389 0)]),(9,.cells [(iI r5.1),(iI r5.2.1),(.str r5.2.2.1),(.own 200579 0),(sT r5.2.2.2),(.own 200581 0)]),(19000,bI b19000_0)],[(200581,⟨0,ET.B,b9_5⟩),(200579,⟨0,ET.C,([]:List Cl)⟩),(200389,⟨0,ET.B,([]:List (Br Tm))⟩),(200388,⟨0,ET.T,([]:List Tm)⟩),(200387,⟨0,ET.C,([]:List Cl)⟩)],[(200581,.wr),(200579,.wr),(200389,.wr),(200388,.wr),(200387,.wr)]⟩
section
variable {S:Type} (k:Nat) (t a:Tm) (sys:List (Br Tm)) (κ:Out UU→Option S)
theorem T1 (r5): ∀n b19000_0 b9_5 v29,(AW k).lp κ 4 [] n (Jx a r5 sys b19000_0 b9_5 v29)=ig k (gn κ) a r5 sys n b19000_0 b9_5 v29:=gi (oO k (gn κ) a r5 sys) rfl (fun _=>rfl) fun r b19000_0 b9_5 v29=>by kernel_rfl
end
theorem Xl {S:Type} (o:Obj) (ho:ag o) (k:Nat):Tl o 120 (LV k:Rw S):=aj (AW k) ⟨l9 o ho k,Cn o ho k,Hw o ho k,yu o ho k,nB o ho k,XZ o ho k,Hu o ho k,Cg o ho k,trivial⟩ Tryz.func120 (by kernel_rfl) fun t a sys κ x h=>Eq.trans (b:=E9 k (gn κ) (fun r5 b19000_0 b9_5 v29=>(AW k).lp κ 4 [] k (Jx a r5 sys b19000_0 b9_5 v29)) t a sys) (by kernel_rfl) (Eq.trans (by simp only [T1];rfl) (am h))
def D0 {S:Type} (k:Nat):Rw S:=ah IN cr fun t a sys c0 κ=>aa k (sZ k t a sys c0) (gU κ)
def R2 {S:Type} (k:Nat):Fx S:=fp 21 [(93,jo k),(94,jp k),(120,LV k)] [] k Tryz.f62 1
theorem Hz {S:Type} (o:Obj) (ho:ag o) (k:Nat):Tl o 62 (D0 k:Rw S):=aj (R2 k) ⟨jR o ho k,jS o ho k,Xl o ho k,trivial⟩ Tryz.func62 (by kernel_rfl) fun t a sys c0 κ x h=>Eq.trans (by kernel_rfl) (am h)
def LW {S:Type} (k:Nat):Rw S:=ah mh Ay fun t c0_0 c0_1 c0_2 c0_3 c0_4 c0_5 c0_6 c0_7 κ=>aa k (xP k t c0_0 c0_1 c0_2 c0_3 c0_4 c0_5 c0_6 c0_7) (qP c0_1 c0_2 c0_3 c0_4 c0_5 c0_6 c0_7 κ)
def R3 {S:Type} (k:Nat):Fx S:=fx 63 (fun _=>[]) (fun _=>false) [(58,jk k),(62,D0 k),(63,mD k),(98,LU k),(100,Ln k),(101,Lf k),(102,Lw k)] [] k Tryz.f44 true [] 1
theorem Xm {S:Type} (o:Obj) (ho:ag o) (k:Nat):Tl o 44 (LW k:Rw S):=aj (R3 k) ⟨jO o ho k,Hz o ho k,nA o ho k,Xk o ho k,WM o ho k,WE o ho k,WU o ho k,trivial⟩ Tryz.func44 (by kernel_rfl) fun t c0_0 c0_1 c0_2 c0_3 c0_4 c0_5 c0_6 c0_7 κ x h=>Eq.trans (by kernel_rfl) (am h)
def LX {S:Type} (k:Nat):Rw S:=ah mh Ay fun t c0_0 c0_1 c0_2 c0_3 c0_4 c0_5 c0_6 c0_7 κ=>aa k (xM k t c0_0 c0_1 c0_2 c0_3 c0_4 c0_5 c0_6 c0_7) (qP c0_1 c0_2 c0_3 c0_4 c0_5 c0_6 c0_7 κ)
def AX {S:Type} (k:Nat):Fx S:=fx 128 (fun _=>[]) (fun _=>false) [(56,ov k),(58,jk k),(59,lx k),(63,mD k),(73,Lr k),(103,Ls k),(104,Lt k)] [(7,⟨[(0,.none),(3,.none),(4,.none),(5,.none),(6,.none),(9,.none),(10,some (100010,true)),(51,.none),(52,.none),(53,.none)],[(3,[.none,.none,.none,.none,.none,.none]),(4,[.none,.none,.none,some (200259,true),some (200260,true),some (200261,true)]),(5,[.none,.none,.none,.none,.none,.none]),(6,[.none,.none,.none,.none,.none,.none]),(9,[.none,.none,.none,.none,.none,some (200581,true)]),(1000000,[.none,.none,.none,.none,.none,.none,.none,.none])]⟩,aS 9 191)] k Tryz.f45 true [] 1
def Jy (c0_1 c0_2:Int) (c0_3:ByteArray) (c0_4:List Cl) (c0_5:List Tm) (c0_6 c0_7:List (Br Tm)) (t x1 x2:Tm) (r6:Int×Int×ByteArray×List Cl×List Tm) (e0_0:Int) (sys10:List (Br Tm)) (v53:Int):St UU:=⟨[(0,(pt 1000000)),(3,(pt 3)),(4,(pt 4)),(5,(pt 5)),(6,(pt 6)),(9,(pt 9)),(10,(.own 100010 0)),(51,(sB c0_7)),(52,(.int .i64 (c0_7.length:Int))),(53,(iI v53))],[(3,bT t),(4,.cells [(iI 0),(iI 0),(.str ByteArray.empty),(.own 200259 0),(.own 200260 0),(.own 200261 0)]),(5,bT x1),(6,bT x2),(9,.cells [(iI r6.1),(iI r6.2.1),(.str r6.2.2.1),(sC r6.2.2.2.1),(sT r6.2.2.2.2),(.own 200581 0)]),(1000000,.cells [(iI e0_0),(iI c0_1),(iI c0_2),(.str c0_3),(sC c0_4),(sT c0_5),(sB c0_6),(sB c0_7)])],[(200581,⟨0,ET.B,([]:List (Br Tm))⟩),(200261,⟨0,ET.B,([]:List (Br Tm))⟩),(200260,⟨0,ET.T,([]:List Tm)⟩),(200259,⟨0,ET.C,([]:List Cl)⟩),(100010,⟨0,ET.B,sys10⟩)],[(200581,.wr),(200261,.wr),(200260,.wr),(200259,.wr),(100010,.wr)]⟩
section
variable {S:Type} (k:Nat) (t:Tm) (c0_0 c0_1 c0_2:Int) (c0_3:ByteArray) (c0_4:List Cl) (c0_5:List Tm) (c0_6 c0_7:List (Br Tm)) (κ:Out UU→Option S)
theorem T2 (x1 x2 r6): ∀n e0_0 sys10 v53,(AX k).lp κ 7 [] n (Jy c0_1 c0_2 c0_3 c0_4 c0_5 c0_6 c0_7 t x1 x2 r6 e0_0 sys10 v53)=p7 k (qP c0_1 c0_2 c0_3 c0_4 c0_5 c0_6 c0_7 κ) c0_1 c0_2 c0_3 c0_4 c0_5 c0_6 c0_7 t x1 x2 r6 n e0_0 sys10 v53:=gi (v_ k (qP c0_1 c0_2 c0_3 c0_4 c0_5 c0_6 c0_7 κ) c0_1 c0_2 c0_3 c0_4 c0_5 c0_6 c0_7 t x1 x2 r6) rfl (fun _=>rfl) fun r e0_0 sys10 v53=>by kernel_rfl
end
theorem Xn {S:Type} (o:Obj) (ho:ag o) (k:Nat):Tl o 45 (LX k:Rw S):=aj (AX k) ⟨pu o ho k,jO o ho k,l_ o ho k,nA o ho k,WP o ho k,WQ o ho k,WR o ho k,trivial⟩ Tryz.func45 (by kernel_rfl) fun t c0_0 c0_1 c0_2 c0_3 c0_4 c0_5 c0_6 c0_7 κ x h=>Eq.trans (b:=FK k (qP c0_1 c0_2 c0_3 c0_4 c0_5 c0_6 c0_7 κ) (fun x1 x2 r6 e0_0 sys10 v53=>(AX k).lp κ 7 [] k (Jy c0_1 c0_2 c0_3 c0_4 c0_5 c0_6 c0_7 t x1 x2 r6 e0_0 sys10 v53)) t c0_0 c0_1 c0_2 c0_3 c0_4 c0_5 c0_6 c0_7) (by kernel_rfl) (Eq.trans (by simp only [T2];rfl) (am h))
def LY {S:Type} (k:Nat):Rw S:=ah mh cr fun t c0 κ=>aa k (sJ k t c0) (KV κ)
def R4 {S:Type} (k:Nat):Fx S:=fx 20 (fun _=>[]) (fun _=>false) [(186,lw k),(187,qS k),(209,uC k)] [] k Tryz.f261 true [] 1
theorem Xo {S:Type} (o:Obj) (ho:ag o) (k:Nat):Tl o 261 (LY k:Rw S):=aj (R4 k) ⟨l9 o ho k,tp o ho k,yu o ho k,trivial⟩ Tryz.func261 (by kernel_rfl) fun t c0 κ x h=>Eq.trans (by kernel_rfl) (am h)
def LZ {S:Type} (k:Nat):Rw S:=ah CT xn fun t a κ=>aa k (w_ k t a) (gn κ)
def R5 {S:Type} (k:Nat):Fx S:=fp 47 [(41,mE (du k)),(186,lw k),(187,qS k),(207,zU k),(209,uC k),(213,zN k),(261,LY k),(262,LD k)] [] k Tryz.f184 0
theorem Xp {S:Type} (o:Obj) (ho:ag o) (k:Nat):Tl o 184 (LZ k:Rw S):=aj (R5 k) ⟨pG o ho k,l9 o ho k,tp o ho k,Cn o ho k,yu o ho k,Cg o ho k,Xo o ho k,W5 o ho k,trivial⟩ Tryz.func184 (by kernel_rfl) fun t a κ x h=>Eq.trans (by kernel_rfl) (am h)
def L0 {S:Type} (k:Nat):Rw S:=ah IL cr fun t a c0 κ=>aa k (yd k t a c0) (gU κ)
def R6 {S:Type} (k:Nat):Fx S:=fp 18 [(93,jo k),(94,jp k),(184,LZ k)] [] k Tryz.f106 1
theorem Xq {S:Type} (o:Obj) (ho:ag o) (k:Nat):Tl o 106 (L0 k:Rw S):=aj (R6 k) ⟨jR o ho k,jS o ho k,Xp o ho k,trivial⟩ Tryz.func106 (by kernel_rfl) fun t a c0 κ x h=>Eq.trans (by kernel_rfl) (am h)
def L3 {S:Type} (k:Nat):Rw S:=ah jW xn fun a_r κ=>aa k (BM k a_r) (aem κ)
def R7 {S:Type} (k:Nat):Fx S:=fx 13 (fun _=>[]) (fun _=>false) [(186,lw k),(187,qS k)] [] k Tryz.f185 true [] 0
theorem Xr {S:Type} (o:Obj) (ho:ag o) (k:Nat):Tl o 185 (L3 k:Rw S):=aj (R7 k) ⟨l9 o ho k,tp o ho k,trivial⟩ Tryz.func185 (by kernel_rfl) fun a_r κ x h=>Eq.trans (by kernel_rfl) (am h)
def L4 {S:Type} (k:Nat):Rw S:=ah cn xn fun κ=>aa k (xb k) (ux κ)
def R8 {S:Type} (k:Nat):Fx S:=fx 37 (fun _=>[]) (fun _=>false) [(185,L3 k),(186,lw k),(187,qS k)] [] k Tryz.f107 true [] 0
theorem Xs {S:Type} (o:Obj) (ho:ag o) (k:Nat):Tl o 107 (L4 k:Rw S):=aj (R8 k) ⟨Xr o ho k,l9 o ho k,tp o ho k,trivial⟩ Tryz.func107 (by kernel_rfl) fun κ x h=>Eq.trans (by kernel_rfl) (am h)
def L5 {S:Type} (k:Nat):Rw S:=ah CV GA fun u c1_0 c1_1 c1_2 c1_3 c1_4 c1_5 c1_6 c1_7 κ=>aa k (B4 k u c1_0 c1_1 c1_2 c1_3 c1_4 c1_5 c1_6 c1_7) (KX c1_1 c1_2 c1_3 c1_4 c1_5 c1_6 c1_7 κ)
def R9 {S:Type} (k:Nat):Fx S:=fp 30 [(56,ov k),(58,jk k),(67,Lx k),(106,L0 k),(107,L4 k)] [] k Tryz.f105 2
theorem Xt {S:Type} (o:Obj) (ho:ag o) (k:Nat):Tl o 105 (L5 k:Rw S):=aj (R9 k) ⟨pu o ho k,jO o ho k,WV o ho k,Xq o ho k,Xs o ho k,trivial⟩ Tryz.func105 (by kernel_rfl) fun u c1_0 c1_1 c1_2 c1_3 c1_4 c1_5 c1_6 c1_7 κ x h=>Eq.trans (by kernel_rfl) (am h)
def aer {S:Type} (k:Nat):Rw S:=ah Iw Ax fun c0_0 c0_1 c0_2 c0_3 c0_4 c0_5 c0_6 c0_7 κ=>aa k (pd k c0_0 c0_1 c0_2 c0_3 c0_4 c0_5 c0_6 c0_7) (kc c0_1 c0_2 c0_3 c0_4 c0_5 c0_6 c0_7 κ)
def L6 {S:Type} (k:Nat):Rw S:=ah Iw Ax fun c0_0 c0_1 c0_2 c0_3 c0_4 c0_5 c0_6 c0_7 κ=>aa k (pd k c0_0 c0_1 c0_2 c0_3 c0_4 c0_5 c0_6 c0_7) (KY κ)
def AZ {S:Type} (k:Nat):Fx S:=fp 31 [(59,lx k),(105,L5 k)] [(3,⟨[(1,.none),(5,some (100005,true)),(11,.none),(12,.none),(13,.none)],[(1000000,[.none,.none,.none,.none,.none,.none,.none,.none]),(1000001,[.none])]⟩,aS 5 11)] k Tryz.f96 2
def Jz (c0_1 c0_2:Int) (c0_3:ByteArray) (c0_4:List Cl) (c0_5:List Tm) (c0_6 c0_7:List (Br Tm)) (e0_0 v13:Int) (out5:List (Br Tm)):St UU:=⟨[(1,(.func 105 [] [(pt 1000001)])),(5,(.own 100005 0)),(11,(sB c0_7)),(12,(.int .i64 (c0_7.length:Int))),(13,(iI v13))],[(1000000,.cells [(iI e0_0),(iI c0_1),(iI c0_2),(.str c0_3),(sC c0_4),(sT c0_5),(sB c0_6),(sB c0_7)]),(1000001,.cells [(pt 1000000)])],[(100005,⟨0,ET.B,out5⟩)],[(100005,.wr)]⟩
section
variable {S:Type} (k:Nat) (c0_0 c0_1 c0_2:Int) (c0_3:ByteArray) (c0_4:List Cl) (c0_5:List Tm) (c0_6 c0_7:List (Br Tm)) (κ:Out UU→Option S)
theorem T3: ∀n e0_0 v13 out5,(AZ k).lp κ 3 [] n (Jz c0_1 c0_2 c0_3 c0_4 c0_5 c0_6 c0_7 e0_0 v13 out5)=p_ k (kc c0_1 c0_2 c0_3 c0_4 c0_5 c0_6 c0_7 κ) c0_1 c0_2 c0_3 c0_4 c0_5 c0_6 c0_7 n e0_0 v13 out5:=gi (wc k (kc c0_1 c0_2 c0_3 c0_4 c0_5 c0_6 c0_7 κ) c0_1 c0_2 c0_3 c0_4 c0_5 c0_6 c0_7) rfl (fun _=>rfl) fun r e0_0 v13 out5=>by kernel_rfl
end
theorem Xv {S:Type} (o:Obj) (ho:ag o) (k:Nat):Tl o 96 (aer k:Rw S):=aj (AZ k) ⟨l_ o ho k,Xt o ho k,trivial⟩ Tryz.func96 (by kernel_rfl) fun c0_0 c0_1 c0_2 c0_3 c0_4 c0_5 c0_6 c0_7 κ x h=>Eq.trans (b:=FM k (kc c0_1 c0_2 c0_3 c0_4 c0_5 c0_6 c0_7 κ) (fun e0_0 v13 out5=>(AZ k).lp κ 3 [] k (Jz c0_1 c0_2 c0_3 c0_4 c0_5 c0_6 c0_7 e0_0 v13 out5)) c0_0 c0_1 c0_2 c0_3 c0_4 c0_5 c0_6 c0_7) (by kernel_rfl) (Eq.trans (by simp only [T3];rfl) (am h))
theorem Xu {S:Type} (o:Obj) (ho:ag o) (k:Nat):Tl o 96 (L6 k:Rw S):=Qb (n:=0) (m:=1) (Xv o ho k) fun c0_0 c0_1 c0_2 c0_3 c0_4 c0_5 c0_6 c0_7 κ x h=>Eq.trans (b:=aa k (pd k c0_0 c0_1 c0_2 c0_3 c0_4 c0_5 c0_6 c0_7) (kc c0_1 c0_2 c0_3 c0_4 c0_5 c0_6 c0_7 (w7 0 1 [.cells [(iI c0_0),(iI c0_1),(iI c0_2),(.str c0_3),(sC c0_4),(sT c0_5),(sB c0_6),(sB c0_7)],.cells [(pt 0)]] κ))) (by kernel_rfl) (Eq.trans (congrArg (aa k (pd k c0_0 c0_1 c0_2 c0_3 c0_4 c0_5 c0_6 c0_7)) (funext fun r=>if_pos ⟨rfl,rfl⟩)) h)
def L7 {S:Type} (k:Nat):Rw S:=ah yV Ay fun c0_0 c0_1 c0_2 c0_3 c0_4 c0_5 c0_6 c0_7 κ=>aa k (xQ k c0_0 c0_1 c0_2 c0_3 c0_4 c0_5 c0_6 c0_7) (aen c0_1 c0_2 c0_3 c0_4 c0_5 c0_6 c0_7 κ)
def R_ {S:Type} (k:Nat):Fx S:=fx 12 (fun _=>[]) (fun _=>false) [(63,mD k),(96,L6 k)] [] k Tryz.f46 true [] 1
theorem Xw {S:Type} (o:Obj) (ho:ag o) (k:Nat):Tl o 46 (L7 k:Rw S):=aj (R_ k) ⟨nA o ho k,Xu o ho k,trivial⟩ Tryz.func46 (by kernel_rfl) fun c0_0 c0_1 c0_2 c0_3 c0_4 c0_5 c0_6 c0_7 κ x h=>Eq.trans (by kernel_rfl) (am h)
def L8 {S:Type} (k:Nat):Rw S:=ah It QP fun a_x c1 c2 κ=>aa k (xJ k a_x c1 c2) (aeo c1 κ)
def Sa {S:Type} (k:Nat):Fx S:=fp 22 [(56,ov k),(57,DY k),(58,jk k),(59,lx k)] [] k Tryz.f55 3
theorem Xx {S:Type} (o:Obj) (ho:ag o) (k:Nat):Tl o 55 (L8 k:Rw S):=aj (Sa k) ⟨pu o ho k,Hx o ho k,jO o ho k,l_ o ho k,trivial⟩ Tryz.func55 (by kernel_rfl) fun a_x c1 c2 κ x h=>Eq.trans (by kernel_rfl) (am h)
def L9 {S:Type} (k:Nat):Rw S:=ah ZK QP fun l c1 c2 κ=>aa k (Hf k l c1 c2) (zu c1 κ)
def A0 {S:Type} (k:Nat):Fx S:=fx 22 (fun _=>[]) (fun _=>false) [(55,L8 k)] [(3,⟨[(1,.none),(5,some (100005,true)),(8,.none),(9,.none),(10,.none)],[(1000000,[.none]),(1000001,[.none]),(1000002,[.none])]⟩,aS 5 11)] k Tryz.f54 false [true] 3
def JA (c1 l:List (Br Tm)) (e2_0 v10:Int) (out5:List (Br Tm)):St UU:=⟨[(1,(.func 55 [] [(pt 1000000),(pt 1000001)])),(5,(.own 100005 0)),(8,(sB l)),(9,(.int .i64 (l.length:Int))),(10,(iI v10))],[(1000000,.cells [(pt 1000002)]),(1000001,.cells [(sB c1)]),(1000002,bI e2_0)],[(100005,⟨0,ET.B,out5⟩)],[(100005,.wr)]⟩
section
variable {S:Type} (k:Nat) (l c1:List (Br Tm)) (c2:Int) (κ:Out UU→Option S)
theorem T4: ∀n e2_0 v10 out5,(A0 k).lp κ 3 [] n (JA c1 l e2_0 v10 out5)=pY k (zu c1 κ) c1 l n e2_0 v10 out5:=gi (vZ k (zu c1 κ) c1 l) rfl (fun _=>rfl) fun r e2_0 v10 out5=>by kernel_rfl
end
theorem Xy {S:Type} (o:Obj) (ho:ag o) (k:Nat):Tl o 54 (L9 k:Rw S):=aj (A0 k) ⟨Xx o ho k,trivial⟩ Tryz.func54 (by kernel_rfl) fun l c1 c2 κ x h=>Eq.trans (b:=Pc k (zu c1 κ) (fun e2_0 v10 out5=>(A0 k).lp κ 3 [] k (JA c1 l e2_0 v10 out5)) l c1 c2) (by kernel_rfl) (Eq.trans (by simp only [T4];rfl) (am h))
def L_ {S:Type} (k:Nat):Rw S:=ah ZL GB fun a_x c1 c2 c3 κ=>aa k (xK k a_x c1 c2 c3) (adU c1 c2 κ)
def Sb {S:Type} (k:Nat):Fx S:=fp 30 [(56,ov k),(58,jk k),(59,lx k),(61,LC k),(62,D0 k)] [] k Tryz.f60 4
theorem Xz {S:Type} (o:Obj) (ho:ag o) (k:Nat):Tl o 60 (L_ k:Rw S):=aj (Sb k) ⟨pu o ho k,jO o ho k,l_ o ho k,W4 o ho k,Hz o ho k,trivial⟩ Tryz.func60 (by kernel_rfl) fun a_x c1 c2 c3 κ x h=>Eq.trans (by kernel_rfl) (am h)
def Ma {S:Type} (k:Nat):Rw S:=ah Ix GB fun l c1 c2 c3 κ=>aa k (BZ k l c1 c2 c3) (zw c1 c2 κ)
def A1 {S:Type} (k:Nat):Fx S:=fx 22 (fun _=>[]) (fun _=>false) [(60,L_ k)] [(3,⟨[(1,.none),(5,some (100005,true)),(8,.none),(9,.none),(10,.none)],[(1000000,[.none]),(1000001,[.none,.none,.none,.none,.none,.none]),(1000002,[.none,.none,.none,.none,.none,.none]),(1000003,[.none])]⟩,aS 5 11)] k Tryz.f54 false [true] 4
def JB (c1 c2:Tm) (l:List (Br Tm)) (e3_0 v10:Int) (out5:List (Br Tm)):St UU:=⟨[(1,(.func 60 [] [(pt 1000000),(pt 1000001),(pt 1000002)])),(5,(.own 100005 0)),(8,(sB l)),(9,(.int .i64 (l.length:Int))),(10,(iI v10))],[(1000000,.cells [(pt 1000003)]),(1000001,bT c1),(1000002,bT c2),(1000003,bI e3_0)],[(100005,⟨0,ET.B,out5⟩)],[(100005,.wr)]⟩
section
variable {S:Type} (k:Nat) (l:List (Br Tm)) (c1 c2:Tm) (c3:Int) (κ:Out UU→Option S)
theorem T5: ∀n e3_0 v10 out5,(A1 k).lp κ 3 [] n (JB c1 c2 l e3_0 v10 out5)=pX k (zw c1 c2 κ) c1 c2 l n e3_0 v10 out5:=gi (vY k (zw c1 c2 κ) c1 c2 l) rfl (fun _=>rfl) fun r e3_0 v10 out5=>by kernel_rfl
end
theorem XA {S:Type} (o:Obj) (ho:ag o) (k:Nat):Tl o 54 (Ma k:Rw S):=aj (A1 k) ⟨Xz o ho k,trivial⟩ Tryz.func54 (by kernel_rfl) fun l c1 c2 c3 κ x h=>Eq.trans (b:=Pb k (zw c1 c2 κ) (fun e3_0 v10 out5=>(A1 k).lp κ 3 [] k (JB c1 c2 l e3_0 v10 out5)) l c1 c2 c3) (by kernel_rfl) (Eq.trans (by simp only [T5];rfl) (am h))
def Mb {S:Type} (k:Nat):Rw S:=ah It GC fun a_x c0 c1 κ=>aa k (BY k a_x c0 c1) (adV c0 c1 κ)
def Sc {S:Type} (k:Nat):Fx S:=fp 18 [(59,lx k),(63,mD k)] [] k Tryz.f64 2
theorem XB {S:Type} (o:Obj) (ho:ag o) (k:Nat):Tl o 64 (Mb k:Rw S):=aj (Sc k) ⟨l_ o ho k,nA o ho k,trivial⟩ Tryz.func64 (by kernel_rfl) fun a_x c0 c1 κ x h=>Eq.trans (by kernel_rfl) (am h)
def Mc {S:Type} (k:Nat):Rw S:=ah Iy GC fun l c0 c1 κ=>aa k (sW k l c0 c1) (zx c0 c1 κ)
def A2 {S:Type} (k:Nat):Fx S:=fx 22 (fun _=>[]) (fun _=>false) [(64,Mb k)] [(3,⟨[(1,.none),(5,some (100005,true)),(8,.none),(9,.none),(10,.none)],[(1000000,[.none,.none,.none,.none,.none,.none]),(1000001,[.none,.none,.none,.none,.none,.none])]⟩,aS 5 11)] k Tryz.f54 false [true] 2
def JC (c0 c1:Tm) (l:List (Br Tm)) (v10:Int) (out5:List (Br Tm)):St UU:=⟨[(1,(.func 64 [] [(pt 1000000),(pt 1000001)])),(5,(.own 100005 0)),(8,(sB l)),(9,(.int .i64 (l.length:Int))),(10,(iI v10))],[(1000000,bT c0),(1000001,bT c1)],[(100005,⟨0,ET.B,out5⟩)],[(100005,.wr)]⟩
section
variable {S:Type} (k:Nat) (l:List (Br Tm)) (c0 c1:Tm) (κ:Out UU→Option S)
theorem T6: ∀n v10 out5,(A2 k).lp κ 3 [] n (JC c0 c1 l v10 out5)=pW k (zx c0 c1 κ) c0 c1 l n v10 out5:=bR (vX k (zx c0 c1 κ) c0 c1 l) rfl (fun _=>rfl) fun r v10 out5=>by kernel_rfl
end
theorem XC {S:Type} (o:Obj) (ho:ag o) (k:Nat):Tl o 54 (Mc k:Rw S):=aj (A2 k) ⟨XB o ho k,trivial⟩ Tryz.func54 (by kernel_rfl) fun l c0 c1 κ x h=>Eq.trans (b:=FH k (zx c0 c1 κ) (fun v10 out5=>(A2 k).lp κ 3 [] k (JC c0 c1 l v10 out5)) l c0 c1) (by kernel_rfl) (Eq.trans (by simp only [T6];rfl) (am h))
def Md {S:Type} (k:Nat):Rw S:=ah ie xn fun t κ=>aa k (xH k t) (KT κ)
def Sd {S:Type} (k:Nat):Fx S:=fp 79 [(40,jm k),(41,mE (du k)),(42,D8 k),(53,LA k),(54,lq (nD Iy GC) (Mc k) (lq (nD Ix GB) (Ma k) (L9 k))),(57,DY k),(63,mD k)] [] k Tryz.f24 0
theorem XD {S:Type} (o:Obj) (ho:ag o) (k:Nat):Tl o 24 (Md k:Rw S):=aj (Sd k) ⟨jQ o ho k,pG o ho k,HD o ho k,WY o ho k,ol (XC o ho k) (ol (XA o ho k) (Xy o ho k)),Hx o ho k,nA o ho k,trivial⟩ Tryz.func24 (by kernel_rfl) fun t κ x h=>Eq.trans (by kernel_rfl) (am h)
def D4 {S:Type} (k:Nat):Rw S:=ah ie xn fun t κ=>aa k (nx k t) (KT κ)
def Se {S:Type} (k:Nat):Fx S:=fp 89 [(24,Md k),(40,jm k),(41,mE (du k)),(42,D8 k),(43,LQ k),(44,LW k),(45,LX k),(46,L7 k)] [] k Tryz.f17 0
theorem HA {S:Type} (o:Obj) (ho:ag o) (k:Nat):Tl o 17 (D4 k:Rw S):=aj (Se k) ⟨XD o ho k,jQ o ho k,pG o ho k,HD o ho k,Xg o ho k,Xm o ho k,Xn o ho k,Xw o ho k,trivial⟩ Tryz.func17 (by kernel_rfl) fun t κ x h=>Eq.trans (by kernel_rfl) (am h)
def Mf {S:Type} (k:Nat):Rw S:=ah cn xn fun κ=>aa k (xU k) (bw κ)
def Sg {S:Type} (k:Nat):Fx S:=fp 84 [(14,uF (cZ k)),(17,D4 k),(39,LN k)] [] k Tryz.f16 0
theorem XF {S:Type} (o:Obj) (ho:ag o) (k:Nat):Tl o 16 (Mf k:Rw S):=aj (Sg k) ⟨CH o ho k,HA o ho k,Xc o ho k,trivial⟩ Tryz.func16 (by kernel_rfl) fun κ x h=>Eq.trans (by kernel_rfl) (am h)
section
variable {S:Type} (k:Nat) (kind:Int) (kids:List Tm) (κ:Out UU→Option S)
end
section
variable {S:Type} (k:Nat) (a_k a:Tm) (sys:List (Br Tm)) (κ:Out UU→Option S)
end
section
variable {S:Type} (k:Nat) (kind:Int) (sys:List (Br Tm)) (κ:Out UU→Option S)
end
section
variable {S:Type} (k:Nat) (kind:Int) (l:List (Br Tm)) (κ:Out UU→Option S)
end
section
variable {S:Type} (k:Nat) (l:List Tm) (κ:Out UU→Option S)
end
end
end Go.Proofs.YtgajalidbabccaaGreatDoor
namespace Go.Proofs.YtgajalidbabccaaGreatDoor
open Go PI
set_option linter.unusedVariables false
set_option maxRecDepth 100000
noncomputable section
section
variable {S:Type} (k:Nat) (t a:Tm) (sys:List (Br Tm)) (κ:Out UU→Option S)
end
section
variable {S:Type} (hd:Tj S) (k:Nat) (t:Tm) (a_n:Int) (κ:Out UU→Option S)
end
section
variable {S:Type} (k:Nat) (t:Tm) (a_from a_by:Int) (κ:Out UU→Option S)
end
section
variable {S:Type} (k:Nat) (t:Tm) (vars dims:Int) (κ:Out UU→Option S)
end
section
variable {S:Type} (hd:Tk S) (k:Nat) (t:Tm) (a_n:Int) (u:Tm) (vars dims:Int) (κ:Out UU→Option S)
end
section
variable {S:Type} (k:Nat) (line a:Tm) (sys:List (Br Tm)) (κ:Out UU→Option S)
end
section
variable {S:Type} (k:Nat) (a_k a:Tm) (sys:List (Br Tm)) (κ:Out UU→Option S)
end
section
variable {S:Type} (k:Nat) (kind:Int) (kids:List Tm) (κ:Out UU→Option S)
end
section
variable {S:Type} (k:Nat) (a:Tm) (sys:List (Br Tm)) (κ:Out UU→Option S)
end
section
variable {S:Type} (k:Nat) (g:Tm) (κ:Out UU→Option S)
end
end
end Go.Proofs.YtgajalidbabccaaGreatDoor
namespace Go.Proofs.YtgajalidbabccaaGreatDoor
open Go PI
set_option linter.unusedVariables false
set_option maxRecDepth 100000
noncomputable section
section
variable {S:Type} (k:Nat) (t:Tm) (κ:Out UU→Option S)
end
def D7 {S:Type} (hd:iD S):Rw S:=ah ie xn fun t κ=>hd t (bk κ)
def m8 {S:Type} (hd:iD S) (k:Nat):Fx S:=fp 56 [(19,D7 hd),(49,jl k)] [(3,bW [1,3,13,14,15] [(1,6)],aS 5 11),(9,bW [3,35,36,37] [],aS 6 23),(12,bW [3,35,36,37,42,43,44] [],aS 14 6551)] k Tryz.f19 0
def Dq (t:Tm) (v15 sum3:Int):St UU:=⟨[(1,(pt 1)),(3,(iI sum3)),(13,(sT t.kids)),(14,(.int .i64 (t.kids.length:Int))),(15,(iI v15))],[(1,bT t)],[],[]⟩
def tX (t:Tm) (sum3' v37:Int):St UU:=⟨[(3,(iI sum3')),(35,(sB t.sys)),(36,(.int .i64 (t.sys.length:Int))),(37,(iI v37))],[],[],[]⟩
def JF (t:Tm) (v37:Int) (x4:(Br Tm)) (sum3'' v44:Int):St UU:=⟨[(3,(iI sum3'')),(35,(sB t.sys)),(36,(.int .i64 (t.sys.length:Int))),(37,(iI v37)),(42,(sT x4.kids)),(43,(.int .i64 (x4.kids.length:Int))),(44,(iI v44))],[],[],[]⟩
section
variable {S:Type} (hd:iD S) (k:Nat) (t:Tm) (κ:Out UU→Option S)
theorem Ua (v37 x4 κ1): ∀n sum3'' v44,(m8 hd k).lp κ 12 [κ1] n (JF t v37 x4 sum3'' v44)=nN hd k (bk κ) (fun sum3' v37=>κ1 (tX t sum3' v37)) t v37 x4 n sum3'' v44:=bR (wg hd k (bk κ) t v37 x4 (fun sum3' v37=>κ1 (tX t sum3' v37))) rfl (fun _=>rfl) fun r sum3'' v44=>by kernel_rfl
theorem T_: ∀n sum3' v37,(m8 hd k).lp κ 9 [] n (tX t sum3' v37)=la hd k (bk κ) t n sum3' v37:=bR (fun own=>rN hd k (bk κ) t (fun v37 x4 sum3'' v44=>nN hd k (bk κ) own t v37 x4 k sum3'' v44) own) rfl (fun _=>rfl) fun r sum3' v37=>Eq.trans (b:=rN hd k (bk κ) t (fun v37 x4 sum3'' v44=>(m8 hd k).lp κ 12 [r] k (JF t v37 x4 sum3'' v44)) (fun sum3' v37=>r (tX t sum3' v37)) sum3' v37) (by kernel_rfl) (by simp only [Ua])
theorem T9: ∀n v15 sum3,(m8 hd k).lp κ 3 [] n (Dq t v15 sum3)=qc hd k (bk κ) t n v15 sum3:=bR (fun own=>rM hd k (bk κ) t (fun sum3' v37=>la hd k (bk κ) t k sum3' v37) own) rfl (fun _=>rfl) fun r v15 sum3=>Eq.trans (b:=rM hd k (bk κ) t (fun sum3' v37=>(m8 hd k).lp κ 9 [] k (tX t sum3' v37)) (fun v15 sum3=>r (Dq t v15 sum3)) v15 sum3) (by kernel_rfl) (by simp only [T_])
end
theorem Ik {S:Type} (o:Obj) (ho:ag o): ∀k:Nat,Tl o 19 (D7 (g_ k:iD S))
 |0=>gy fun t κ x h=>by cases h
 |k+1=>aj (m8 (g_ k) k) ⟨Ik o ho k,jP o ho k,trivial⟩ Tryz.func19 (by kernel_rfl) fun t κ x h=>Eq.trans (b:=FP (g_ k) k (bk κ) (fun v15 sum3=>(m8 (g_ k) k).lp κ 3 [] k (Dq t v15 sum3)) t) (by kernel_rfl) (Eq.trans (by simp only [T9];rfl) h)
def Mi {S:Type} (k:Nat):Rw S:=ah pI xn fun t vars dims κ=>aa k (tb k t vars dims) (bk κ)
def Sl {S:Type} (k:Nat):Fx S:=fp 28 [(50,DP k),(51,qT (gc k))] [] k Tryz.f20 0
theorem XI {S:Type} (o:Obj) (ho:ag o) (k:Nat):Tl o 20 (Mi k:Rw S):=aj (Sl k) ⟨Hq o ho k,CI o ho k,trivial⟩ Tryz.func20 (by kernel_rfl) fun t vars dims κ x h=>Eq.trans (by kernel_rfl) (am h)
def Mj {S:Type} (k:Nat):Rw S:=ah CT xn fun a b κ=>aa k (lR k a b) (bw κ)
def A4 {S:Type} (k:Nat):Fx S:=fp 34 [(30,DZ k)] [(4,bW [2,3,15,16] [(2,6),(3,6)],aS 5 11)] k Tryz.f21 0
def JG (a b:Tm) (v16:Int):St UU:=⟨[(2,(pt 2)),(3,(pt 3)),(15,(.int .i64 (a.sys.length:Int))),(16,(iI v16))],[(2,bT a),(3,bT b)],[],[]⟩
section
variable {S:Type} (k:Nat) (a b:Tm) (κ:Out UU→Option S)
theorem Ub: ∀n v16,(A4 k).lp κ 4 [] n (JG a b v16)=qe k (bw κ) a b n v16:=eP (wi k (bw κ) a b) rfl (fun _=>rfl) fun r v16=>by kernel_rfl
end
theorem XJ {S:Type} (o:Obj) (ho:ag o) (k:Nat):Tl o 21 (Mj k:Rw S):=aj (A4 k) ⟨Hy o ho k,trivial⟩ Tryz.func21 (by kernel_rfl) fun a b κ x h=>Eq.trans (b:=FQ k (bw κ) (fun v16=>(A4 k).lp κ 4 [] k (JG a b v16)) a b) (by kernel_rfl) (Eq.trans (by simp only [Ub];rfl) (am h))
def zR {S:Type} (k:Nat):Rw S:=ah pI xn fun t vars many κ=>aa k (xR k t vars many) (bw κ)
def Sn {S:Type} (k:Nat):Fx S:=fp 180 [(14,uF (cZ k)),(15,LM k),(16,Mf k),(17,D4 k),(19,D7 (g_ k)),(20,Mi k),(21,Mj k)] [] k Tryz.f5 0
theorem XL {S:Type} (o:Obj) (ho:ag o) (k:Nat):Tl o 5 (zR k:Rw S):=aj (Sn k) ⟨CH o ho k,Xb o ho k,XF o ho k,HA o ho k,Ik o ho k,XI o ho k,XJ o ho k,trivial⟩ Tryz.func5 (by kernel_rfl) fun t vars many κ x h=>Eq.trans (by kernel_rfl) (am h)
section
variable {S:Type} (hd:Tc S) (k:Nat) (t:Tm) (κ:Out UU→Option S)
end
section
variable {S:Type} (k:Nat) (t:Tm) (vars many:Int) (κ:Out UU→Option S)
end
section
variable {S:Type} (hd:Td S) (k:Nat) (t:Tm) (κ:Out UU→Option S)
end
theorem ag3 {S:Type} (o:Obj) (ho:ag o) (k:Nat):Tl o 5 (zR k:Rw S):=XL o ho k
end
end Go.Proofs.YtgajalidbabccaaGreatDoor
namespace Go.Proofs.YtgajalidbabccaaGreatDoor
open Go PI
set_option linter.unusedVariables false
set_option linter.unusedSimpArgs false
variable {S:Type} {k:Nat}
def bE {α β:Type} (x:Except Int α) (f:α→Except Int β):Except Int β:=match x with
 | .error e=> .error e
 | .ok a=>f a
theorem aN {α β:Type} (a:α) (f:α→Except Int β):bE (.ok a) f=f a:=rfl
theorem d7 {α β:Type} (e:Int) (f:α→Except Int β):bE (.error e) f= .error e:=rfl
theorem ae {α β:Type} {x:Except Int α} {f:α→Except Int β} {b:β} (h:bE x f= .ok b): ∃a,x= .ok a∧f a= .ok b:=by
 cases x with
 |error e=>cases h
 |ok a=>exact ⟨a,rfl,h⟩
theorem aW {α β:Type} {x:Except Int α} {f:α→Except Int β} {e:Int} (h:bE x f= .error e):x= .error e∨ ∃a,x= .ok a∧f a= .error e:=by
 cases x with
 |error e=>injection h with h;grind
 |ok a=>exact .inr ⟨a,rfl,h⟩
def d5 (x:List Cl×Int):Except Int (List Cl):=if x.2=0 then .ok x.1 else .error x.2
theorem rq {x:List Cl×Int} (h:x.2=0):d5 x= .ok x.1:=if_pos h
theorem vg {x:List Cl×Int} (h:x.2≠0):d5 x= .error x.2:=if_neg h
theorem iz {x:List Cl×Int} {l:List Cl} (h:d5 x= .ok l):x.2=0∧x.1=l:=by
 grind [d5]
theorem Ap {x:List Cl×Int} {e:Int} (h:d5 x= .error e):x.2≠0∧x.2=e:=by
 grind [d5]
def EN (e:Int):Prop:=0≤e∧e≤1000
theorem tq:EN 0:=by unfold EN;omega
theorem mb:EN 2:=by unfold EN;omega
theorem Yt:EN 3:=by unfold EN;omega
theorem Ys:EN 10:=by unfold EN;omega
theorem qz (l:List Cl):EN (bX l).2:=by
 grind [bX,Yt,tq,mb]
theorem yM {step:List Cl→Cl→List Cl×Int} (hs: ∀h c,EN (step h c).2): ∀ {r h:List Cl},EN (ci step h r).2:=by
 intro r
 induction r<;>grind [tq,ci]
theorem ab2 (s i b:Int):EN (c7 s i b).2:=by
 grind [c7,mb,gQ,tq,Ys]
theorem abR (c:Cl) (i b:Int):EN (dY c i b).2:=by
 grind [dY,ab2,mb]
theorem tL (f:List Cl) (i b:Int):EN (bA f i b).2:=by
 unfold bA
 split
 ·split
  ·exact qz _
  ·exact yM fun h c=>abR c i b
 ·exact mb
theorem Qj {n b x y:Nat} (h:fG n b x=fG n b y):x=y:=by
 grind [fG]
theorem ahf (n b:Nat) {l:List Nat} (h:l.Nodup):(l.map (fG n b)).Nodup:=
 List.Pairwise.map (S:=fun a b=>a≠b) (R:=fun a b=>a≠b) _ (fun x y hxy h=>hxy (Qj h)) h
theorem ab0 {m n b:Nat} (h:(gQ m n b).2=0) (j:Nat):(gQ m n b).1.testBit j=true↔ ∃x,x<24∧m.testBit x=true∧fG n b x=j:=by
 rw [IX] at h ⊢
 split<;>grind [E0,ahf,Bu,mem_bitsN]
theorem UZ {m:Nat} (h:m<16777216):m&&&M24=m:=by
 apply Nat.eq_of_testBit_eq
 grind [lL,nh]
theorem YP {i b:Int}: ∀ {r h:List Cl},(ci (eY i b) h r).2=0→(∀c∈r,(dY c i b).2=0)∧(ci (eY i b) h r).1=h++r.map fun c=>(dY c i b).1:=by
 intro r
 induction r<;>grind [ci,eY]
theorem abV {f:List Cl} {i b:Int} (h:(bA f i b).2=0): ∀c∈(bA f i b).1,∃d∈f,(dY d i b).2=0∧c=(dY d i b).1:=by
 grind [bA,YP,bX,mem_mins]
theorem VN {c:Cl}:dc c=false↔ ∀j,¬ (c.pos.toNat.testBit j=true∧c.neg.toNat.testBit j=true):=by
 unfold dc
 rw [Bool.not_eq_false',decide_eq_true_eq]
 constructor
 ·intro h j ⟨h1,h2⟩
  have:(c.pos.toNat&&&c.neg.toNat).testBit j=true:=by grind
  grind
 ·intro h
  apply Nat.eq_of_testBit_eq
  grind
theorem ab1 {s i b:Int} (h:(c7 s i b).2=0) {j:Nat} (hj:(c7 s i b).1.toNat.testBit j=true): ∃x,s.toNat.testBit x=true∧fG i.toNat b.toNat x=j:=by
 unfold c7 at h hj
 split at h
 ·cases h
 ·next hn=>
  rw [if_neg hn] at hj
  have h':(gQ s.toNat i.toNat b.toNat).2=0:=by
   omega
  obtain ⟨x,_,h2,h3⟩:=(ab0 h' j).1 hj
  grind
theorem abQ {c:Cl} {i b:Int} (h:(dY c i b).2=0) (hc:dc c=false):dc (dY c i b).1=false:=by
 grind [VN,dY,ab1,Qj]
def cL (d b:Int) (f:List Cl):Except Int (List Cl):=if b=0∨d≥24 then .ok f else d5 (bA f d b)
theorem z7 {d b:Int} {f g:List Cl} (hf:RF f) (h:cL d b f= .ok g):RF g:=by
 grind [cL,iz,i_]
theorem Na {d b:Int} {f:List Cl} {e:Int} (h:cL d b f= .error e):0<e∧e≤1000:=by
 grind [cL,Ap,tL,EN]
theorem aeL {d b:Int} {f g:List Cl} (hf:f.all (fun c=> !dc c)=true) (h:cL d b f= .ok g):g.all (fun c=> !dc c)=true:=by
 grind [cL,iz,abV,abQ]
theorem Es (d b:Int):cL d b []= .ok []:=by
 unfold cL
 split
 all_goals rfl
mutual
def bh (vb db v d:Int):Tm→Except Int Tm
 | .mk kd n nm r ks sys=>
  if kd=1∧n≥v∧n>1000000000-vb then .error 100
  else bE (cL d db r) fun r'=>bE (c5 vb db v d kd 0 ks) fun ks'=>bE (cF vb db v d kd sys) fun sys'=> .ok (.mk kd (if kd=1∧n≥v then n+vb else n) nm r' ks' sys')
def c5 (vb db v d kd:Int) (i:Nat):List Tm→Except Int (List Tm)
 |[]=> .ok []
 |t::l=>bE (bh vb db (v+be kd i) (d+aR kd i) t) fun t'=>bE (c5 vb db v d kd (i+1) l) fun l'=> .ok (t'::l')
def cF (vb db v d kd:Int):List (Br Tm)→Except Int (List (Br Tm))
 |[]=> .ok []
 |b::l=>bE (lk vb db v d kd b) fun b'=>bE (cF vb db v d kd l) fun l'=> .ok (b'::l')
def lk (vb db v d kd:Int):Br Tm→Except Int (Br Tm)
 | .mk f ks=>bE (cL d db f) fun f'=>bE (c6 vb db v d kd ks) fun ks'=> .ok (.mk f' ks')
def c6 (vb db v d kd:Int):List Tm→Except Int (List Tm)
 |[]=> .ok []
 |t::l=>bE (bh vb db v (d+aH kd) t) fun t'=>bE (c6 vb db v d kd l) fun l'=> .ok (t'::l')
end
mutual
def RowsT:Tm→Prop
 | .mk kd n nm r ks sys=>(RF r∧(kd=1→r=[])∧0≤kd)∧cP ks∧dQ sys
def cP:List Tm→Prop
 |[]=>True
 |t::l=>RowsT t∧cP l
def dQ:List (Br Tm)→Prop
 |[]=>True
 |b::l=>kH b∧dQ l
def kH:Br Tm→Prop
 | .mk f ks=>RF f∧cP ks
end
theorem rowsK_iff: ∀ {l:List Tm},cP l↔ ∀t∈l,RowsT t:=by
 intro l
 induction l<;>grind [cP]
theorem Ew {b:Br Tm}:kH b↔RF b.face∧ ∀t∈b.kids,RowsT t:=by cases b;rw [kH,rowsK_iff]
theorem rowsS_iff: ∀ {l:List (Br Tm)},dQ l↔ ∀b∈l,RF b.face∧ ∀t∈b.kids,RowsT t:=by
 intro l
 induction l<;>grind [dQ,Ew]
end Go.Proofs.YtgajalidbabccaaGreatDoor
namespace Go.Proofs.YtgajalidbabccaaGreatDoor
open Go PI
set_option linter.unusedVariables false
set_option linter.unusedSimpArgs false
variable {S:Type} {k:Nat}
inductive F2 {α β:Type} (R:α→β→Prop):List α→List β→Prop
 |nil:F2 R [] []
 |cons {a:α} {b:β} {l:List α} {m:List β}:R a b→F2 R l m→F2 R (a::l) (b::m)
theorem F2.len {α β:Type} {R:α→β→Prop} {l:List α} {m:List β} (h:F2 R l m):m.length=l.length:=by
 induction h<;>grind
theorem F2.imp {α β:Type} {R Q:α→β→Prop} {l:List α} {m:List β} (h:F2 R l m) (hq: ∀a b,R a b→Q a b):F2 Q l m:=by
 induction h<;>grind [nil,cons]
theorem abX {vb db v d kd:Int} {R:Tm→Tm→Prop}: ∀ {l:List Tm} {i:Nat} {l':List Tm},(∀x∈l,∀v d x',bh vb db v d x= .ok x'→R x x')→c5 vb db v d kd i l= .ok l'→F2 R l l':=by
 intro l
 induction l with
 |nil=>intro i l' _ h;rw [c5] at h;injection h with h;subst h;exact .nil
 |cons t l ih=>
  intro i l' hr h
  rw [c5] at h
  obtain ⟨t',h1,h⟩:=ae h
  obtain ⟨m,h2,h⟩:=ae h
  injection h with h;subst h
  exact .cons (hr t (by simp) _ _ _ h1) (ih (fun x hx=>hr x (by simp [hx])) h2)
theorem abY {vb db v d kd:Int} {R:Tm→Tm→Prop}: ∀ {l:List Tm} {l':List Tm},(∀x∈l,∀v d x',bh vb db v d x= .ok x'→R x x')→c6 vb db v d kd l= .ok l'→F2 R l l':=by
 intro l
 induction l with
 |nil=>intro l' _ h;rw [c6] at h;injection h with h;subst h;exact .nil
 |cons t l ih=>
  intro l' hr h
  rw [c6] at h
  obtain ⟨t',h1,h⟩:=ae h
  obtain ⟨m,h2,h⟩:=ae h
  injection h with h;subst h
  exact .cons (hr t (by simp) _ _ _ h1) (ih (fun x hx=>hr x (by simp [hx])) h2)
theorem ab3 {vb db v d kd:Int} {R:Tm→Tm→Prop}: ∀ {l l':List (Br Tm)},(∀b∈l,∀x∈b.kids,∀v d x',bh vb db v d x= .ok x'→R x x')→cF vb db v d kd l= .ok l'→
  F2 (fun b b'=>cL d db b.face= .ok b'.face∧F2 R b.kids b'.kids) l l':=by
 intro l
 induction l with
 |nil=>intro l' _ h;rw [cF] at h;injection h with h;subst h;exact .nil
 |cons b l ih=>
  intro l' hr h
  rw [cF] at h
  obtain ⟨b',h1,h⟩:=ae h
  obtain ⟨m,h2,h⟩:=ae h
  injection h with h;subst h
  cases b with
  |mk f ks=>
   rw [lk] at h1
   obtain ⟨f',h3,h1⟩:=ae h1
   obtain ⟨ks',h4,h1⟩:=ae h1
   injection h1 with h1;subst h1
   exact .cons ⟨h3,abY (hr ⟨f,ks⟩ (by simp)) h4⟩ (ih (fun b hb=>hr b (by simp [hb])) h2)
theorem y8 {f:List Cl} {d:Int} (h:24≤d):b_ f d=true:=by
 grind [b_,mem_bitsN]
def Up (x x':Tm):Prop:=ai x'=ai x∧ao x'=ao x∧x'.kind=x.kind∧(OkT x→OkT x'∧(RowsT x→RowsT x')∧ ∀dd dd',24≤dd→24≤dd'→ay false (-1) dd x=true→ay false (-1) dd' x'=true)
theorem Qm {l l':List Tm} (h:F2 Up l l'):ax l'=ax l:=by
 induction h with
 |nil=>rfl
 |cons h1 _ ih=>rw [ax,ax,h1.1,ih]
theorem Qp {l l':List Tm} (h:F2 Up l l'):au l'=au l:=by
 induction h with
 |nil=>rfl
 |cons h1 _ ih=>rw [au,au,h1.2.1,ih]
theorem ahn {l l':List (Br Tm)} (h:F2 (fun b b':Br Tm=>F2 Up b.kids b'.kids) l l'):aM l'=aM l:=by
 induction h with
 |nil=>rfl
 |cons h1 _ ih=>grind [aM,tj,Qm]
theorem aho {l l':List (Br Tm)} (h:F2 (fun b b':Br Tm=>F2 Up b.kids b'.kids) l l'):aA l'=aA l:=by
 induction h with
 |nil=>rfl
 |cons h1 _ ih=>grind [aA,lA,Qp]
theorem Qn {l l':List Tm} (h:F2 Up l l'):aL l→aL l':=by
 induction h with
 |nil=>exact id
 |cons h1 _ ih=>rw [aL,aL];exact fun h=>⟨(h1.2.2.2 h.1).1,ih h.2⟩
theorem Qo {l l':List Tm} (h:F2 Up l l'):aL l→cP l→cP l':=by
 induction h with
 |nil=>simp
 |cons h1 _ ih=>rw [aL,cP,cP];exact fun h g=>⟨(h1.2.2.2 h.1).2.1 g.1,ih h.2 g.2⟩
theorem vi (v:Int):a6 (-1) v= -1:=by rfl
theorem ahl {kd dd dd':Int} (h1:24≤dd) (h2:24≤dd') {l l':List Tm} (h:F2 Up l l'): ∀ {i:Nat},aL l→aY false (-1) dd kd i l=true→aY false (-1) dd' kd i l'=true:=by
 induction h with
 |nil=>exact fun _ h=>h
 |cons h3 _ ih=>
  intro i
  rw [aL,aY,aY,Bool.and_eq_true,Bool.and_eq_true,vi]
  have:=eo kd i
  exact fun h g=>⟨(h3.2.2.2 h.1).2.2 _ _ (by omega) (by omega) g.1,ih h.2 g.2⟩
theorem ahm {kd dd dd':Int} (h1:24≤dd) (h2:24≤dd') {l l':List Tm} (h:F2 Up l l'):aL l→a8 false (-1) dd kd l=true→a8 false (-1) dd' kd l'=true:=by
 induction h with
 |nil=>exact fun _ h=>h
 |cons h3 _ ih=>
  rw [aL,a8,a8,Bool.and_eq_true,Bool.and_eq_true]
  have:=eA kd
  exact fun h g=>⟨(h3.2.2.2 h.1).2.2 _ _ (by omega) (by omega) g.1,ih h.2 g.2⟩
def oM (d db:Int) (b b':Br Tm):Prop:=cL d db b.face= .ok b'.face∧F2 Up b.kids b'.kids
theorem Nb {d db:Int} {f g:List Cl} (h:cL d db f= .ok g) (hf:aE f) (hl:f.length<1073741824):aE g∧g.length<1073741824:=by
 unfold cL at h
 split at h
 ·grind
 ·obtain ⟨h1,rfl⟩:=iz h
  have:=i_ h1
  exact ⟨this.2,by have:=this.len;omega⟩
theorem Et {d db:Int} {f g:List Cl} (h:cL d db f= .ok g) (hf:aE f) (hr:cm f=true):cm g=true:=(z7 ((jr hf).1 hr) h).right
theorem qZ {d db:Int} {f g:List Cl} (h:cL d db f= .ok g) (hf:aE f) (hr:cW f=true):cW g=true:=by
 grind [cW,Et,aeL]
theorem uN {d db:Int} {f g:List Cl} (h:cL d db f= .ok g) (hf:f.length=0):g.length=0:=by
 grind [Es]
theorem ahi {d db:Int} {l l':List (Br Tm)} (h:F2 (oM d db) l l'):aU l→aU l':=by
 induction h with
 |nil=>exact id
 |cons h1 _ ih=>
  rw [aU,aU,oh,oh]
  intro h
  have h3:=Nb h1.1 h.1.1.1 h.1.1.2.1
  exact ⟨⟨⟨h3.1,h3.2,by have:=h1.2.len;omega⟩,okK_iff.1 (Qn h1.2 (okK_iff.2 h.1.2))⟩,ih h.2⟩
theorem ahk {d db:Int} {l l':List (Br Tm)} (h:F2 (oM d db) l l'):aU l→dQ l→dQ l':=by
 induction h with
 |nil=>simp
 |cons h1 _ ih=>
  rw [aU,oh,dQ,dQ,Ew,Ew]
  intro h g
  exact ⟨⟨z7 g.1.1 h1.1,rowsK_iff.1 (Qo h1.2 (okK_iff.2 h.1.2) (rowsK_iff.2 g.1.2))⟩,ih h.2 g.2⟩
theorem ahh {d db kd dd dd':Int} (h1:24≤dd) (h2:24≤dd') {l l':List (Br Tm)} (h:F2 (oM d db) l l'):aU l→aI false (-1) dd kd l=true→aI false (-1) dd' kd l'=true:=by
 induction h with
 |nil=>exact fun _ h=>h
 | @cons a b _ _ h3 _ ih=>
  rw [aU,oh,aI,aI,Bool.and_eq_true,Bool.and_eq_true]
  intro h g
  refine ⟨?_,ih h.2 g.2⟩
  cases a;cases b
  have g1:=g.1
  rw [cX] at g1 ⊢
  exact ahm h1 h2 h3.2 (okK_iff.2 h.1.2) g1
theorem ahj {d db kd dd dd':Int} (h1:24≤dd) (h2:24≤dd') {l l':List (Br Tm)} (h:F2 (oM d db) l l'):aU l→l.all (aQ kd dd)=true→l'.all (aQ kd dd')=true:=by
 induction h with
 |nil=>simp
 | @cons a b _ _ h3 _ ih=>
  rw [aU,oh,List.all_cons,List.all_cons,Bool.and_eq_true,Bool.and_eq_true]
  intro h g
  refine ⟨?_,ih h.2 g.2⟩
  have g1:=g.1
  unfold aQ at g1 ⊢
  rw [Bool.and_eq_true,Bool.and_eq_true,decide_eq_true_eq] at g1 ⊢
  rw [h3.2.len]
  exact ⟨g1.1,qZ h3.1 h.1.1.1 g1.2.1,y8 h2⟩
theorem Ql {d db:Int} {l l':List (Br Tm)} (h:F2 (oM d db) l l'):F2 (fun b b':Br Tm=>F2 Up b.kids b'.kids) l l':=h.imp fun _ _ h=>h.2
theorem tM {vb db:Int} (hvb:0≤vb) (hvb':vb≤1000000000) (t:Tm): ∀v d t',bh vb db v d t= .ok t'→Up t t':=by
 induction t using dr with
 |h kd n nm r ks sys ih1 ih2=>
  intro v d t' h
  rw [bh] at h
  split at h
  ·cases h
  next hv=>
  obtain ⟨r',hr,h⟩:=ae h
  obtain ⟨ks',hk,h⟩:=ae h
  obtain ⟨sys',hs,h⟩:=ae h
  injection h with h;subst h
  have fk:F2 Up ks ks':=abX (fun x hx v d x'=>ih1 x hx v d x') hk
  have fs:F2 (oM d db) sys sys':=ab3 (fun b hb x hx v d x'=>ih2 b hb x hx v d x') hs
  refine ⟨?_, ?_,rfl,fun hok=> ?_⟩
  ·grind [ai,Qm,ahn,Ql]
  ·grind [ao,Qp,aho,Ql]
  ·obtain ⟨o1,o2,o3,o4,o5,o6,o7⟩:=hok.node
   have hok':=hok
   rw [OkT] at hok'
   obtain ⟨_,ok,os⟩:=hok'
   have hr':=Nb hr o4 o5
   have o2':=o2
   unfold aK at o2'
   refine ⟨?_, ?_, ?_⟩
   ·rw [OkT]
    refine ⟨⟨o1, ?_,o3,hr'.1,hr'.2,by rw [fk.len];exact o6,by rw [fs.len];exact o7⟩,Qn fk ok,ahi fs os⟩
    grind [aK]
   ·grind [RowsT,z7,Qo,ahk,Es]
   ·intro dd dd' h1 h2
    rw [ay,ay]
    simp only [Bool.false_and,Bool.not_false,Bool.true_and,Bool.and_eq_true]
    rintro ⟨a,b,c⟩
    refine ⟨?_,ahl h1 h2 fk ok b,ahh h1 h2 fs os c⟩
    unfold ca at a ⊢
    simp only [Bool.and_eq_true,decide_eq_true_eq,fk.len,fs.len] at a ⊢
    grind [uN,Et,y8,qZ,ahj]
theorem aau {kd:Int} {n:Nat} (h:fT kd=n):0≤kd:=by
 grind [fT]
theorem UX {bd:Bool} (t:Tm): ∀ {vars dims:Int},OkT t→ay bd vars dims t=true→RowsT t:=by
 induction t using dr with
 |h kd n nm r ks sys ih1 ih2=>
  intro vars dims hok h
  rw [ay,Bool.and_eq_true,Bool.and_eq_true,Bool.and_eq_true] at h
  obtain ⟨_,a,b,c⟩:=h
  obtain ⟨o1,o2,o3,o4,o5,o6,o7⟩:=hok.node
  have hok':=hok
  rw [OkT] at hok'
  obtain ⟨_,ok,os⟩:=hok'
  have hkids: ∀ {l:List Tm} {i:Nat},(∀x∈l,∀ {vars dims:Int},OkT x→ay bd vars dims x=true→RowsT x)→aL l→aY bd vars dims kd i l=true→cP l:=by
   intro l
   induction l<;>grind [cP,aY,aL]
  rw [jD,List.all_eq_true] at c
  unfold ca at a
  simp only [Bool.and_eq_true,decide_eq_true_eq] at a
  obtain ⟨⟨a1,a2,a3,a4⟩,a5⟩:=a
  have r0: ∀ {l:List Cl},l.length=0→RF l:=fun h=>by
   grind [uM]
  rw [RowsT]
  have hfaces:(sys=[]∨sys.all (aQ kd dims)=true)∧RF r∧(kd=1→r=[]):=by
   have nosys:dN kd=0→sys=[]:=fun h=>List.length_eq_zero_iff.1 (a4 h)
   by_cases c1:kd=1
   ·rw [if_pos c1] at a5
    simp only [Bool.and_eq_true,decide_eq_true_eq] at a5
    exact ⟨.inl (nosys (by subst c1;decide)),r0 a5.1,fun _=>List.length_eq_zero_iff.1 a5.1⟩
   ·rw [if_neg c1] at a5
    by_cases c2:kd=2
    ·rw [if_pos c2] at a5
     simp only [Bool.and_eq_true,decide_eq_true_eq] at a5
     exact ⟨.inl (nosys (by subst c2;decide)),r0 a5.1,fun h=>absurd h c1⟩
    ·rw [if_neg c2] at a5
     by_cases c3:kd=13∨kd=21∨kd=26
     ·rw [if_pos c3,Bool.and_eq_true] at a5
      exact ⟨.inl (nosys (by rcases c3 with rfl|rfl|rfl<;>decide)),(jr o4).1 a5.1,fun h=>absurd h c1⟩
     ·rw [if_neg c3] at a5
      by_cases c4:kd=14
      ·rw [if_pos c4,Bool.and_eq_true] at a5
       unfold cW at a5
       rw [Bool.and_eq_true] at a5
       exact ⟨.inl (nosys (by subst c4;decide)),(jr o4).1 a5.1.1,fun h=>absurd h c1⟩
      grind
  refine ⟨⟨hfaces.2.1,hfaces.2.2,aau a1⟩,hkids (fun x hx=>ih1 x hx) ok b, ?_⟩
  rw [rowsS_iff]
  intro br hbr
  have hc:=c br hbr
  rw [List.all_eq_true] at hc
  have hob:=hok.br hbr
  refine ⟨?_,fun x hx=>ih2 br hbr x hx (hob.2 x hx) (hc x hx)⟩
  rcases hfaces.1 with h|h<;>grind [aQ,cW,jr]
theorem n8 {vb db:Int} (t:Tm): ∀ {v d e},bh vb db v d t= .error e→0<e∧e≤1000:=by
 induction t using dr with
 |h kd n nm r ks sys ih1 ih2=>
  intro v d e h
  rw [bh] at h
  split at h
  ·grind
  rcases aW h with h|⟨_,_,h⟩
  ·exact Na h
  have hkids: ∀ {l:List Tm} {i:Nat},(∀x∈l,∀ {v d e},bh vb db v d x= .error e→0<e∧e≤1000)→c5 vb db v d kd i l= .error e→0<e∧e≤1000:=by
   intro l
   induction l with
   |nil=>grind [c5]
   |cons t l ih=>
    intro i hl h
    rw [c5] at h
    rcases aW h with h|⟨_,_,h⟩
    ·exact hl t (by simp) h
    grind [aW]
  have hmore: ∀ {l:List Tm},(∀x∈l,∀ {v d e},bh vb db v d x= .error e→0<e∧e≤1000)→ ∀ {e},c6 vb db v d kd l= .error e→0<e∧e≤1000:=by
   intro l
   induction l with
   |nil=>grind [c6]
   |cons t l ih=>
    intro hl e h
    rw [c6] at h
    rcases aW h with h|⟨_,_,h⟩
    ·grind
    ·rcases aW h with h|⟨_,_,h⟩
     ·exact ih (fun x hx=>hl x (by simp [hx])) h
     simp_all
  have hsys: ∀ {l:List (Br Tm)},(∀b∈l,∀x∈b.kids,∀ {v d e},bh vb db v d x= .error e→0<e∧e≤1000)→cF vb db v d kd l= .error e→0<e∧e≤1000:=by
   intro l
   induction l with
   |nil=>grind [cF]
   |cons b l ih=>
    intro hl h
    rw [cF] at h
    rcases aW h with h|⟨_,_,h⟩
    ·cases b with
     |mk f ks'=>
      rw [lk] at h
      rcases aW h with h|⟨_,_,h⟩
      ·exact Na h
      ·rcases aW h with h|⟨_,_,h⟩
       ·exact hmore (hl (Br.mk f ks') (by simp)) h
       ·cases h
    grind [aW]
  grind [aW]
end Go.Proofs.YtgajalidbabccaaGreatDoor
namespace Go.Proofs.YtgajalidbabccaaGreatDoor
open Go PI
set_option linter.unusedVariables false
set_option linter.unusedSimpArgs false
variable {S:Type} {k:Nat}
abbrev d6:=Int→List Cl→Except Int (List Cl)
mutual
def bj (fo fa:d6) (d:Int):Tm→Except Int Tm
 | .mk kd n nm r ks sys=>bE (if kd=14 then fa d r else fo d r) fun r'=>bE (bU fo fa d kd 0 ks) fun ks'=>bE (bm fo fa d kd sys) fun sys'=> .ok (.mk kd n nm r' ks' sys')
def bU (fo fa:d6) (d kd:Int) (i:Nat):List Tm→Except Int (List Tm)
 |[]=> .ok []
 |t::l=>bE (bj fo fa (d+aR kd i) t) fun t'=>bE (bU fo fa d kd (i+1) l) fun l'=> .ok (t'::l')
def bm (fo fa:d6) (d kd:Int):List (Br Tm)→Except Int (List (Br Tm))
 |[]=> .ok []
 |b::l=>bE (fH fo fa d kd b) fun o=>bE (bm fo fa d kd l) fun l'=> .ok (o++l')
def fH (fo fa:d6) (d kd:Int):Br Tm→Except Int (List (Br Tm))
 | .mk f ks=>bE (fa d f) fun f'=>if f'.length=0 then .ok [] else bE (bZ fo fa d kd ks) fun ks'=> .ok [.mk f' ks']
def bZ (fo fa:d6) (d kd:Int):List Tm→Except Int (List Tm)
 |[]=> .ok []
 |t::l=>bE (bj fo fa (d+aH kd) t) fun t'=>bE (bZ fo fa d kd l) fun l'=> .ok (t'::l')
end
theorem ahu {fo fa:d6} {d kd:Int} {R:Tm→Tm→Prop}: ∀ {l:List Tm} {i:Nat} {l':List Tm},(∀x∈l,∀d x',bj fo fa d x= .ok x'→R x x')→bU fo fa d kd i l= .ok l'→F2 R l l':=by
 intro l
 induction l with
 |nil=>intro i l' _ h;rw [bU] at h;injection h with h;subst h;exact .nil
 |cons t l ih=>
  intro i l' hr h
  rw [bU] at h
  obtain ⟨t',h1,h⟩:=ae h
  obtain ⟨m,h2,h⟩:=ae h
  injection h with h;subst h
  exact .cons (hr t (by simp) _ _ h1) (ih (fun x hx=>hr x (by simp [hx])) h2)
theorem ahw {fo fa:d6} {d kd:Int} {R:Tm→Tm→Prop}: ∀ {l:List Tm} {l':List Tm},(∀x∈l,∀d x',bj fo fa d x= .ok x'→R x x')→bZ fo fa d kd l= .ok l'→F2 R l l':=by
 intro l
 induction l with
 |nil=>intro l' _ h;rw [bZ] at h;injection h with h;subst h;exact .nil
 |cons t l ih=>
  intro l' hr h
  rw [bZ] at h
  obtain ⟨t',h1,h⟩:=ae h
  obtain ⟨m,h2,h⟩:=ae h
  injection h with h;subst h
  exact .cons (hr t (by simp) _ _ h1) (ih (fun x hx=>hr x (by simp [hx])) h2)
def Wk (x x':Tm):Prop:=ai x'≤ai x∧ao x'≤ao x∧x'.kind=x.kind∧(OkT x→RowsT x→OkT x'∧RowsT x')
theorem QH {l l':List Tm} (h:F2 Wk l l'):ax l'≤ax l:=by
 induction h with
 |nil=>simp
 |cons h1 _ ih=>rw [ax,ax];have:=h1.1;omega
theorem QK {l l':List Tm} (h:F2 Wk l l'):au l'≤au l:=by
 induction h with
 |nil=>simp
 |cons h1 _ ih=>rw [au,au];have:=h1.2.1;omega
theorem QJ {l l':List Tm} (h:F2 Wk l l'):aL l→cP l→aL l'∧cP l':=by
 induction h with
 |nil=>grind
 |cons h1 _ ih=>
  rw [aL,aL,cP,cP]
  intro h g
  have a:=h1.2.2.2 h.1 g.1
  grind
theorem ahz {fo fa:d6} {d kd:Int} (hfa: ∀d f g,RF f→fa d f= .ok g→RF g): ∀ {l l':List (Br Tm)},(∀b∈l,∀x∈b.kids,∀d x',bj fo fa d x= .ok x'→Wk x x')→bm fo fa d kd l= .ok l'→
  aM l'≤aM l∧aA l'≤aA l∧l'.length≤l.length∧(aU l→dQ l→aU l'∧dQ l'):=by
 intro l
 induction l with
 |nil=>grind [bm]
 |cons b l ih=>
  intro l' hr h
  rw [bm] at h
  obtain ⟨o,h1,h⟩:=ae h
  obtain ⟨m,h2,h⟩:=ae h
  injection h with h;subst h
  obtain ⟨i1,i2,i3,i4⟩:=ih (fun b hb=>hr b (by simp [hb])) h2
  cases b with
  |mk f ks=>
   rw [fH] at h1
   obtain ⟨f',h3,h1⟩:=ae h1
   split at h1
   ·grind [aM,aA,aU,dQ]
   ·obtain ⟨ks',h4,h1⟩:=ae h1
    injection h1 with h1;subst h1
    have f2:F2 Wk ks ks':=ahw (hr ⟨f,ks⟩ (by simp)) h4
    have hd:=QH f2
    have hs:=QK f2
    refine ⟨?_, ?_, ?_,fun ho hg=> ?_⟩
    ·grind [aM,eL]
    ·grind [aA,d4]
    ·grind
    ·rw [aU,dP] at ho;rw [dQ,kH] at hg
     have a:=QJ f2 ho.1.2 hg.1.2
     have b:=i4 ho.2 hg.2
     have c:=hfa d f f' hg.1.1 h3
     show aU (Br.mk f' ks'::m)∧dQ (Br.mk f' ks'::m)
     rw [aU,dP,dQ,kH]
     exact ⟨⟨⟨⟨c.2,by have:=c.len;omega,by rw [f2.len];simp_all⟩,a.1⟩,b.1⟩,⟨c,a.2⟩,b.2⟩
theorem Qw {fo fa:d6} (hfo: ∀d f g,RF f→fo d f= .ok g→RF g) (hfa: ∀d f g,RF f→fa d f= .ok g→RF g) (h0: ∀d,fo d []= .ok []) (t:Tm): ∀d t',bj fo fa d t= .ok t'→Wk t t':=by
 induction t using dr with
 |h kd n nm r ks sys ih1 ih2=>
  intro d t' h
  rw [bj] at h
  obtain ⟨r',hr,h⟩:=ae h
  obtain ⟨ks',hk,h⟩:=ae h
  obtain ⟨sys',hs,h⟩:=ae h
  injection h with h;subst h
  have fk:F2 Wk ks ks':=ahu ih1 hk
  obtain ⟨s1,s2,s3,s4⟩:=ahz hfa ih2 hs
  refine ⟨?_, ?_,rfl,fun hok hro=> ?_⟩
  ·rw [ai,ai];have:=QH fk;omega
  ·rw [ao,ao];have:=QK fk;omega
  ·rw [OkT] at hok;rw [RowsT] at hro
   obtain ⟨⟨o1,o2,o3,o4,o5,o6,o7⟩,ok,os⟩:=hok
   obtain ⟨⟨a,b,z⟩,c,e⟩:=hro
   have hk:=QJ fk ok c
   have hs:=s4 os e
   have hrf:RF r':=by
    grind
   rw [OkT,RowsT]
   refine ⟨⟨⟨o1,o2,o3,hrf.2,by have:=hrf.len;omega,by rw [fk.len];exact o6,by omega⟩,hk.1,hs.1⟩,⟨hrf,fun h1=> ?_,z⟩,hk.2,hs.2⟩
   grind
section
variable {fo fa:d6} {G:Int→List Cl→List Cl}
def dl (f:d6) (G:Int→List Cl→List Cl):d6:=fun d l=>bE (f d l) fun m=> .ok (G d m)
def aO (G:Int→List Cl→List Cl):d6:=fun d l=> .ok (G d l)
theorem As (t:Tm): ∀d,∃t',bj (aO G) (aO G) d t= .ok t':=by
 induction t using dr with
 |h kd n nm r ks sys ih1 ih2=>
  intro d
  have hk: ∀ {l:List Tm} {i:Nat},(∀x∈l,∀d,∃t',bj (aO G) (aO G) d x= .ok t')→ ∃l',bU (aO G) (aO G) d kd i l= .ok l':=by
   intro l
   induction l with
   |nil=>simp_all [bU]
   |cons t l ih=>
    intro i h
    obtain ⟨t',e⟩:=h t (by simp) (d+aR kd i)
    obtain ⟨l',e'⟩:=ih (i:=i+1) fun x hx=>h x (by simp [hx])
    grind [bU,aN]
  have hm: ∀ {l:List Tm},(∀x∈l,∀d,∃t',bj (aO G) (aO G) d x= .ok t')→ ∃l',bZ (aO G) (aO G) d kd l= .ok l':=by
   intro l
   induction l with
   |nil=>simp_all [bZ]
   |cons t l ih=>
    intro h
    obtain ⟨t',e⟩:=h t (by simp) (d+aH kd)
    obtain ⟨l',e'⟩:=ih fun x hx=>h x (by simp [hx])
    grind [bZ,aN]
  have hs: ∀ {l:List (Br Tm)},(∀b∈l,∀x∈b.kids,∀d,∃t',bj (aO G) (aO G) d x= .ok t')→ ∃l',bm (aO G) (aO G) d kd l= .ok l':=by
   intro l
   induction l with
   |nil=>simp_all [bm]
   |cons b l ih=>
    intro h
    obtain ⟨l',e'⟩:=ih fun b hb=>h b (by simp [hb])
    cases b with
    |mk f ks=>
     obtain ⟨ks',e⟩:=hm (h ⟨f,ks⟩ (by simp))
     have: ∃o,fH (aO G) (aO G) d kd (.mk f ks)= .ok o:=by
      grind [fH,aO,aN]
     grind [bm,aN]
  obtain ⟨ks',ek⟩:=hk (i:=0) ih1
  obtain ⟨sys',es⟩:=hs ih2
  simp_all [aO,bj,aN]
theorem ahv (d kd:Int): ∀ (l:List Tm) (i:Nat),∃l',bU (aO G) (aO G) d kd i l= .ok l':=by
 intro l
 induction l with
 |nil=>simp_all [bU]
 |cons t l ih=>
  intro i
  obtain ⟨t',e⟩:=As (G:=G) t (d+aR kd i)
  obtain ⟨l',e'⟩:=ih (i+1)
  grind [bU,aN]
theorem Qu (d kd:Int): ∀ (l:List Tm),∃l',bZ (aO G) (aO G) d kd l= .ok l':=by
 intro l
 induction l with
 |nil=>simp_all [bZ]
 |cons t l ih=>
  obtain ⟨t',e⟩:=As (G:=G) t (d+aH kd)
  grind [bZ,aN]
theorem aht (d kd:Int) (b:Br Tm): ∃o,fH (aO G) (aO G) d kd b= .ok o:=by
 cases b with
 |mk f ks=>
  obtain ⟨ks',e⟩:=Qu (G:=G) d kd ks
  rw [fH,aO,aN]
  split<;>simp_all [aN]
theorem ahy (d kd:Int): ∀ (l:List (Br Tm)),∃l',bm (aO G) (aO G) d kd l= .ok l':=by
 intro l
 induction l with
 |nil=>simp_all [bm]
 |cons b l ih=>
  obtain ⟨l',e'⟩:=ih
  obtain ⟨o,e⟩:=aht (G:=G) d kd b
  grind [bm,aN]
theorem ahx (d kd:Int): ∀ (a b:List (Br Tm)),bm fo fa d kd (a++b)=bE (bm fo fa d kd a) fun a'=>bE (bm fo fa d kd b) fun b'=> .ok (a'++b'):=by
 intro a
 induction a with
 |nil=>intro b;rw [List.nil_append,bm,aN];cases bm fo fa d kd b<;>rfl
 |cons x a ih=>
  intro b
  rw [List.cons_append,bm,bm,ih]
  cases fH fo fa d kd x with
  |error e=>rfl
  |ok o=>
   rw [aN,aN]
   cases bm fo fa d kd a with
   |error e=>rfl
   |ok a'=>
    rw [aN,aN]
    cases bm fo fa d kd b with
    |error e=>rfl
    |ok b'=>grind [aN]
theorem ahA (hfa: ∀d f g,RF f→fa d f= .ok g→RF g) (hG: ∀d f,RF f→((G d f).length=0↔f.length=0)) (t:Tm): ∀d,RowsT t→bE (bj fo fa d t) (bj (aO G) (aO G) d)=bj (dl fo G) (dl fa G) d t:=by
 induction t using dr with
 |h kd n nm r ks sys ih1 ih2=>
  intro d hrows
  rw [RowsT] at hrows
  obtain ⟨_,hrk,hrs⟩:=hrows
  have hk: ∀ {l:List Tm} {i:Nat},(∀x∈l,∀d,RowsT x→bE (bj fo fa d x) (bj (aO G) (aO G) d)=bj (dl fo G) (dl fa G) d x)→cP l→bE (bU fo fa d kd i l) (bU (aO G) (aO G) d kd i)=bU (dl fo G) (dl fa G) d kd i l:=by
   intro l
   induction l with
   |nil=>grind [bU,aN]
   |cons t l ih=>
    intro i h hr
    rw [cP] at hr
    have h1:=h t (by simp) (d+aR kd i) hr.1
    have h2:=ih (i:=i+1) (fun x hx=>h x (by simp [hx])) hr.2
    rw [bU,bU,←h1,←h2]
    cases bj fo fa (d+aR kd i) t with
    |error e=>rfl
    |ok t'=>
     rw [aN,aN]
     obtain ⟨t'',e⟩:=As (G:=G) t' (d+aR kd i)
     rw [e,aN]
     cases bU fo fa d kd (i+1) l with
     |error e=>rfl
     |ok l'=>
      grind [aN,bU]
  have hm: ∀ {l:List Tm},(∀x∈l,∀d,RowsT x→bE (bj fo fa d x) (bj (aO G) (aO G) d)=bj (dl fo G) (dl fa G) d x)→cP l→bE (bZ fo fa d kd l) (bZ (aO G) (aO G) d kd)=bZ (dl fo G) (dl fa G) d kd l:=by
   intro l
   induction l with
   |nil=>grind [bZ,aN]
   |cons t l ih=>
    intro h hr
    rw [cP] at hr
    have h1:=h t (by simp) (d+aH kd) hr.1
    have h2:=ih (fun x hx=>h x (by simp [hx])) hr.2
    rw [bZ,bZ,←h1,←h2]
    cases bj fo fa (d+aH kd) t with
    |error e=>rfl
    |ok t'=>
     rw [aN,aN]
     obtain ⟨t'',e⟩:=As (G:=G) t' (d+aH kd)
     rw [e,aN]
     cases bZ fo fa d kd l with
     |error e=>rfl
     |ok l'=>
      grind [aN,bZ]
  have hb: ∀ {b:Br Tm},(∀x∈b.kids,∀d,RowsT x→bE (bj fo fa d x) (bj (aO G) (aO G) d)=bj (dl fo G) (dl fa G) d x)→kH b→bE (fH fo fa d kd b) (bm (aO G) (aO G) d kd)=fH (dl fo G) (dl fa G) d kd b:=by
   intro b h hr
   cases b with
   |mk f ks'=>
    rw [kH] at hr
    have h2:=hm h hr.2
    rw [fH,fH]
    show _=bE (bE (fa d f) fun m=> .ok (G d m)) _
    cases hf:fa d f with
    |error e=>rfl
    |ok f'=>
     rw [aN,aN,aN]
     have hg:=hG d f' (hfa d f f' hr.1 hf)
     by_cases h0:f'.length=0
     ·grind [aN,bm]
     ·rw [if_neg h0,if_neg (fun h=>h0 (hg.1 h)),←h2]
      cases bZ fo fa d kd ks' with
      |error e=>rfl
      |ok l'=>
       rw [aN,aN,aN,bm,fH]
       show bE (bE (.ok (G d f')) _) _=_
       rw [aN,if_neg (fun h=>h0 (hg.1 h))]
       obtain ⟨l'',e⟩:=Qu (G:=G) d kd l'
       grind [aN,bm]
  have hs: ∀ {l:List (Br Tm)},(∀b∈l,∀x∈b.kids,∀d,RowsT x→bE (bj fo fa d x) (bj (aO G) (aO G) d)=bj (dl fo G) (dl fa G) d x)→dQ l→bE (bm fo fa d kd l) (bm (aO G) (aO G) d kd)=bm (dl fo G) (dl fa G) d kd l:=by
   intro l
   induction l with
   |nil=>grind [bm,aN]
   |cons b l ih=>
    intro h hr
    rw [dQ] at hr
    have h1:=hb (h b (by simp)) hr.1
    have h2:=ih (fun b hb=>h b (by simp [hb])) hr.2
    rw [bm,bm,←h1,←h2]
    cases fH fo fa d kd b with
    |error e=>rfl
    |ok o=>
     rw [aN,aN]
     obtain ⟨o',e⟩:=ahy (G:=G) d kd o
     rw [e,aN]
     cases bm fo fa d kd l with
     |error e=>rfl
     |ok l'=>
      grind [aN,ahx]
  rw [bj,bj,←hk (i:=0) ih1 hrk,←hs ih2 hrs]
  have hrow:(if kd=14 then dl fa G d r else dl fo G d r)=bE (if kd=14 then fa d r else fo d r) fun m=> .ok (G d m):=by split<;>rfl
  rw [hrow]
  cases (if kd=14 then fa d r else fo d r) with
  |error e=>rfl
  |ok r'=>
   rw [aN,aN,aN]
   cases bU fo fa d kd 0 ks with
   |error e=>rfl
   |ok ks'=>
    rw [aN,aN]
    obtain ⟨ks'',ek⟩:=ahv (G:=G) d kd ks' 0
    rw [ek,aN]
    cases bm fo fa d kd sys with
    |error e=>rfl
    |ok sys'=>
     grind [aN,bj,aO]
end
end Go.Proofs.YtgajalidbabccaaGreatDoor
namespace Go.Proofs.YtgajalidbabccaaGreatDoor
open Go PI
set_option linter.unusedVariables false
set_option linter.unusedSimpArgs false
set_option maxRecDepth 20000
variable {S:Type} {k:Nat}
theorem aav (kd:Int):(kd<0∨kd>28)∨(∃n:Nat,n<29∧kd=n):=by
 by_cases h:kd<0∨kd>28
 ·omega
 ·exact .inr ⟨kd.toNat,by omega,by omega⟩
theorem ae4 (kd:Int) (ret:Int→Option S):yl k kd ret=ret (fT kd):=by
 simp only [yl,PY]
 rcases aav kd with h|⟨n,hn,rfl⟩
 ·simp only [gr,beq_iff_eq]
  unfold fT
  rw [if_pos h]
  repeat rw [if_neg (by omega)]
 ·unfold fT
  rw [if_neg (by omega),Int.toNat_natCast]
  match n,hn with
  |0,_=>rfl
  |1,_=>rfl
  |2,_=>rfl
  |3,_=>rfl
  |4,_=>rfl
  |5,_=>rfl
  |6,_=>rfl
  |7,_=>rfl
  |8,_=>rfl
  |9,_=>rfl
  |10,_=>rfl
  |11,_=>rfl
  |12,_=>rfl
  |13,_=>rfl
  |14,_=>rfl
  |15,_=>rfl
  |16,_=>rfl
  |17,_=>rfl
  |18,_=>rfl
  |19,_=>rfl
  |20,_=>rfl
  |21,_=>rfl
  |22,_=>rfl
  |23,_=>rfl
  |24,_=>rfl
  |25,_=>rfl
  |26,_=>rfl
  |27,_=>rfl
  |28,_=>rfl
  |n+29,h=>omega
theorem js (kd i:Int) (ret:Int×Int→Option S):gI k kd i ret=ret (be kd i,aR kd i):=by
 simp only [gI,PT,gr,beq_iff_eq]
 grind [be,aR]
theorem NC (kd:Int) (ret:Int→Option S):lX k kd ret=ret (dN kd):=by
 grind [lX,PZ,gr,dN]
theorem GQ (s t:ByteArray):(s==t)=decide (s=t):=by
 obtain ⟨a⟩:=s;obtain ⟨b⟩:=t
 show (a==b)=_
 grind
theorem Kg (s:ByteArray):(s==ByteArray.empty)=decide (s.size=0):=by
 simp_all [GQ]
theorem E1 (s:ByteArray):(s.size:Int)=(s.data.toList.length:Int):=by
 rfl
def mu (p:List UInt8) (r:List UInt8):Bool:=match p with
 |[]=>ug r
 |_::_=>r.all fun d=>n7 d||tn d
theorem acz (p:List UInt8) (x:UInt8) (r:List UInt8):mu p (x::r)=((n7 x||(decide (p≠[])&&tn x))&&mu (p++[x]) r):=by
 cases p<;>grind [mu,ug]
theorem acA {p:List UInt8}:mu p []=decide (p.length≠0):=by
 cases p with
 |nil=>rfl
 |cons c l=>rfl
theorem abm (hk:Fu k) (ret:Bool→Option S) {s:ByteArray} (hs:s.size<2147483648):
  ∀ (r p:List UInt8) (m:Nat),s.data.toList=p++r→r.length<m→n4 k ret s m (p.length:Int)=ret (mu p r):=by
 obtain ⟨q,rfl⟩: ∃q,k=q+1:=⟨k-1,by omega⟩
 have hs':s.data.toList.length<2147483648:=by simp_all
 intro r
 induction r with
 |nil=>
  grind [av,n4,sx,E1,af,Kg,acA]
 |cons x r ih=>
  intro p m h hm
  obtain ⟨m,rfl,hm'⟩:=av hm
  obtain ⟨e1,e2,e3,e4⟩:=aV h (by omega)
  have hi:=ih (p++[x]) m e4 hm'
  rw [acz]
  simp only [n4,sx,E1,e1,al,e2,Option.bind_some,cM,yX,Bm,e3,hi]
  have hl: ∀b:Bool,b=n7 x→ab (!b) (ab (((p.length:Nat):Int)==0) (ret false) (if ((x.toNat:Nat):Int)<48 then ret false else if ((x.toNat:Nat):Int)>57 then ret false else ret (mu (p++[x]) r))) (ret (mu (p++[x]) r))=ret ((n7 x||(decide (p≠[])&&tn x))&&mu (p++[x]) r):=by
   grind [gr,List.length_pos_iff,tn]
  grind [n7]
theorem afL (hk:Fu k) {s:ByteArray} (hs:s.size<2147483648) (ret:Bool→Option S):yn k s ret=ret (ug s.data.toList):=by
 simp only [yn,Gj]
 have:=abm hk ret hs s.data.toList [] k rfl (by grind [E1])
 exact this
end Go.Proofs.YtgajalidbabccaaGreatDoor
namespace Go.Proofs.YtgajalidbabccaaGreatDoor
open Go PI
set_option linter.unusedVariables false
set_option linter.unusedSimpArgs false
set_option maxRecDepth 20000
variable {S:Type} {k:Nat}
theorem yZ (n:Nat):(((n:Nat):Int)==0)=decide (n=0):=by grind
theorem abp (hk:Fu k) (ret:Bool→Option S) {t:Tm} {dims:Int} (hd:0≤dims) (hd':dims<9223372036854775808) (hs: ∀b∈t.sys,aE b.face∧b.face.length<1073741824) (hlen:t.sys.length<1073741824):
  ∀ (r p:List (Br Tm)) (m:Nat),t.sys=p++r→r.length<m→lj k ret t dims m (p.length:Int)=ret (r.all (aQ t.kind dims)&&decide (t.r.length=0)):=by
 intro r
 induction r with
 |nil=>
  grind [av,lj,wM,af,yZ]
 |cons x r ih=>
  intro p m h hm
  obtain ⟨m,rfl,hm'⟩:=av hm
  obtain ⟨e1,e2,e3,e4⟩:=aV h (by omega)
  have hx:=hs x (by grind)
  have hb:((x.kids.length:Int)==dN t.kind)=decide ((x.kids.length:Int)=dN t.kind):=by rfl
  simp only [lj,wM,e1,al,e2,Option.bind_some,ap hk,NC,EJ hk hx.1 (show x.face.length<2147483648 by omega),N7 hk hx.1 (show x.face.length<4294967296 by omega) hd hd',e3,ih (p++[x]) m e4 hm',List.all_cons,hb]
  grind [aQ,decide,Int,cW,al,af]
theorem agj {S:Type} (b c:Bool) (ret:Bool→Option S):ab b (ret c) (ret false)=ret (b&&c):=by
 cases b<;>rfl
def qI (vars dims:Int) (t:Tm):Bool:=
 if t.kind=1 then decide (t.r.length=0)&&(decide (0≤t.n)&&decide (vars<0∨t.n<vars))
   else if t.kind=2 then decide (t.r.length=0)&&ug t.name.data.toList
   else if t.kind=13∨t.kind=21∨t.kind=26 then cm t.r&&b_ t.r dims
   else if t.kind=14 then cW t.r&&b_ t.r dims
   else t.sys.all (aQ t.kind dims)&&decide (t.r.length=0)
theorem adl (vars dims:Int) (t:Tm):ca vars dims t=((decide (fT t.kind=t.kids.length)&&(decide (t.kind=1∨t.n=0)&&(decide (t.kind=2∨t.name.size=0)&&decide (dN t.kind=0→t.sys.length=0))))&&qI vars dims t):=by
 cases t;rfl
def UK (t:Tm):Prop:=aK t.kind∧aK t.n∧t.name.size<1073741824∧aE t.r∧t.r.length<1073741824∧t.kids.length<1073741824∧t.sys.length<1073741824
theorem OkT.no {t:Tm} (h:OkT t):UK t:=by cases t;exact h.node
theorem OkT.ki {t x:Tm} (h:OkT t) (hx:x∈t.kids):OkT x:=by cases t;exact h.kid hx
theorem OkT.bi {t:Tm} {b:Br Tm} (h:OkT t) (hb:b∈t.sys):(aE b.face∧b.face.length<1073741824∧b.kids.length<1073741824)∧ ∀t∈b.kids,OkT t:=by cases t;exact h.br hb
theorem afQ (hk:Fu k) {t:Tm} (ht:OkT t) {vars dims:Int} (hd:0≤dims) (hd':dims<9223372036854775808) (ret:Bool→Option S):yY k ret t vars dims k=ret (qI vars dims t):=by
 obtain ⟨o1,o2,o3,o4,o5,o6,o7⟩:=ht.no
 have hb:=fun b hb=>(ht.bi (b:=b) hb).1
 obtain ⟨q,hq⟩: ∃q,k=q+1:=⟨k-1,by omega⟩
 have: ∀j,j=q+1→yY k ret t vars dims j=sz k ret t vars dims (fun v109=>lj k ret t dims k v109):=by rintro j rfl;rfl
 rw [this k hq]
 have hl:=abp hk ret hd hd' (fun b h=>⟨(hb b h).1,(hb b h).2.1⟩) o7 t.sys [] k rfl (by omega)
 have hl:lj k ret t dims k 0=_:=hl
 simp only [sz,ap hk,afL hk (show t.name.size<2147483648 by omega),ri hk o4 (show t.r.length<2147483648 by omega),EJ hk o4 (show t.r.length<2147483648 by omega),N7 hk o4 (show t.r.length<4294967296 by omega) hd hd',hl,yZ,agj]
 grind [gr,qI]
theorem afP (hk:Fu k) {t:Tm} (ht:OkT t) {vars dims:Int} (hd:0≤dims) (hd':dims<9223372036854775808) (ret:Bool→Option S):tf k t vars dims ret=ret (ca vars dims t):=by
 have hq:(fT t.kind==(t.kids.length:Int))=decide (fT t.kind=t.kids.length):=by rfl
 have hp:(dN t.kind==0)=decide (dN t.kind=0):=c_ _
 simp only [tf,Gk,ap hk,ae4,NC,afQ hk ht hd hd',Kg,hq,hp,c_,adl]
 have hsy:ab (decide (dN t.kind=0)) (ab (decide (((t.sys.length:Nat):Int)>0)) (ret false) (ret (qI vars dims t))) (ret (qI vars dims t))=ret (decide (dN t.kind=0→t.sys.length=0)&&qI vars dims t):=by
  rw [cM,cM]
  by_cases h1:dN t.kind=0
  ·rw [if_pos h1]
   by_cases h2:t.sys.length=0<;>grind
  grind
 grind [al,af,decide_eq_false]
end Go.Proofs.YtgajalidbabccaaGreatDoor
namespace Go.Proofs.YtgajalidbabccaaGreatDoor
open Go PI
set_option linter.unusedVariables false
set_option linter.unusedSimpArgs false
set_option maxRecDepth 20000
variable {S:Type} {k:Nat}
abbrev Fd (k n:Nat):Prop:=4294967296+n≤k
theorem Fd.fu {n:Nat} (h:Fd k n):Fu k:=by omega
theorem Fd.pos {n:Nat} (h:Fd k n): ∃q,k=q+1∧ ∀j,j+1≤n→Fd q j:=⟨k-1,by omega,fun j hj=>by omega⟩
theorem Fd.pos' {n:Nat} (h:Fd k n) (hn:1≤n): ∃q,k=q+1∧Fu q∧ ∀j,j+1≤n→Fd q j:=⟨k-1,by omega,by omega,fun j hj=>by omega⟩
theorem dW (t:Tm):1≤ai t:=by cases t;rw [ai];omega
theorem tk (t:Tm):ai t=max (ax t.kids) (aM t.sys)+1:=by cases t;rfl
theorem Ab (t:Tm):ao t=1+au t.kids+aA t.sys:=by cases t;rfl
theorem dv {t x:Tm} (h:x∈t.kids):ai x+1≤ai t:=by rw [tk t];have:=Cb h;omega
theorem dJ {t:Tm} {b:Br Tm} {x:Tm} (hb:b∈t.sys) (h:x∈b.kids):ai x+1≤ai t:=by rw [tk t];have:=Cb h;have:=Hk hb;omega
theorem eS {Q:Tm→Prop} (h: ∀t,(∀x∈t.kids,Q x)→(∀b∈t.sys,∀x∈b.kids,Q x)→Q t) (t:Tm):Q t:=dr (fun kd n nm r ks sys h1 h2=>h (.mk kd n nm r ks sys) h1 h2) t
theorem Of {α:Type} (b c:Bool) (x y:α):ab (!b) y (if c then x else y)=if b&&c then x else y:=by cases b<;>cases c<;>rfl
theorem Og {S:Type} (b c:Bool) (ret:Bool→Option S):ab (!b) (ret false) (ret c)=ret (b&&c):=by cases b<;>rfl
theorem bJ {n:Int} (h1: -9223372036854775808≤n) (h2:n<9223372036854775808):IntKind.wrap .i64 n=n:=QN h1 h2
section
variable {hd:Tm→Int→(Bool→Option S)→Option S} {c0:Int} {t:Tm} {Q:Tm→Bool}
theorem aaY (hk:Fu k) (ret:Bool→Option S) (rec1:Int→Int→Option S) (hc: -9223372036854775807≤c0) (hc':c0<9223372036854775808) {v more:Int} {x:Br Tm} (hQ: ∀y∈x.kids,∀g,hd y (c0-1) g=g (Q y)) (hl:x.kids.length<1073741824):
  ∀ (r p:List Tm) (m:Nat),x.kids=p++r→r.length<m→nX hd k ret rec1 c0 t v x more m (p.length:Int)=if r.all Q then rec1 (IntKind.wrap .i64 (v+1)) more else ret false:=by
 intro r
 induction r with
 |nil=>
  grind [av,nX,wJ,af]
 |cons y r ih=>
  intro p m h hm
  obtain ⟨m,rfl,hm'⟩:=av hm
  obtain ⟨e1,e2,e3,e4⟩:=aV h (by omega)
  have hy:=hQ y (by grind)
  simp only [nX,wJ,e1,al,e2,Option.bind_some,ap hk,tg,Gl,aJ,bJ (show-9223372036854775808≤c0-1 by omega) (by omega),hy,e3,ih (p++[y]) m e4 hm',Of]
  rfl
theorem aaX (hk:Fu k) (ret:Bool→Option S) (hc: -9223372036854775807≤c0) (hc':c0<9223372036854775808) {more:Int} (hQ: ∀b∈t.sys,∀y∈b.kids,∀g,hd y (c0-1) g=g (Q y)) (hl:t.sys.length<1073741824) (hl': ∀b∈t.sys,b.kids.length<1073741824):
  ∀ (r p:List (Br Tm)) (m:Nat),t.sys=p++r→r.length<m→jY hd k ret c0 t m (p.length:Int) more=ret (r.all fun b=>b.kids.all Q):=by
 intro r
 induction r with
 |nil=>
  grind [av,jY,sc,af]
 |cons x r ih=>
  intro p m h hm
  obtain ⟨m,rfl,hm'⟩:=av hm
  obtain ⟨e1,e2,e3,e4⟩:=aV h (by omega)
  have hx:x∈t.sys:=by grind
  have hlx:=hl' x hx
  have:=aaY (t:=t) hk ret (jY hd k ret c0 t m) (v:=(p.length:Int)) (more:=more) hc hc' (hQ x hx) hlx x.kids [] k rfl (by omega)
  simp only [jY,sc,e1,al,e2,Option.bind_some,List.all_cons]
  refine Eq.trans this ?_
  rw [e3,ih (p++[x]) m e4 hm']
  cases x.kids.all Q<;>rfl
theorem aaW (hk:Fu k) (ret:Bool→Option S) (hc: -9223372036854775807≤c0) (hc':c0<9223372036854775808) (hQ: ∀y∈t.kids,∀g,hd y (c0-1) g=g (Q y)) (hQ': ∀b∈t.sys,∀y∈b.kids,∀g,hd y (c0-1) g=g (Q y)) (ht:OkT t):
  ∀ (r p:List Tm) (m:Nat),t.kids=p++r→r.length<m→qu hd k ret c0 t m (p.length:Int)=ret (r.all Q&&t.sys.all fun b=>b.kids.all Q):=by
 obtain ⟨o1,o2,o3,o4,o5,o6,o7⟩:=ht.no
 intro r
 induction r with
 |nil=>
  intro p m h hm
  obtain ⟨m,rfl,hm'⟩:=av hm
  have hs: ∀more:Int,jY hd k ret c0 t k 0 more=_:=fun more=>aaX hk ret hc hc' (more:=more) hQ' o7 (fun b hb=>(ht.bi hb).1.2.2) t.sys [] k rfl (by omega)
  simp only [qu,r_,cD h,af,hs]
  cases (t.kind==15)<;>rfl
 |cons y r ih=>
  intro p m h hm
  obtain ⟨m,rfl,hm'⟩:=av hm
  obtain ⟨e1,e2,e3,e4⟩:=aV h (by omega)
  have hy:=hQ y (by grind)
  simp only [qu,r_,e1,al,e2,Option.bind_some,ap hk,js,tg,Gl,aJ,bJ (show-9223372036854775808≤c0-1 by omega) (by omega),hy,e3,ih (p++[y]) m e4 hm',Og,List.all_cons,Bool.and_assoc]
end
theorem Hh {n:Int} (hn:0≤n): ∀ {l:List Tm},(l.all fun x=>decide ((ai x:Int)≤n))=decide ((ax l:Int)≤n):=by
 intro l
 induction l<;>grind [ax]
theorem We {n:Int} (hn:0≤n): ∀ {l:List (Br Tm)},(l.all fun b=>b.kids.all fun x=>decide ((ai x:Int)≤n))=decide ((aM l:Int)≤n):=by
 intro l
 induction l with
 |nil=>rw [aM];simp [hn]
 |cons b l ih=>rw [List.all_cons,ih,Hh hn,aM,tj,Bool.eq_iff_iff];grind
theorem afW (t:Tm):OkT t→ ∀ {k:Nat} {left:Int} (ret:Bool→Option S),Fd k (ai t)→ -4611686018427387904≤left→left<4611686018427387904→jL k t left ret=ret (decide ((ai t:Int)≤left)):=by
 induction t using eS with
 |h t ih1 ih2=>
  intro ht k left ret hk h1 h2
  obtain ⟨q,rfl,hq,hf⟩:=hk.pos' (dW t)
  simp only [jL,P4,cM,aJ,ap hq]
  by_cases h0:left>0
  ·rw [if_pos h0]
   have hQ: ∀y∈t.kids,∀g:Bool→Option S,jL q y (left-1) g=g (decide ((ai y:Int)≤left-1)):=fun y hy g=>ih1 y hy (ht.ki hy) g (hf _ (dv hy)) (by omega) (by omega)
   have hQ': ∀b∈t.sys,∀y∈b.kids,∀g:Bool→Option S,jL q y (left-1) g=g (decide ((ai y:Int)≤left-1)):=fun b hb y hy g=>ih2 b hb y hy ((ht.bi hb).2 y hy) g (hf _ (dJ hb hy)) (by omega) (by omega)
   have:=aaW (Q:=fun y=>decide ((ai y:Int)≤left-1)) hq ret (by omega) (by omega) hQ hQ' ht t.kids [] q rfl (by have:=ht.no.2.2.2.2.2.1;omega)
   simp only [B9,Gf]
   refine Eq.trans this ?_
   rw [Hh (by omega),We (by omega),tk]
   congr 1
   rw [Bool.eq_iff_iff];simp;omega
  grind [dW]
section
variable {hd:Tm→Int→(Bool×Int→Option S)→Option S} {t:Tm}
def ry (hd:Tm→Int→(Bool×Int→Option S)→Option S) (k:Nat) (y:Tm):Prop:= ∀ (c:Int) (g:Bool×Int→Option S),0≤c→c<4611686018427387904→
 ∃v,pm hd k y c g=g (decide ((ao y:Int)≤c),v)∧((ao y:Int)≤c→v=c-ao y)
theorem aaV (hk:Fu k) (ret:Bool×Int→Option S) (rec1:Int→Int→Int→Option S) {v more:Int} {x:Br Tm} (hQ: ∀y∈x.kids,ry hd k y) (hl:x.kids.length<1073741824):
  ∀ (r p:List Tm) (m:Nat) (c:Int),0≤c→c<4611686018427387904→x.kids=p++r→r.length<m→
  ((au r:Int)≤c→lg hd k ret rec1 t v x more m c (p.length:Int)=rec1 (c-au r) (IntKind.wrap .i64 (v+1)) more)∧(¬ (au r:Int)≤c→ ∃w,lg hd k ret rec1 t v x more m c (p.length:Int)=ret (false,w)):=by
 intro r
 induction r with
 |nil=>
  grind [av,lg,wH,af,au]
 |cons y r ih=>
  intro p m c h0 h1 h hm
  obtain ⟨m,rfl,hm'⟩:=av hm
  obtain ⟨e1,e2,e3,e4⟩:=aV h (by omega)
  have hy:=hQ y (by grind)
  obtain ⟨w,hw,hw'⟩:=hy c (fun r1=>(fun r6:Bool×Int=>ab (!r6.1) (ret (false,r6.2)) (lg hd k ret rec1 t v x more m r6.2 (((p++[y]).length:Nat):Int))) (r1.1,r1.2)) h0 h1
  simp only [lg,wH,e1,al,e2,Option.bind_some,ap hk,ti,Gm,aJ,e3,au]
  rw [hw]
  by_cases hs:(ao y:Int)≤c
  ·grind [af]
  grind [al]
theorem aaU (hk:Fu k) (ret:Bool×Int→Option S) {more:Int} (hQ: ∀b∈t.sys,∀y∈b.kids,ry hd k y) (hl:t.sys.length<1073741824) (hl': ∀b∈t.sys,b.kids.length<1073741824):
  ∀ (r p:List (Br Tm)) (m:Nat) (c:Int),0≤c→c<4611686018427387904→t.sys=p++r→r.length<m→
  ((aA r:Int)≤c→iY hd k ret t m c (p.length:Int) more=ret (true,c-aA r))∧(¬ (aA r:Int)≤c→ ∃w,iY hd k ret t m c (p.length:Int) more=ret (false,w)):=by
 intro r
 induction r with
 |nil=>
  grind [av,iY,rX,af,aA]
 |cons x r ih=>
  intro p m c h0 h1 h hm
  obtain ⟨m,rfl,hm'⟩:=av hm
  obtain ⟨e1,e2,e3,e4⟩:=aV h (by omega)
  have hx:x∈t.sys:=by grind
  have hlx:=hl' x hx
  have:=aaV (t:=t) hk ret (iY hd k ret t m) (v:=(p.length:Int)) (more:=more) (hQ x hx) hlx x.kids [] k c h0 h1 rfl (by omega)
  simp only [iY,rX,e1,al,e2,Option.bind_some,aA,lA]
  obtain ⟨t1,t2⟩:=this
  rw [show (((([]:List Tm).length:Nat):Int))=0 from rfl] at t1 t2
  by_cases hs:(au x.kids:Int)≤c
  ·obtain ⟨i1,i2⟩:=ih (p++[x]) m (c-au x.kids) (by omega) (by omega) e4 hm'
   rw [t1 hs,e3]
   refine ⟨fun h=> ?_,fun h=>i2 (by omega)⟩
   rw [i1 (by omega),show c-(au x.kids:Int)-(aA r:Int)=c-((au x.kids+aA r:Nat):Int) by omega]
  ·exact ⟨fun h=>absurd (by omega) hs,fun _=>t2 hs⟩
theorem aaT (hk:Fu k) (ret:Bool×Int→Option S) (hQ: ∀y∈t.kids,ry hd k y) (hQ': ∀b∈t.sys,∀y∈b.kids,ry hd k y) (ht:OkT t):
  ∀ (r p:List Tm) (m:Nat) (c:Int),0≤c→c<4611686018427387904→t.kids=p++r→r.length<m→
  ∃w,nV hd k ret t m c (p.length:Int)=ret (decide (((au r+aA t.sys:Nat):Int)≤c),w)∧(((au r+aA t.sys:Nat):Int)≤c→w=c-((au r+aA t.sys:Nat):Int)):=by
 obtain ⟨o1,o2,o3,o4,o5,o6,o7⟩:=ht.no
 intro r
 induction r with
 |nil=>
  intro p m c h0 h1 h hm
  obtain ⟨m,rfl,hm'⟩:=av hm
  have hs: ∀more:Int,_:=fun more=>aaU hk ret (more:=more) hQ' o7 (fun b hb=>(ht.bi hb).1.2.2) t.sys [] k c h0 h1 rfl (by omega)
  have key: ∀more:Int,∃w,iY hd k ret t k c 0 more=ret (decide (((aA t.sys:Nat):Int)≤c),w)∧(((aA t.sys:Nat):Int)≤c→w=c-((aA t.sys:Nat):Int)):=fun more=>by
   by_cases hc:(aA t.sys:Int)≤c
   ·simp_all
   ·obtain ⟨w,e⟩:=(hs more).2 hc
    grind
  have hz:au []+aA t.sys=aA t.sys:=by rw [au,Nat.zero_add]
  rw [hz]
  simp only [nV,rW,cD h,af]
  cases (t.kind==15) with
  |true=>exact key 1
  |false=>exact key 0
 |cons y r ih=>
  intro p m c h0 h1 h hm
  obtain ⟨m,rfl,hm'⟩:=av hm
  obtain ⟨e1,e2,e3,e4⟩:=aV h (by omega)
  have hy:=hQ y (by grind)
  obtain ⟨w,hw,hw'⟩:=hy c (fun r1=>(fun r3:Bool×Int=>ab (!r3.1) (ret (false,r3.2)) (nV hd k ret t m r3.2 (((p++[y]).length:Nat):Int))) (r1.1,r1.2)) h0 h1
  have hz:au (y::r)+aA t.sys=ao y+au r+aA t.sys:=by rw [au]
  rw [hz]
  simp only [nV,rW,e1,al,e2,Option.bind_some,ap hk,js,ti,Gm,aJ,e3]
  rw [hw]
  by_cases hs:(ao y:Int)≤c
  ·have:=hw' hs
   subst this
   obtain ⟨u,i1,i2⟩:=ih (p++[y]) m (c-ao y) (by omega) (by omega) e4 hm'
   grind [af]
  grind [al,decide_eq_false]
end
theorem afe (t:Tm):OkT t→ ∀ {k:Nat} (c:Int) (ret:Bool×Int→Option S),Fd k (ai t)→0≤c→c<4611686018427387904→
  ∃w,gf k t c ret=ret (decide ((ao t:Int)-1≤c),w)∧((ao t:Int)-1≤c→w=c-((ao t:Int)-1)):=by
 induction t using eS with
 |h t ih1 ih2=>
  intro ht k c ret hk h1 h2
  obtain ⟨q,rfl,hq,hf⟩:=hk.pos' (dW t)
  have cnt: ∀y,(∀ {k:Nat} (c:Int) (ret:Bool×Int→Option S),Fd k (ai y)→0≤c→c<4611686018427387904→ ∃w,gf k y c ret=ret (decide ((ao y:Int)-1≤c),w)∧((ao y:Int)-1≤c→w=c-((ao y:Int)-1)))→
    Fd q (ai y)→ry (S:=S) (gf q) q y:=by
   intro y hy hfy c g h0 h1
   simp only [pm,Gn,aJ,bJ (show-9223372036854775808≤c-1 by omega) (by omega),cM]
   have:=km y
   by_cases hc:c-1≥0
   ·rw [if_pos hc]
    obtain ⟨w,e,e'⟩:=hy (c-1) (fun r1=>g (r1.1,r1.2)) hfy (by omega) (by omega)
    grind
   ·rw [if_neg hc]
    exact ⟨c-1,by grind,fun h=>by omega⟩
  obtain ⟨w,e,e'⟩:=aaT hq ret (fun y hy=>cnt y (fun c ret=>ih1 y hy (ht.ki hy) c ret) (hf _ (dv hy))) (fun b hb y hy=>cnt y (fun c ret=>ih2 b hb y hy ((ht.bi hb).2 y hy) c ret) (hf _ (dJ hb hy))) ht t.kids [] q c h1 h2 rfl (by have:=ht.no.2.2.2.2.2.1;omega)
  grind [gf,Gc,Ab]
theorem afX {t:Tm} (ht:OkT t) (hk:Fd k (ai t)) {most:Int} (h0:0<most) (h1:most<4611686018427387904) (ret:Bool→Option S):yo k t most ret=ret (decide ((ao t:Int)≤most)):=by
 simp only [yo,P6,ap hk.fu,pm,Gn,aJ,bJ (show-9223372036854775808≤most-1 by omega) (by omega),cM]
 rw [if_pos (by omega)]
 obtain ⟨w,e,_⟩:=afe t ht (most-1) (fun r1=>ret (r1.1,r1.2).1) hk (by omega) (by omega)
 grind
def VW (vars dims:Int) (n:Nat):Prop:= -9223372036854775808≤vars∧vars<9223372036854775808∧0≤dims∧dims+n<4611686018427387904
section
variable {hd:Tm→Int→Int→Bool→(Bool→Option S)→Option S} {vars dims:Int} {bd:Bool} {t:Tm}
theorem NF (hv:VW vars dims 1) {v d:Int} (h1:0≤v∧v≤1) (h2:0≤d∧d≤1) (y:Tm) (g:Bool→Option S):td hd k y v d vars dims bd g=hd y (IntKind.wrap .i64 (a6 vars v)) (dims+d) bd g:=by
 obtain ⟨v1,v2,v3,v4⟩:=hv
 simp only [td,P3,aJ,cM,bJ (show-9223372036854775808≤dims+d by omega) (by omega)]
 unfold a6
 split
 ·rw [Int.add_zero]
 ·rfl
theorem aaS (hk:Fu k) (ret:Bool→Option S) (rec1:Int→Int→Option S) (hv:VW vars dims 1) {v more:Int} {x:Br Tm} (hm:more=aH t.kind) (hQ: ∀y∈x.kids,∀g,hd y vars (dims+more) bd g=g (ay bd vars (dims+more) y)) (hl:x.kids.length<1073741824):
  ∀ (r p:List Tm) (m:Nat),x.kids=p++r→r.length<m→mr hd k ret rec1 vars dims bd t v x more m (p.length:Int)=if a8 bd vars dims t.kind r then rec1 (IntKind.wrap .i64 (v+1)) more else ret false:=by
 subst hm
 intro r
 induction r with
 |nil=>
  intro p m h hm
  obtain ⟨m,rfl,hm'⟩:=av hm
  simp only [mr,wI,cD h,af];rfl
 |cons y r ih=>
  intro p m h hm
  obtain ⟨m,rfl,hm'⟩:=av hm
  obtain ⟨e1,e2,e3,e4⟩:=aV h (by omega)
  have hy:=hQ y (by grind)
  have h0:IntKind.wrap .i64 (a6 vars 0)=vars:=by rw [show a6 vars 0=vars by grind [a6]];exact bJ hv.1 hv.2.1
  simp only [mr,wI,e1,al,e2,Option.bind_some,ap hk,aJ,NF hv (show (0:Int)≤0∧(0:Int)≤1 by omega) (eA t.kind),h0,hy,e3,ih (p++[y]) m e4 hm',Of]
  rw [a8]
theorem aaR (hk:Fu k) (ret:Bool→Option S) (hv:VW vars dims 1) {more:Int} (hm:more=aH t.kind) (hQ: ∀b∈t.sys,∀y∈b.kids,∀g,hd y vars (dims+more) bd g=g (ay bd vars (dims+more) y)) (hl:t.sys.length<1073741824) (hl': ∀b∈t.sys,b.kids.length<1073741824):
  ∀ (r p:List (Br Tm)) (m:Nat),t.sys=p++r→r.length<m→iZ hd k ret vars dims bd t m (p.length:Int) more=ret (aI bd vars dims t.kind r):=by
 intro r
 induction r with
 |nil=>
  grind [av,iZ,rZ,af,aI]
 |cons x r ih=>
  intro p m h hml
  obtain ⟨m,rfl,hm'⟩:=av hml
  obtain ⟨e1,e2,e3,e4⟩:=aV h (by omega)
  have hx:x∈t.sys:=by grind
  have hlx:=hl' x hx
  have:=aaS (t:=t) (bd:=bd) hk ret (iZ hd k ret vars dims bd t m) hv (v:=(p.length:Int)) hm (hQ x hx) hlx x.kids [] k rfl (by omega)
  have this:mr hd k ret (iZ hd k ret vars dims bd t m) vars dims bd t (p.length:Int) x more k 0=_:=this
  simp only [iZ,rZ,e1,al,e2,Option.bind_some,this,e3,ih (p++[x]) m e4 hm']
  have ea:aI bd vars dims t.kind (x::r)=(a8 bd vars dims t.kind x.kids&&aI bd vars dims t.kind r):=by cases x;rfl
  grind
theorem aaQ (hk:Fu k) (ret:Bool→Option S) (hv:VW vars dims 1) (hQ: ∀y∈t.kids,∀v d,0≤v∧v≤1→0≤d∧d≤1→ ∀g,hd y (IntKind.wrap .i64 (a6 vars v)) (dims+d) bd g=g (ay bd (a6 vars v) (dims+d) y)) (hQ': ∀b∈t.sys,∀y∈b.kids,∀g,hd y vars (dims+aH t.kind) bd g=g (ay bd vars (dims+aH t.kind) y)) (ht:OkT t):
  ∀ (r p:List Tm) (m:Nat),t.kids=p++r→r.length<m→nW hd k ret vars dims bd t m (p.length:Int)=ret (aY bd vars dims t.kind p.length r&&aI bd vars dims t.kind t.sys):=by
 obtain ⟨o1,o2,o3,o4,o5,o6,o7⟩:=ht.no
 intro r
 induction r with
 |nil=>
  intro p m h hm
  obtain ⟨m,rfl,hm'⟩:=av hm
  have hs:iZ hd k ret vars dims bd t k 0 (aH t.kind)=_:=aaR hk ret hv rfl hQ' o7 (fun b hb=>(ht.bi hb).1.2.2) t.sys [] k rfl (by omega)
  grind [nW,rY,aY,aH,gr]
 |cons y r ih=>
  intro p m h hm
  obtain ⟨m,rfl,hm'⟩:=av hm
  obtain ⟨e1,e2,e3,e4⟩:=aV h (by omega)
  have b1:=kJ t.kind p.length
  have b2:=eo t.kind p.length
  have hy:=hQ y (by grind) (be t.kind p.length) (aR t.kind p.length) b1 b2
  simp only [nW,rY,e1,al,e2,Option.bind_some,ap hk,js,aJ,NF hv b1 b2,hy,e3,ih (p++[y]) m e4 hm',Og]
  grind [aY]
end
theorem vv (bd:Bool) (vars dims:Int) (t:Tm):ay bd vars dims t=(!(bd&&decide (dims>24))&&(ca vars dims t&&(aY bd vars dims t.kind 0 t.kids&&aI bd vars dims t.kind t.sys))):=by cases t;rfl
theorem ahs {vars v:Int} (h:0≤v∧v≤1):vars≤a6 vars v∧a6 vars v≤vars+1:=by grind [a6]
theorem US {bd:Bool} (t:Tm):OkT t→ ∀ {V W D:Int},W<0→9223372036854775808≤V→ay bd W D t=ay bd V D t:=by
 induction t using dr with
 |h kd n nm r ks sys ih1 ih2=>
  intro ht V W D hW hV
  have ho:=ht
  rw [OkT] at ht
  obtain ⟨o1,o2,o3,o4,o5,o6,o7⟩:=ht.1
  have hk: ∀ {l:List Tm} {i:Nat},(∀x∈l,OkT x→ ∀ {V W D:Int},W<0→9223372036854775808≤V→ay bd W D x=ay bd V D x)→aL l→aY bd W D kd i l=aY bd V D kd i l:=by
   intro l
   induction l with
   |nil=>intro i _ _;rw [aY,aY]
   |cons t l ih=>
    intro i h hl
    rw [aL] at hl
    have hb:=kJ kd i
    rw [aY,aY,ih (fun x hx=>h x (by simp [hx])) hl.2,h t (by simp) hl.1 (W:=a6 W (be kd i)) (V:=a6 V (be kd i)) (by unfold a6;split<;>omega) (by unfold a6;split<;>omega)]
  have hm: ∀ {l:List Tm},(∀x∈l,OkT x→ ∀ {V W D:Int},W<0→9223372036854775808≤V→ay bd W D x=ay bd V D x)→aL l→a8 bd W D kd l=a8 bd V D kd l:=by
   intro l
   induction l with
   |nil=>intro _ _;rw [a8,a8]
   |cons t l ih=>
    intro h hl
    rw [aL] at hl
    rw [a8,a8,ih (fun x hx=>h x (by simp [hx])) hl.2,h t (by simp) hl.1 hW hV]
  have hs: ∀ {l:List (Br Tm)},(∀b∈l,∀x∈b.kids,OkT x→ ∀ {V W D:Int},W<0→9223372036854775808≤V→ay bd W D x=ay bd V D x)→aU l→aI bd W D kd l=aI bd V D kd l:=by
   intro l
   induction l with
   |nil=>intro _ _;rw [aI,aI]
   |cons b l ih=>
    intro h hl
    obtain ⟨f,ks'⟩:=b
    rw [aU,dP] at hl
    rw [aI,aI,cX,cX,ih (fun b hb=>h b (by simp [hb])) hl.2,hm (l:=ks') (h ⟨f,ks'⟩ (by simp)) hl.1.2]
  have hw:ca W D (.mk kd n nm r ks sys)=ca V D (.mk kd n nm r ks sys):=by
   unfold ca
   have:decide (W<0∨n<W)=decide (V<0∨n<V):=by
    have hn:n<9223372036854775808:=by unfold aK at o2;omega
    rw [decide_eq_true (.inl hW),decide_eq_true (.inr (by omega))]
   dsimp only
   rw [this]
  rw [ay,ay,hw,hk ih1 ht.2.1,hs ih2 ht.2.2]
theorem NG (t:Tm):OkT t→ ∀ {k:Nat} {vars dims:Int} {bd:Bool} (ret:Bool→Option S),Fd k (ai t)→VW vars dims (ai t)→gc k t vars dims bd ret=ret (ay bd vars dims t):=by
 induction t using eS with
 |h t ih1 ih2=>
  intro ht k vars dims bd ret hk hv
  obtain ⟨q,rfl,hq,hf⟩:=hk.pos' (dW t)
  have hp:=dW t
  have hv':=hv
  unfold VW at hv'
  have hv1:VW vars dims 1:=by unfold VW;omega
  have hm:=eA t.kind
  have hQ: ∀y∈t.kids,∀v d,0≤v∧v≤1→0≤d∧d≤1→ ∀g:Bool→Option S,gc q y (IntKind.wrap .i64 (a6 vars v)) (dims+d) bd g=g (ay bd (a6 vars v) (dims+d) y):=fun y hy v d h1 h2 g=>by
   have hd:=dv hy
   have hvb:=ahs (vars:=vars) h1
   by_cases hlt:a6 vars v<9223372036854775808
   ·rw [bJ (by omega) hlt]
    exact ih1 y hy (ht.ki hy) g (hf _ (dv hy)) (by unfold VW;omega)
   ·have e:a6 vars v=9223372036854775808:=by omega
    rw [e,show IntKind.wrap .i64 9223372036854775808= -9223372036854775808 from by decide,ih1 y hy (ht.ki hy) g (hf _ (dv hy)) (by unfold VW;omega),US y (ht.ki hy) (by omega) (Int.le_refl _)]
  have hQ': ∀b∈t.sys,∀y∈b.kids,∀g:Bool→Option S,gc q y vars (dims+aH t.kind) bd g=g (ay bd vars (dims+aH t.kind) y):=fun b hb y hy g=>ih2 b hb y hy ((ht.bi hb).2 y hy) g (hf _ (dJ hb hy)) (by
   have:=dJ hb hy;unfold VW;omega)
  have:=aaQ (bd:=bd) hq ret hv1 hQ hQ' ht t.kids [] q rfl (by have:=ht.no.2.2.2.2.2.1;omega)
  have this:nW (gc q) q ret vars dims bd t q 0=_:=this
  simp only [gc,P2,aJ,ap hq,afP hq ht (show 0≤dims by omega) (show dims<9223372036854775808 by omega),ym,Ge,this]
  rw [vv]
  cases bd with
  |true=>
   rw [al,cM,Bool.true_and]
   by_cases h24:dims>24
   ·grind
   ·rw [if_neg h24,decide_eq_false h24]
    cases ca vars dims t<;>rfl
  |false=>
   rw [af]
   cases ca vars dims t<;>rfl
def VD (vars dims:Int) (n:Nat):Prop:= -4611686018427387904≤vars∧vars+n<4611686018427387904∧0≤dims∧dims+n<4611686018427387904
theorem ae9 (t:Tm) (ht:OkT t) {k:Nat} {vars dims:Int} {bd:Bool} (ret:Bool→Option S) (hk:Fd k (ai t)) (hv:VD vars dims (ai t)):gc k t vars dims bd ret=ret (ay bd vars dims t):=
 NG t ht ret hk (by obtain ⟨v1,v2,v3,v4⟩:=hv;exact ⟨by omega,by omega,v3,v4⟩)
theorem N3 {t:Tm} (ht:OkT t) (hk:Fd k (ai t)) (ret:Int→Option S):th k t ret=ret (if ai t>200 then 62 else if ao t>20000 then 221 else 0):=by
 simp only [th,P5,aJ,afW t ht _ hk (show (-4611686018427387904:Int)≤200 by omega) (show (200:Int)<4611686018427387904 by omega),ap hk.fu,afX ht hk (show (0:Int)<20000 by omega) (show (20000:Int)<4611686018427387904 by omega)]
 by_cases h1:ai t>200
 ·rw [if_pos h1,decide_eq_false (by omega)];rfl
 ·rw [if_neg h1,decide_eq_true (by omega),Bool.not_true,af]
  by_cases h2:ao t>20000
  ·rw [if_pos h2,decide_eq_false (by omega)];rfl
  ·rw [if_neg h2,decide_eq_true (by omega)];rfl
theorem fX {t:Tm} (ht:OkT t) (hk:Fd k (ai t)) (hdep:ai t<1099511627776) (ret:Int→Option S):gb k t ret=ret (bQ t):=by
 simp only [gb,PX,aJ,ap hk.fu,N3 ht hk,ae9 t ht _ hk (show VD (-1) 24 (ai t) by unfold VD;omega),c_]
 unfold bQ
 by_cases h1:ai t>200
 ·rw [if_pos h1,if_pos h1];rfl
 ·rw [if_neg h1,if_neg h1]
  by_cases h2:ao t>20000
  ·rw [if_pos h2,if_pos h2];rfl
  ·rw [if_neg h2,if_neg h2,decide_eq_true rfl,Bool.not_true,af]
   cases ay false (-1) 24 t<;>rfl
end Go.Proofs.YtgajalidbabccaaGreatDoor
