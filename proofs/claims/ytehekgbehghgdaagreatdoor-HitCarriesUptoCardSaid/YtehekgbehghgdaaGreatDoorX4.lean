/- Part 4 of a proof: the sources, with their names and remarks, lie in wip/. -/
import Derived.Test.YtehekgbehghgdaaGreatDoorX3
namespace Go.Proofs.YtehekgbehghgdaaGreatDoor
open Go PI
set_option linter.unusedVariables false
set_option maxRecDepth 100000
noncomputable section
def Cq {S:Type} (hd:fI S):Rw S:=ag rd xn fun t most κ=>hd t most (aA κ)
def kB {S:Type} (hd:fI S) (k:Nat):Fx S:=fp 119 [(31,Cq hd)] [(5,aI [1,2,5,6] [(2,6)],ao 6 23),(9,aI [1,2,5,7] [(2,6)],ao 7 47),(15,aI [1,2,5,7,8] [(2,6)],ao 15 14639)] k Tryz.f31 0
def BR (t:Tm) (most:Int) (v5 i6:Int):St UU:=⟨[(1,(iI most)),(2,(pt 2)),(5,(iI v5)),(6,(iI i6))],[(2,bT t)],[],[]⟩
def rz (t:Tm) (most:Int) (v5' i7:Int):St UU:=⟨[(1,(iI most)),(2,(pt 2)),(5,(iI v5')),(7,(iI i7))],[(2,bT t)],[],[]⟩
def H1 (t:Tm) (most i7:Int) (v5'' v8:Int):St UU:=⟨[(1,(iI most)),(2,(pt 2)),(5,(iI v5'')),(7,(iI i7)),(8,(iI v8))],[(2,bT t)],[],[]⟩
section
variable {S:Type} (hd:fI S) (k:Nat) (t:Tm) (most:Int) (κ:Out UU→Option S)
theorem SG (i7 κ1): ∀n v5'' v8,(kB hd k).lp κ 15 [κ1] n (H1 t most i7 v5'' v8)=iY hd k (aA κ) (fun v5' i7=>κ1 (rz t most v5' i7)) t most i7 n v5'' v8:=aE (uf hd k (aA κ) t most i7 (fun v5' i7=>κ1 (rz t most v5' i7))) rfl (fun _=>rfl) fun r v5'' v8=>by kernel_rfl
theorem SF: ∀n v5' i7,(kB hd k).lp κ 9 [] n (rz t most v5' i7)=gQ hd k (aA κ) t most n v5' i7:=aE (fun own=>pH hd k (aA κ) t most (fun i7 v5'' v8=>iY hd k (aA κ) own t most i7 k v5'' v8) own) rfl (fun _=>rfl) fun r v5' i7=>Eq.trans (b:=pH hd k (aA κ) t most (fun i7 v5'' v8=>(kB hd k).lp κ 15 [r] k (H1 t most i7 v5'' v8)) (fun v5' i7=>r (rz t most v5' i7)) v5' i7) (by kernel_rfl) (by simp only [SG])
theorem SE: ∀n v5 i6,(kB hd k).lp κ 5 [] n (BR t most v5 i6)=lH hd k (aA κ) t most n v5 i6:=aE (fun own=>pG hd k (aA κ) t most (fun v5' i7=>gQ hd k (aA κ) t most k v5' i7) own) rfl (fun _=>rfl) fun r v5 i6=>Eq.trans (b:=pG hd k (aA κ) t most (fun v5' i7=>(kB hd k).lp κ 9 [] k (rz t most v5' i7)) (fun v5 i6=>r (BR t most v5 i6)) v5 i6) (by kernel_rfl) (by simp only [SF])
end
theorem G3 {S:Type} (o:Obj) (ho:af o): ∀k:Nat,Tl o 31 (Cq (fi k:fI S))
 |0=>dv fun t most κ x h=>by cases h
 |k+1=>ah (kB (fi k) k) ⟨G3 o ho k,trivial⟩ Tryz.func31 (by kernel_rfl) fun t most κ x h=>Eq.trans (b:=Ev (fi k) k (aA κ) (fun v5 i6=>(kB (fi k) k).lp κ 5 [] k (BR t most v5 i6)) t most) (by kernel_rfl) (Eq.trans (by simp only [SE];rfl) h)
def Ka {S:Type} (k:Nat):Rw S:=ag dp xn fun t κ=>aa k (Al k t) (av κ)
def Qb {S:Type} (k:Nat):Fx S:=fp 6 [(31,Cq (fi k))] [] k Tryz.f21 0
theorem VS {S:Type} (o:Obj) (ho:af o) (k:Nat):Tl o 21 (Ka k:Rw S):=ah (Qb k) ⟨G3 o ho k,trivial⟩ Tryz.func21 (by kernel_rfl) fun t κ x h=>Eq.trans (by kernel_rfl) (aj h)
def Lf {S:Type} (k:Nat):Rw S:=ag ws xn fun kind kids κ=>aa k (dI k kind kids) (Cp κ)
def Rh {S:Type} (k:Nat):Fx S:=fx 8 (fun _=>[]) (fun _=>false) [] [] k Tryz.f74 true [] 0
theorem WV {S:Type} (o:Obj) (ho:af o) (k:Nat):Tl o 74 (Lf k:Rw S):=ah (Rh k) trivial Tryz.func74 (by kernel_rfl) fun kind kids κ x h=>Eq.trans (by kernel_rfl) (aj h)
def g5 {S:Type} (k:Nat):Rw S:=ag Hr xn fun kind kid κ=>aa k (fj k kind kid) (jh κ)
def RE {S:Type} (k:Nat):Fx S:=fp 26 [] [] k Tryz.f255 0
theorem iJ {S:Type} (o:Obj) (ho:af o) (k:Nat):Tl o 255 (g5 k:Rw S):=ah (RE k) trivial Tryz.func255 (by kernel_rfl) fun kind kid κ x h=>Eq.trans (by kernel_rfl) (aj h)
def sF {S:Type} (hd:cS S):Rw S:=ag rd xn fun t left κ=>hd t left (av κ)
def LM {S:Type} (hd:cS S) (k:Nat):Rw S:=ag wt bU fun a_k p p' c0 κ=>aa k (qL hd k a_k p p' c0) (dZ c0 κ)
def RV {S:Type} (hd:cS S) (k:Nat):Fx S:=fp 12 [(183,sF hd)] [] k Tryz.f280 1
theorem Xu {S:Type} (o:Obj) (ho:af o) (hd:cS S) (Hd:Tl o 183 (sF hd)) (k:Nat):Tl o 280 (LM hd k:Rw S):=ah (RV hd k) ⟨Hd,trivial⟩ Tryz.func280 (by kernel_rfl) fun a_k p p' c0 κ x h=>Eq.trans (by kernel_rfl) (aj h)
def LV {S:Type} (hd:cS S) (k:Nat):Rw S:=ag Zf bU fun t c0 κ=>aa k (Av hd k t c0) (dZ c0 κ)
def kN {S:Type} (hd:cS S) (k:Nat):Fx S:=fp 60 [(255,g5 k),(280,LM hd k)] [(2,aI [1,2,15,16,17] [(2,6),(1000000,1)],ao 4 5),(12,aI [1,9,40,41,42] [(1000000,1)],ao 7 47),(15,aI [1,9,40,41,42,47,48,49] [(1000000,1)],ao 15 13103)] k Tryz.f186 1
def B6 (c0:Int) (t:Tm) (v17:Int):St UU:=⟨[(1,(.func 280 [] [(pt 1000000)])),(2,(pt 2)),(15,(sT t.kids)),(16,(.int .i64 (t.kids.length:Int))),(17,(iI v17))],[(2,bT t),(1000000,bI c0)],[],[]⟩
def rV (c0:Int) (t:Tm) (v42 more9:Int):St UU:=⟨[(1,(.func 280 [] [(pt 1000000)])),(9,(iI more9)),(40,(sB t.sys)),(41,(.int .i64 (t.sys.length:Int))),(42,(iI v42))],[(1000000,bI c0)],[],[]⟩
def Jh (c0:Int) (t:Tm) (v42:Int) (x4:(Br Tm)) (more9:Int) (v49:Int):St UU:=⟨[(1,(.func 280 [] [(pt 1000000)])),(9,(iI more9)),(40,(sB t.sys)),(41,(.int .i64 (t.sys.length:Int))),(42,(iI v42)),(47,(sT x4.kids)),(48,(.int .i64 (x4.kids.length:Int))),(49,(iI v49))],[(1000000,bI c0)],[],[]⟩
section
variable {S:Type} (hd:cS S) (k:Nat) (t:Tm) (c0:Int) (κ:Out UU→Option S)
theorem Uy (v42 x4 more9 κ1): ∀n v49,(kN hd k).lp κ 15 [κ1] n (Jh c0 t v42 x4 more9 v49)=lP hd k (dZ c0 κ) (fun v42 more9=>κ1 (rV c0 t v42 more9)) c0 t v42 x4 more9 n v49:=ca (uz hd k (dZ c0 κ) c0 t v42 x4 more9 (fun v42 more9=>κ1 (rV c0 t v42 more9))) rfl (fun _=>rfl) fun r v49=>by kernel_rfl
theorem Ux: ∀n v42 more9,(kN hd k).lp κ 12 [] n (rV c0 t v42 more9)=gS hd k (dZ c0 κ) c0 t n v42 more9:=aE (fun own=>p4 hd k (dZ c0 κ) c0 t (fun v42 x4 more9 v49=>lP hd k (dZ c0 κ) own c0 t v42 x4 more9 k v49) own) rfl (fun _=>rfl) fun r v42 more9=>Eq.trans (b:=p4 hd k (dZ c0 κ) c0 t (fun v42 x4 more9 v49=>(kN hd k).lp κ 15 [r] k (Jh c0 t v42 x4 more9 v49)) (fun v42 more9=>r (rV c0 t v42 more9)) v42 more9) (by kernel_rfl) (by simp only [Uy])
theorem Uw: ∀n v17,(kN hd k).lp κ 2 [] n (B6 c0 t v17)=n_ hd k (dZ c0 κ) c0 t n v17:=ca (fun own=>pZ hd k (dZ c0 κ) c0 t (fun v42 more9=>gS hd k (dZ c0 κ) c0 t k v42 more9) own) rfl (fun _=>rfl) fun r v17=>Eq.trans (b:=pZ hd k (dZ c0 κ) c0 t (fun v42 more9=>(kN hd k).lp κ 12 [] k (rV c0 t v42 more9)) (fun v17=>r (B6 c0 t v17)) v17) (by kernel_rfl) (by simp only [Ux])
end
theorem XC {S:Type} (o:Obj) (ho:af o) (hd:cS S) (Hd:Tl o 183 (sF hd)) (k:Nat):Tl o 186 (LV hd k:Rw S):=ah (kN hd k) ⟨iJ o ho k,Xu o ho hd Hd k,trivial⟩ Tryz.func186 (by kernel_rfl) fun t c0 κ x h=>Eq.trans (b:=ER hd k (dZ c0 κ) (fun v17=>(kN hd k).lp κ 2 [] k (B6 c0 t v17)) t c0) (by kernel_rfl) (Eq.trans (by simp only [Uw];rfl) (aj h))
def RN {S:Type} (hd:cS S) (k:Nat):Fx S:=fp 12 [(186,LV hd k)] [] k Tryz.f183 0
theorem Hf {S:Type} (o:Obj) (ho:af o): ∀k:Nat,Tl o 183 (sF (gI k:cS S))
 |0=>dv fun t left κ x h=>by cases h
 |k+1=>ah (RN (gI k) k) ⟨XC o ho (gI k) (Hf o ho k) k,trivial⟩ Tryz.func183 (by kernel_rfl) fun t left κ x h=>Eq.trans (by kernel_rfl) h
def xE {S:Type} (hd:cR S):Rw S:=ag Zi P9 fun t c1 κ=>hd t c1 (eZ κ)
def C1 {S:Type} (hd:cR S) (k:Nat):Rw S:=ag Zt agm fun t c0 κ=>aa k (mZ hd k t c0) (qX6 κ)
def Sl {S:Type} (hd:cR S) (k:Nat):Fx S:=fp 14 [(186,xE hd)] [] k Tryz.f281 2
theorem GH {S:Type} (o:Obj) (ho:af o) (hd:cR S) (Hd:Tl o 186 (xE hd)) (k:Nat):Tl o 281 (C1 hd k:Rw S):=ah (Sl hd k) ⟨Hd,trivial⟩ Tryz.func281 (by kernel_rfl) fun t c0 κ x h=>Eq.trans (by kernel_rfl) (aj h)
def Mg {S:Type} (hd:cR S) (k:Nat):Rw S:=ag wt P9 fun a_k p p' c1 κ=>aa k (qM hd k a_k p p' c1) (eZ κ)
def Ss {S:Type} (hd:cR S) (k:Nat):Fx S:=fp 11 [(281,C1 hd k)] [] k Tryz.f282 2
theorem XW {S:Type} (o:Obj) (ho:af o) (hd:cR S) (Hd:Tl o 186 (xE hd)) (k:Nat):Tl o 282 (Mg hd k:Rw S):=ah (Ss hd k) ⟨GH o ho hd Hd k,trivial⟩ Tryz.func282 (by kernel_rfl) fun a_k p p' c1 κ x h=>Eq.trans (by kernel_rfl) (aj h)
def kO {S:Type} (hd:cR S) (k:Nat):Fx S:=fp 60 [(255,g5 k),(282,Mg hd k)] [(2,aI [1,2,15,16,17] [(2,6),(1000000,1),(1000001,1)],ao 4 5),(12,aI [1,9,40,41,42] [(1000000,1),(1000001,1)],ao 7 47),(15,aI [1,9,40,41,42,47,48,49] [(1000000,1),(1000001,1)],ao 15 13103)] k Tryz.f186 2
def B7 (t:Tm) (e1_0 v17:Int):St UU:=⟨[(1,(.func 282 [] [(pt 1000000)])),(2,(pt 2)),(15,(sT t.kids)),(16,(.int .i64 (t.kids.length:Int))),(17,(iI v17))],[(2,bT t),(1000000,.cells [(.func 281 [] [(pt 1000001),(pt 1000000)])]),(1000001,bI e1_0)],[],[]⟩
def rW (t:Tm) (e1_0' v42 more9:Int):St UU:=⟨[(1,(.func 282 [] [(pt 1000000)])),(9,(iI more9)),(40,(sB t.sys)),(41,(.int .i64 (t.sys.length:Int))),(42,(iI v42))],[(1000000,.cells [(.func 281 [] [(pt 1000001),(pt 1000000)])]),(1000001,bI e1_0')],[],[]⟩
def Jj (t:Tm) (v42:Int) (x4:(Br Tm)) (more9:Int) (e1_0'' v49:Int):St UU:=⟨[(1,(.func 282 [] [(pt 1000000)])),(9,(iI more9)),(40,(sB t.sys)),(41,(.int .i64 (t.sys.length:Int))),(42,(iI v42)),(47,(sT x4.kids)),(48,(.int .i64 (x4.kids.length:Int))),(49,(iI v49))],[(1000000,.cells [(.func 281 [] [(pt 1000001),(pt 1000000)])]),(1000001,bI e1_0'')],[],[]⟩
section
variable {S:Type} (hd:cR S) (k:Nat) (t:Tm) (c1:Int) (κ:Out UU→Option S)
theorem UC (v42 x4 more9 κ1): ∀n e1_0'' v49,(kO hd k).lp κ 15 [κ1] n (Jj t v42 x4 more9 e1_0'' v49)=jb hd k (eZ κ) (fun e1_0' v42 more9=>κ1 (rW t e1_0' v42 more9)) t v42 x4 more9 n e1_0'' v49:=aE (ux hd k (eZ κ) t v42 x4 more9 (fun e1_0' v42 more9=>κ1 (rW t e1_0' v42 more9))) rfl (fun _=>rfl) fun r e1_0'' v49=>by kernel_rfl
theorem UB: ∀n e1_0' v42 more9,(kO hd k).lp κ 12 [] n (rW t e1_0' v42 more9)=f7 hd k (eZ κ) t n e1_0' v42 more9:=d_ (fun own=>pW hd k (eZ κ) t (fun v42 x4 more9 e1_0'' v49=>jb hd k (eZ κ) own t v42 x4 more9 k e1_0'' v49) own) rfl (fun _=>rfl) fun r e1_0' v42 more9=>Eq.trans (b:=pW hd k (eZ κ) t (fun v42 x4 more9 e1_0'' v49=>(kO hd k).lp κ 15 [r] k (Jj t v42 x4 more9 e1_0'' v49)) (fun e1_0' v42 more9=>r (rW t e1_0' v42 more9)) e1_0' v42 more9) (by kernel_rfl) (by simp only [UC])
theorem UA: ∀n e1_0 v17,(kO hd k).lp κ 2 [] n (B7 t e1_0 v17)=lN hd k (eZ κ) t n e1_0 v17:=aE (fun own=>pV hd k (eZ κ) t (fun e1_0' v42 more9=>f7 hd k (eZ κ) t k e1_0' v42 more9) own) rfl (fun _=>rfl) fun r e1_0 v17=>Eq.trans (b:=pV hd k (eZ κ) t (fun e1_0' v42 more9=>(kO hd k).lp κ 12 [] k (rW t e1_0' v42 more9)) (fun e1_0 v17=>r (B7 t e1_0 v17)) e1_0 v17) (by kernel_rfl) (by simp only [UB])
end
theorem Hg {S:Type} (o:Obj) (ho:af o): ∀k:Nat,Tl o 186 (xE (ep k:cR S))
 |0=>dv fun t c1 κ x h=>by cases h
 |k+1=>ah (kO (ep k) k) ⟨iJ o ho k,XW o ho (ep k) (Hg o ho k) k,trivial⟩ Tryz.func186 (by kernel_rfl) fun t c1 κ x h=>Eq.trans (b:=EP (ep k) k (eZ κ) (fun e1_0 v17=>(kO (ep k) k).lp κ 2 [] k (B7 t e1_0 v17)) t c1) (by kernel_rfl) (Eq.trans (by simp only [UA];rfl) h)
def Kb {S:Type} (k:Nat):Rw S:=ag rd xn fun t most κ=>aa k (vK k t most) (av κ)
def Qc {S:Type} (k:Nat):Fx S:=fp 10 [(281,C1 (ep k) k)] [] k Tryz.f184 0
theorem VT {S:Type} (o:Obj) (ho:af o) (k:Nat):Tl o 184 (Kb k:Rw S):=ah (Qc k) ⟨GH o ho (ep k) (Hg o ho k) k,trivial⟩ Tryz.func184 (by kernel_rfl) fun t most κ x h=>Eq.trans (by kernel_rfl) (aj h)
def Ki {S:Type} (k:Nat):Rw S:=ag dp xn fun t κ=>aa k (vJ k t) (aA κ)
def Qj {S:Type} (k:Nat):Fx S:=fp 11 [(183,sF (gI k)),(184,Kb k)] [] k Tryz.f110 0
theorem V1 {S:Type} (o:Obj) (ho:af o) (k:Nat):Tl o 110 (Ki k:Rw S):=ah (Qj k) ⟨Hf o ho k,VT o ho k,trivial⟩ Tryz.func110 (by kernel_rfl) fun t κ x h=>Eq.trans (by kernel_rfl) (aj h)
def Kq {S:Type} (k:Nat):Rw S:=ag eS xn fun kind κ=>aa k (vG k kind) (aA κ)
def Qp {S:Type} (k:Nat):Fx S:=fp 38 [] [] k Tryz.f96 0
theorem V8 {S:Type} (o:Obj) (ho:af o) (k:Nat):Tl o 96 (Kq k:Rw S):=ah (Qp k) trivial Tryz.func96 (by kernel_rfl) fun kind κ x h=>Eq.trans (by kernel_rfl) (aj h)
def Kx {S:Type} (k:Nat):Rw S:=ag eS xn fun kind κ=>aa k (jI k kind) (aA κ)
def Qx {S:Type} (k:Nat):Fx S:=fp 10 [] [] k Tryz.f283 0
theorem We {S:Type} (o:Obj) (ho:af o) (k:Nat):Tl o 283 (Kx k:Rw S):=ah (Qx k) trivial Tryz.func283 (by kernel_rfl) fun kind κ x h=>Eq.trans (by kernel_rfl) (aj h)
def KH {S:Type} (k:Nat):Rw S:=ag Hn xn fun s κ=>aa k (vI k s) (av κ)
def oW {S:Type} (k:Nat):Fx S:=fp 49 [] [(2,aI [0,7,8] [],ao 4 5),(1000006,aI [0,3,4,5,7,8] [],ao 12 3685)] k Tryz.f284 0
def rF (s:ByteArray) (v8:Int):St UU:=⟨[(0,(.str s)),(7,(.int .i64 (s.size:Int))),(8,(iI v8))],[],[],[]⟩
def Il (s:ByteArray) (v8:Int) (x1:UInt8) (letter5:Bool):St UU:=⟨[(0,(.str s)),(3,(iI v8)),(4,(.int .u8 (x1.toNat:Int))),(5,(.bool letter5)),(7,(.int .i64 (s.size:Int))),(8,(iI v8))],[],[],[]⟩
section
variable {S:Type} (k:Nat) (s:ByteArray) (κ:Out UU→Option S)
theorem S_ (v8 x1 κ0): ∀n letter5,(oW k).jn κ 1000006 [κ0] n (Il s v8 x1 letter5)=wH k (av κ) (fun v8=>κ0 (rF s v8)) s v8 x1 n letter5:=Ba (zL k (av κ) s v8 x1 (fun v8=>κ0 (rF s v8))) rfl (fun _=>rfl) (fun letter5=>by kernel_rfl)
theorem S9: ∀n v8,(oW k).lp κ 2 [] n (rF s v8)=lQ k (av κ) s n v8:=ca (fun own=>p5 k (av κ) s (fun v8 x1 letter5=>wH k (av κ) own s v8 x1 k letter5) own) rfl (fun _=>rfl) fun r v8=>Eq.trans (b:=p5 k (av κ) s (fun v8 x1 letter5=>(oW k).jn κ 1000006 [r] k (Il s v8 x1 letter5)) (fun v8=>r (rF s v8)) v8) (by kernel_rfl) (by simp only [S_])
end
theorem Wp {S:Type} (o:Obj) (ho:af o) (k:Nat):Tl o 284 (KH k:Rw S):=ah (oW k) trivial Tryz.func284 (by kernel_rfl) fun s κ x h=>Eq.trans (b:=ES k (av κ) (fun v8=>(oW k).lp κ 2 [] k (rF s v8)) s) (by kernel_rfl) (Eq.trans (by simp only [S9];rfl) (aj h))
def KQ {S:Type} (k:Nat):Rw S:=ag re xn fun s κ=>aa k (mN k s) (av κ)
def QO {S:Type} (k:Nat):Fx S:=fp 6 [] [] k Tryz.f353 0
theorem Wx {S:Type} (o:Obj) (ho:af o) (k:Nat):Tl o 353 (KQ k:Rw S):=ah (QO k) trivial Tryz.func353 (by kernel_rfl) fun s κ x h=>Eq.trans (by kernel_rfl) (aj h)
def CE {S:Type} (k:Nat):Rw S:=ag lm xn fun c κ=>aa k (qb k c) (av κ)
def QU {S:Type} (k:Nat):Fx S:=fp 11 [(353,KQ k)] [] k Tryz.f304 0
theorem Gn {S:Type} (o:Obj) (ho:af o) (k:Nat):Tl o 304 (CE k:Rw S):=ah (QU k) ⟨Wx o ho k,trivial⟩ Tryz.func304 (by kernel_rfl) fun c κ x h=>Eq.trans (by kernel_rfl) (aj h)
def xq {S:Type} (k:Nat):Rw S:=ag rf xn fun a b κ=>aa k (mD k a b) (J9 κ)
def Q1 {S:Type} (k:Nat):Fx S:=fp 16 [] [] k Tryz.f355 0
theorem AG {S:Type} (o:Obj) (ho:af o) (k:Nat):Tl o 355 (xq k:Rw S):=ah (Q1 k) trivial Tryz.func355 (by kernel_rfl) fun a b κ x h=>Eq.trans (by kernel_rfl) (aj h)
def K4 {S:Type} (k:Nat):Rw S:=ag rf xn fun a b κ=>aa k (uK k a b) (av κ)
def Q5 {S:Type} (k:Nat):Fx S:=fp 10 [(355,xq k)] [] k Tryz.f309 0
theorem WJ {S:Type} (o:Obj) (ho:af o) (k:Nat):Tl o 309 (K4 k:Rw S):=ah (Q5 k) ⟨AG o ho k,trivial⟩ Tryz.func309 (by kernel_rfl) fun a b κ x h=>Eq.trans (by kernel_rfl) (aj h)
def K8 {S:Type} (k:Nat):Rw S:=ag Be td fun d c0 κ=>aa k (uM k d c0) (J_ c0 κ)
def Q_ {S:Type} (k:Nat):Fx S:=fp 12 [(309,K4 k)] [] k Tryz.f308 1
theorem WN {S:Type} (o:Obj) (ho:af o) (k:Nat):Tl o 308 (K8 k:Rw S):=ah (Q_ k) ⟨WJ o ho k,trivial⟩ Tryz.func308 (by kernel_rfl) fun d c0 κ x h=>Eq.trans (by kernel_rfl) (aj h)
def Lg {S:Type} (k:Nat):Rw S:=ag Ho td fun s c0 κ=>aa k (Aq k s c0) (xk c0 κ)
def y6 {S:Type} (k:Nat):Fx S:=fp 19 [(308,K8 k)] [(2,aI [0,1,7,8] [(1000000,2)],ao 4 5)] k Tryz.f354 1
def IY (c0:Cl) (s:List Cl) (v8:Int):St UU:=⟨[(0,(sC s)),(1,(.func 308 [] [(pt 1000000)])),(7,(.int .i64 (s.length:Int))),(8,(iI v8))],[(1000000,bC c0)],[],[]⟩
section
variable {S:Type} (k:Nat) (s:List Cl) (c0:Cl) (κ:Out UU→Option S)
theorem T5: ∀n v8,(y6 k).lp κ 2 [] n (IY c0 s v8)=n5 k (xk c0 κ) c0 s n v8:=ca (ur k (xk c0 κ) c0 s) rfl (fun _=>rfl) fun r v8=>by kernel_rfl
end
theorem WW {S:Type} (o:Obj) (ho:af o) (k:Nat):Tl o 354 (Lg k:Rw S):=ah (y6 k) ⟨WN o ho k,trivial⟩ Tryz.func354 (by kernel_rfl) fun s c0 κ x h=>Eq.trans (b:=EJ k (xk c0 κ) (fun v8=>(y6 k).lp κ 2 [] k (IY c0 s v8)) s c0) (by kernel_rfl) (Eq.trans (by simp only [T5];rfl) (aj h))
def Lp {S:Type} (k:Nat):Rw S:=ag Ho td fun s c0 κ=>aa k (Ao k s c0) (J_ c0 κ)
def Rm {S:Type} (k:Nat):Fx S:=fp 9 [(354,Lg k)] [] k Tryz.f307 1
theorem W9 {S:Type} (o:Obj) (ho:af o) (k:Nat):Tl o 307 (Lp k:Rw S):=ah (Rm k) ⟨WW o ho k,trivial⟩ Tryz.func307 (by kernel_rfl) fun s c0 κ x h=>Eq.trans (by kernel_rfl) (aj h)
def Lu {S:Type} (k:Nat):Rw S:=ag Be agn fun c c0 κ=>aa k (uL k c c0) (acK c0 κ)
def Rr {S:Type} (k:Nat):Fx S:=fp 7 [(307,Lp k)] [] k Tryz.f306 1
theorem Xd {S:Type} (o:Obj) (ho:af o) (k:Nat):Tl o 306 (Lu k:Rw S):=ah (Rr k) ⟨W9 o ho k,trivial⟩ Tryz.func306 (by kernel_rfl) fun c c0 κ x h=>Eq.trans (by kernel_rfl) (aj h)
def g4 {S:Type} (k:Nat):Rw S:=ag dK xn fun l κ=>aa k (ff k l) (au κ)
def pa {S:Type} (k:Nat):Fx S:=fx 55 (fun _=>[]) (fun|53=>true|_=>false) [(304,CE k),(306,Lu k)] [(4,⟨[(4,.none),(5,.none),(13,.none),(14,.none),(15,.none)],[(5,[some (200320,true)]),(12,[])]⟩,ao 6 23),(15,⟨[(8,.none),(9,some (100009,true)),(34,.none),(35,.none),(36,.none)],[(5,[.none])]⟩,ao 9 191)] k Tryz.f236 false [] 0
def B3 (l:List Cl) (b12_0:List (Cl×Bool)) (b5_0:List Cl) (v15:Int):St UU:=⟨[(4,(.mp 12)),(5,(pt 5)),(13,(sC l)),(14,(.int .i64 (l.length:Int))),(15,(iI v15))],[(5,.cells [(.own 200320 0)]),(12,.map ET.C b12_0)],[(200320,⟨0,ET.C,b5_0⟩)],[(200320,.wr)]⟩
def I2 (b5_0:List Cl) (v36:Int) (kept9:List Cl):St UU:=⟨[(8,(.func 306 [] [(pt 5)])),(9,(.own 100009 0)),(34,(sC b5_0)),(35,(.int .i64 (b5_0.length:Int))),(36,(iI v36))],[(5,.cells [(sC b5_0)])],[(100009,⟨0,ET.C,kept9⟩)],[(100009,.wr)]⟩
section
variable {S:Type} (k:Nat) (l:List Cl) (κ:Out UU→Option S)
theorem Ub (b5_0): ∀n v36 kept9,(pa k).lp κ 15 [] n (I2 b5_0 v36 kept9)=lq k (au κ) b5_0 n v36 kept9:=aE (tk k (au κ) b5_0) rfl (fun _=>rfl) fun r v36 kept9=>by kernel_rfl
theorem Ua: ∀n b12_0 b5_0 v15,(pa k).lp κ 4 [] n (B3 l b12_0 b5_0 v15)=nq k (au κ) l n b12_0 b5_0 v15:=d_ (fun own=>pk k (au κ) l (fun b5_0 v36 kept9=>lq k (au κ) b5_0 k v36 kept9) own) rfl (fun _=>rfl) fun r b12_0 b5_0 v15=>Eq.trans (b:=pk k (au κ) l (fun b5_0 v36 kept9=>(pa k).lp κ 15 [] k (I2 b5_0 v36 kept9)) (fun b12_0 b5_0 v15=>r (B3 l b12_0 b5_0 v15)) b12_0 b5_0 v15) (by kernel_rfl) (by simp only [Ub])
end
theorem iH {S:Type} (o:Obj) (ho:af o) (k:Nat):Tl o 236 (g4 k:Rw S):=ah (pa k) ⟨Gn o ho k,Xd o ho k,trivial⟩ Tryz.func236 (by kernel_rfl) fun l κ x h=>Eq.trans (b:=DB k (au κ) (fun b12_0 b5_0 v15=>(pa k).lp κ 4 [] k (B3 l b12_0 b5_0 v15)) l) (by kernel_rfl) (Eq.trans (by simp only [Ua];rfl) (aj h))
def LC {S:Type} (k:Nat):Rw S:=ag gP xn fun s1 s2 κ=>aa k (vF k s1 s2) (av κ)
def zb {S:Type} (k:Nat):Fx S:=fp 26 [] [(4,aI [0,1,12,13] [],ao 5 11)] k Tryz.f326 0
def I3 (s1 s2:List Cl) (v13:Int):St UU:=⟨[(0,(sC s1)),(1,(sC s2)),(12,(.int .i64 (s1.length:Int))),(13,(iI v13))],[],[],[]⟩
section
variable {S:Type} (k:Nat) (s1 s2:List Cl) (κ:Out UU→Option S)
theorem Uc: ∀n v13,(zb k).lp κ 4 [] n (I3 s1 s2 v13)=n4 k (av κ) s1 s2 n v13:=ca (uq k (av κ) s1 s2) rfl (fun _=>rfl) fun r v13=>by kernel_rfl
end
theorem Xl {S:Type} (o:Obj) (ho:af o) (k:Nat):Tl o 326 (LC k:Rw S):=ah (zb k) trivial Tryz.func326 (by kernel_rfl) fun s1 s2 κ x h=>Eq.trans (b:=EI k (av κ) (fun v13=>(zb k).lp κ 4 [] k (I3 s1 s2 v13)) s1 s2) (by kernel_rfl) (Eq.trans (by simp only [Uc];rfl) (aj h))
def mb {S:Type} (k:Nat):Rw S:=ag dK xn fun f κ=>aa k (fP k f) (av κ)
def Rz {S:Type} (k:Nat):Fx S:=fp 17 [(236,g4 k),(326,LC k)] [] k Tryz.f257 0
theorem m_ {S:Type} (o:Obj) (ho:af o) (k:Nat):Tl o 257 (mb k:Rw S):=ah (Rz k) ⟨iH o ho k,Xl o ho k,trivial⟩ Tryz.func257 (by kernel_rfl) fun f κ x h=>Eq.trans (by kernel_rfl) (aj h)
def sD {S:Type} (k:Nat):Rw S:=ag eS xn fun i κ=>aa k (kZ k i) (av κ)
def RA {S:Type} (k:Nat):Fx S:=fp 9 [] [] k Tryz.f327 0
theorem vR {S:Type} (o:Obj) (ho:af o) (k:Nat):Tl o 327 (sD k:Rw S):=ah (RA k) trivial Tryz.func327 (by kernel_rfl) fun i κ x h=>Eq.trans (by kernel_rfl) (aj h)
def xw {S:Type} (k:Nat):Rw S:=ag jR xn fun s i κ=>aa k (iy k s i) (bG κ)
def RB {S:Type} (k:Nat):Fx S:=fp 16 [(327,sD k)] [] k Tryz.f328 0
theorem AL {S:Type} (o:Obj) (ho:af o) (k:Nat):Tl o 328 (xw k:Rw S):=ah (RB k) ⟨vR o ho k,trivial⟩ Tryz.func328 (by kernel_rfl) fun s i κ x h=>Eq.trans (by kernel_rfl) (aj h)
def xx {S:Type} (k:Nat):Rw S:=ag dK xn fun f κ=>aa k (mH k f) (bG κ)
def zc {S:Type} (k:Nat):Fx S:=fp 22 [(328,xw k)] [(3,aI [3,6,7,8] [],ao 5 11)] k Tryz.f261 0
def I4 (f:List Cl) (s3 v8:Int):St UU:=⟨[(3,(iU s3)),(6,(sC f)),(7,(.int .i64 (f.length:Int))),(8,(iI v8))],[],[],[]⟩
section
variable {S:Type} (k:Nat) (f:List Cl) (κ:Out UU→Option S)
theorem Ud: ∀n s3 v8,(zc k).lp κ 3 [] n (I4 f s3 v8)=nz k (bG κ) f n s3 v8:=aE (tA k (bG κ) f) rfl (fun _=>rfl) fun r s3 v8=>by kernel_rfl
end
theorem AM {S:Type} (o:Obj) (ho:af o) (k:Nat):Tl o 261 (xx k:Rw S):=ah (zc k) ⟨AL o ho k,trivial⟩ Tryz.func261 (by kernel_rfl) fun f κ x h=>Eq.trans (b:=DS k (bG κ) (fun s3 v8=>(zc k).lp κ 3 [] k (I4 f s3 v8)) f) (by kernel_rfl) (Eq.trans (by simp only [Ud];rfl) (aj h))
def LD {S:Type} (k:Nat):Rw S:=ag Bf xn fun f dims κ=>aa k (jJ k f dims) (av κ)
def RD {S:Type} (k:Nat):Fx S:=fp 15 [(261,xx k)] [] k Tryz.f285 0
theorem Xm {S:Type} (o:Obj) (ho:af o) (k:Nat):Tl o 285 (LD k:Rw S):=ah (RD k) ⟨AM o ho k,trivial⟩ Tryz.func285 (by kernel_rfl) fun f dims κ x h=>Eq.trans (by kernel_rfl) (aj h)
def CR {S:Type} (k:Nat):Rw S:=ag lm xn fun c κ=>aa k (p_ k c) (av κ)
def RG {S:Type} (k:Nat):Fx S:=fp 9 [] [] k Tryz.f344 0
theorem Gx {S:Type} (o:Obj) (ho:af o) (k:Nat):Tl o 344 (CR k:Rw S):=ah (RG k) trivial Tryz.func344 (by kernel_rfl) fun c κ x h=>Eq.trans (by kernel_rfl) (aj h)
def LF {S:Type} (k:Nat):Rw S:=ag Hp xn fun s κ=>aa k (Ar k s) (aA κ)
def zd {S:Type} (k:Nat):Fx S:=fp 19 [(344,CR k)] [(2,aI [0,1,7,8] [],ao 4 5)] k Tryz.f354 0
def I5 (s:List Cl) (v8:Int):St UU:=⟨[(0,(sC s)),(1,(.func 344 [] [])),(7,(.int .i64 (s.length:Int))),(8,(iI v8))],[],[],[]⟩
section
variable {S:Type} (k:Nat) (s:List Cl) (κ:Out UU→Option S)
theorem Ue: ∀n v8,(zd k).lp κ 2 [] n (I5 s v8)=n7 k (aA κ) s n v8:=ca (ut k (aA κ) s) rfl (fun _=>rfl) fun r v8=>by kernel_rfl
end
theorem Xn {S:Type} (o:Obj) (ho:af o) (k:Nat):Tl o 354 (LF k:Rw S):=ah (zd k) ⟨Gx o ho k,trivial⟩ Tryz.func354 (by kernel_rfl) fun s κ x h=>Eq.trans (b:=EK k (aA κ) (fun v8=>(zd k).lp κ 2 [] k (I5 s v8)) s) (by kernel_rfl) (Eq.trans (by simp only [Ue];rfl) (aj h))
def LG {S:Type} (k:Nat):Rw S:=ag Hp xn fun s κ=>aa k (Ap k s) (av κ)
def RH {S:Type} (k:Nat):Fx S:=fp 9 [(354,LF k)] [] k Tryz.f307 0
theorem Xo {S:Type} (o:Obj) (ho:af o) (k:Nat):Tl o 307 (LG k:Rw S):=ah (RH k) ⟨Xn o ho k,trivial⟩ Tryz.func307 (by kernel_rfl) fun s κ x h=>Eq.trans (by kernel_rfl) (aj h)
def CS {S:Type} (k:Nat):Rw S:=ag dK xn fun f κ=>aa k (mF k f) (av κ)
def RI {S:Type} (k:Nat):Fx S:=fp 10 [(257,mb k),(307,LG k)] [] k Tryz.f286 0
theorem Gy {S:Type} (o:Obj) (ho:af o) (k:Nat):Tl o 286 (CS k:Rw S):=ah (RI k) ⟨m_ o ho k,Xo o ho k,trivial⟩ Tryz.func286 (by kernel_rfl) fun f κ x h=>Eq.trans (by kernel_rfl) (aj h)
def LH {S:Type} (k:Nat):Rw S:=ag nn xn fun t vars dims κ=>aa k (qK k t vars dims) (av κ)
def pb {S:Type} (k:Nat):Fx S:=fp 138 [(96,Kq k),(257,mb k),(283,Kx k),(284,KH k),(285,LD k),(286,CS k)] [(1000003,aI [1,2,3] [(3,6)],ao 2 3),(15,aI [2,3,107,108,109] [(3,6)],ao 6 23)] k Tryz.f185 0
def I6 (t:Tm) (vars dims:Int):St UU:=⟨[(1,(iI vars)),(2,(iI dims)),(3,(pt 3))],[(3,bT t)],[],[]⟩
def I7 (t:Tm) (dims:Int) (v109:Int):St UU:=⟨[(2,(iI dims)),(3,(pt 3)),(107,(sB t.sys)),(108,(.int .i64 (t.sys.length:Int))),(109,(iI v109))],[(3,bT t)],[],[]⟩
section
variable {S:Type} (k:Nat) (t:Tm) (vars dims:Int) (κ:Out UU→Option S)
theorem Ug: ∀n v109,(pb k).lp κ 15 [] n (I7 t dims v109)=jc k (av κ) t dims n v109:=ca (uA k (av κ) t dims) rfl (fun _=>rfl) fun r v109=>by kernel_rfl
theorem Uf: ∀n,(pb k).jn κ 1000003 [] n (I6 t vars dims)=wI k (av κ) t vars dims n:=gO (p6 k (av κ) t vars dims (fun v109=>jc k (av κ) t dims k v109)) rfl (fun _=>rfl) (Eq.trans (b:=p6 k (av κ) t vars dims (fun v109=>(pb k).lp κ 15 [] k (I7 t dims v109))) (by kernel_rfl) (by simp only [Ug]))
end
theorem Xp {S:Type} (o:Obj) (ho:af o) (k:Nat):Tl o 185 (LH k:Rw S):=ah (pb k) ⟨V8 o ho k,m_ o ho k,We o ho k,Wp o ho k,Xm o ho k,Gy o ho k,trivial⟩ Tryz.func185 (by kernel_rfl) fun t vars dims κ x h=>Eq.trans (b:=EU k (av κ) ((pb k).jn κ 1000003 [] k (I6 t vars dims)) t vars dims) (by kernel_rfl) (Eq.trans (by simp only [Uf];rfl) (aj h))
def sE {S:Type} (hd:cQ S):Rw S:=ag Hq xn fun t vars dims bound κ=>hd t vars dims bound (av κ)
def LI {S:Type} (hd:cQ S) (k:Nat):Rw S:=ag YZ P5 fun a_k v d c0 c1 c2 κ=>aa k (qI hd k a_k v d c0 c1 c2) (eY c0 c1 c2 κ)
def RL {S:Type} (hd:cQ S) (k:Nat):Fx S:=fp 21 [(111,sE hd)] [] k Tryz.f187 3
theorem Xq {S:Type} (o:Obj) (ho:af o) (hd:cQ S) (Hd:Tl o 111 (sE hd)) (k:Nat):Tl o 187 (LI hd k:Rw S):=ah (RL hd k) ⟨Hd,trivial⟩ Tryz.func187 (by kernel_rfl) fun a_k v d c0 c1 c2 κ x h=>Eq.trans (by kernel_rfl) (aj h)
def LJ {S:Type} (hd:cQ S) (k:Nat):Rw S:=ag Y0 P5 fun t c0 c1 c2 κ=>aa k (vH hd k t c0 c1 c2) (eY c0 c1 c2 κ)
def kM {S:Type} (hd:cQ S) (k:Nat):Fx S:=fp 60 [(187,LI hd k),(255,g5 k)] [(2,aI [1,2,15,16,17] [(2,6),(1000000,1),(1000001,1),(1000002,1)],ao 4 5),(12,aI [1,9,40,41,42] [(1000000,1),(1000001,1),(1000002,1)],ao 7 47),(15,aI [1,9,40,41,42,47,48,49] [(1000000,1),(1000001,1),(1000002,1)],ao 15 13103)] k Tryz.f186 3
def B4 (c0 c1:Int) (c2:Bool) (t:Tm) (v17:Int):St UU:=⟨[(1,(.func 187 [] [(pt 1000000),(pt 1000001),(pt 1000002)])),(2,(pt 2)),(15,(sT t.kids)),(16,(.int .i64 (t.kids.length:Int))),(17,(iI v17))],[(2,bT t),(1000000,bI c0),(1000001,bI c1),(1000002,.cells [(.bool c2)])],[],[]⟩
def rT (c0 c1:Int) (c2:Bool) (t:Tm) (v42 more9:Int):St UU:=⟨[(1,(.func 187 [] [(pt 1000000),(pt 1000001),(pt 1000002)])),(9,(iI more9)),(40,(sB t.sys)),(41,(.int .i64 (t.sys.length:Int))),(42,(iI v42))],[(1000000,bI c0),(1000001,bI c1),(1000002,.cells [(.bool c2)])],[],[]⟩
def I8 (c0 c1:Int) (c2:Bool) (t:Tm) (v42:Int) (x4:(Br Tm)) (more9:Int) (v49:Int):St UU:=⟨[(1,(.func 187 [] [(pt 1000000),(pt 1000001),(pt 1000002)])),(9,(iI more9)),(40,(sB t.sys)),(41,(.int .i64 (t.sys.length:Int))),(42,(iI v42)),(47,(sT x4.kids)),(48,(.int .i64 (x4.kids.length:Int))),(49,(iI v49))],[(1000000,bI c0),(1000001,bI c1),(1000002,.cells [(.bool c2)])],[],[]⟩
section
variable {S:Type} (hd:cQ S) (k:Nat) (t:Tm) (c0 c1:Int) (c2:Bool) (κ:Out UU→Option S)
theorem Uj (v42 x4 more9 κ1): ∀n v49,(kM hd k).lp κ 15 [κ1] n (I8 c0 c1 c2 t v42 x4 more9 v49)=ke hd k (eY c0 c1 c2 κ) (fun v42 more9=>κ1 (rT c0 c1 c2 t v42 more9)) c0 c1 c2 t v42 x4 more9 n v49:=ca (uy hd k (eY c0 c1 c2 κ) c0 c1 c2 t v42 x4 more9 (fun v42 more9=>κ1 (rT c0 c1 c2 t v42 more9))) rfl (fun _=>rfl) fun r v49=>by kernel_rfl
theorem Ui: ∀n v42 more9,(kM hd k).lp κ 12 [] n (rT c0 c1 c2 t v42 more9)=f8 hd k (eY c0 c1 c2 κ) c0 c1 c2 t n v42 more9:=aE (fun own=>pY hd k (eY c0 c1 c2 κ) c0 c1 c2 t (fun v42 x4 more9 v49=>ke hd k (eY c0 c1 c2 κ) own c0 c1 c2 t v42 x4 more9 k v49) own) rfl (fun _=>rfl) fun r v42 more9=>Eq.trans (b:=pY hd k (eY c0 c1 c2 κ) c0 c1 c2 t (fun v42 x4 more9 v49=>(kM hd k).lp κ 15 [r] k (I8 c0 c1 c2 t v42 x4 more9 v49)) (fun v42 more9=>r (rT c0 c1 c2 t v42 more9)) v42 more9) (by kernel_rfl) (by simp only [Uj])
theorem Uh: ∀n v17,(kM hd k).lp κ 2 [] n (B4 c0 c1 c2 t v17)=lO hd k (eY c0 c1 c2 κ) c0 c1 c2 t n v17:=ca (fun own=>pX hd k (eY c0 c1 c2 κ) c0 c1 c2 t (fun v42 more9=>f8 hd k (eY c0 c1 c2 κ) c0 c1 c2 t k v42 more9) own) rfl (fun _=>rfl) fun r v17=>Eq.trans (b:=pX hd k (eY c0 c1 c2 κ) c0 c1 c2 t (fun v42 more9=>(kM hd k).lp κ 12 [] k (rT c0 c1 c2 t v42 more9)) (fun v17=>r (B4 c0 c1 c2 t v17)) v17) (by kernel_rfl) (by simp only [Ui])
end
theorem Xr {S:Type} (o:Obj) (ho:af o) (hd:cQ S) (Hd:Tl o 111 (sE hd)) (k:Nat):Tl o 186 (LJ hd k:Rw S):=ah (kM hd k) ⟨Xq o ho hd Hd k,iJ o ho k,trivial⟩ Tryz.func186 (by kernel_rfl) fun t c0 c1 c2 κ x h=>Eq.trans (b:=EQ hd k (eY c0 c1 c2 κ) (fun v17=>(kM hd k).lp κ 2 [] k (B4 c0 c1 c2 t v17)) t c0 c1 c2) (by kernel_rfl) (Eq.trans (by simp only [Uh];rfl) (aj h))
def RJ {S:Type} (hd:cQ S) (k:Nat):Fx S:=fp 24 [(185,LH k),(186,LJ hd k)] [] k Tryz.f111 0
theorem He {S:Type} (o:Obj) (ho:af o): ∀k:Nat,Tl o 111 (sE (fR k:cQ S))
 |0=>dv fun t vars dims bound κ x h=>by cases h
 |k+1=>ah (RJ (fR k) k) ⟨Xp o ho k,Xr o ho (fR k) (He o ho k) k,trivial⟩ Tryz.func111 (by kernel_rfl) fun t vars dims bound κ x h=>Eq.trans (by kernel_rfl) h
def gf {S:Type} (k:Nat):Rw S:=ag dp xn fun t κ=>aa k (eo k t) (aA κ)
def RM {S:Type} (k:Nat):Fx S:=fp 12 [(110,Ki k),(111,sE (fR k))] [] k Tryz.f47 0
theorem gK {S:Type} (o:Obj) (ho:af o) (k:Nat):Tl o 47 (gf k:Rw S):=ah (RM k) ⟨V1 o ho k,He o ho k,trivial⟩ Tryz.func47 (by kernel_rfl) fun t κ x h=>Eq.trans (by kernel_rfl) (aj h)
def mc {S:Type} (hd:d5 S):Rw S:=ag dp xn fun t κ=>hd t (aQ κ)
def LK {S:Type} (hd:d5 S) (k:Nat):Rw S:=ag Hs xn fun l κ=>aa k (qJ hd k l) (w5 κ)
def zf {S:Type} (hd:d5 S) (k:Nat):Fx S:=fp 19 [(55,mc hd)] [(3,⟨[(3,some (100003,true)),(6,.none),(7,.none),(8,.none)],[]⟩,ao 5 11)] k Tryz.f123 0
def I_ (l:List Tm) (out3:List Tm) (v8:Int):St UU:=⟨[(3,(.own 100003 0)),(6,(sT l)),(7,(.int .i64 (l.length:Int))),(8,(iI v8))],[],[(100003,⟨0,ET.T,out3⟩)],[(100003,.wr)]⟩
section
variable {S:Type} (hd:d5 S) (k:Nat) (l:List Tm) (κ:Out UU→Option S)
theorem Ul: ∀n out3 v8,(zf hd k).lp κ 3 [] n (I_ l out3 v8)=n9 hd k (w5 κ) l n out3 v8:=aE (uw hd k (w5 κ) l) rfl (fun _=>rfl) fun r out3 v8=>by kernel_rfl
end
theorem Xs {S:Type} (o:Obj) (ho:af o) (hd:d5 S) (Hd:Tl o 55 (mc hd)) (k:Nat):Tl o 123 (LK hd k:Rw S):=ah (zf hd k) ⟨Hd,trivial⟩ Tryz.func123 (by kernel_rfl) fun l κ x h=>Eq.trans (b:=EO hd k (w5 κ) (fun out3 v8=>(zf hd k).lp κ 3 [] k (I_ l out3 v8)) l) (by kernel_rfl) (Eq.trans (by simp only [Ul];rfl) (aj h))
def ze {S:Type} (hd:d5 S) (k:Nat):Fx S:=fp 40 [(122,C_),(123,LK hd k)] [(3,⟨[(2,.none),(3,.none),(20,.none),(21,.none),(22,.none)],[(2,[.none,.none,.none,some (200131,true),some (200132,true),some (200133,true)]),(3,[.none,.none,.none,.none,.none,some (200197,true)])]⟩,ao 5 11)] k Tryz.f55 0
def I9 (t:Tm) (r1:List Cl) (r2:List Tm) (b3_5:List (Br Tm)) (v22:Int):St UU:=⟨[(2,(pt 2)),(3,(pt 3)),(20,(sB t.sys)),(21,(.int .i64 (t.sys.length:Int))),(22,(iI v22))],[(2,.cells [(iI 0),(iI 0),(.str ByteArray.empty),(.own 200131 0),(.own 200132 0),(.own 200133 0)]),(3,.cells [(iI t.kind),(iI t.n),(.str t.name),(sC r1),(sT r2),(.own 200197 0)])],[(200197,⟨0,ET.B,b3_5⟩),(200133,⟨0,ET.B,([]:List (Br Tm))⟩),(200132,⟨0,ET.T,([]:List Tm)⟩),(200131,⟨0,ET.C,([]:List Cl)⟩)],[(200197,.wr),(200133,.wr),(200132,.wr),(200131,.wr)]⟩
section
variable {S:Type} (hd:d5 S) (k:Nat) (t:Tm) (κ:Out UU→Option S)
theorem Uk (r1 r2): ∀n b3_5 v22,(ze hd k).lp κ 3 [] n (I9 t r1 r2 b3_5 v22)=n8 hd k (aQ κ) t r1 r2 n b3_5 v22:=aE (uu hd k (aQ κ) t r1 r2) rfl (fun _=>rfl) fun r b3_5 v22=>by kernel_rfl
end
theorem qZ {S:Type} (o:Obj) (ho:af o): ∀k:Nat,Tl o 55 (mc (dn k:d5 S))
 |0=>dv fun t κ x h=>by cases h
 |k+1=>ah (ze (dn k) k) ⟨afR o ho,Xs o ho (dn k) (qZ o ho k) k,trivial⟩ Tryz.func55 (by kernel_rfl) fun t κ x h=>Eq.trans (b:=EM (dn k) k (aQ κ) (fun r1 r2 b3_5 v22=>(ze (dn k) k).lp κ 3 [] k (I9 t r1 r2 b3_5 v22)) t) (by kernel_rfl) (Eq.trans (by simp only [Uk];rfl) h)
def ac7 {S:Type} (k:Nat):Rw S:=ag Bg bU fun c0 κ=>aa k (dB k c0) (dZ c0 κ)
def g6 {S:Type} (k:Nat):Rw S:=ag Bg bU fun c0 κ=>aa k (dB k c0) (av κ)
def RO {S:Type} (k:Nat):Fx S:=fp 8 [] [] k Tryz.f125 1
theorem Xt {S:Type} (o:Obj) (ho:af o) (k:Nat):Tl o 125 (ac7 k:Rw S):=ah (RO k) trivial Tryz.func125 (by kernel_rfl) fun c0 κ x h=>Eq.trans (by kernel_rfl) (aj h)
theorem iL {S:Type} (o:Obj) (ho:af o) (k:Nat):Tl o 125 (g6 k:Rw S):=tlS (Xt o ho k) fun c0 κ x h=>Eq.trans (b:=aa k (dB k c0) (dZ c0 (zX _ κ))) (by kernel_rfl) (Eq.trans (congrArg (aa k (dB k c0)) (funext fun r=>if_pos rfl)) h)
def xy {S:Type} (k:Nat):Rw S:=ag ws xn fun kind kids κ=>aa k (kX k kind kids) (Cp κ)
def RP {S:Type} (k:Nat):Fx S:=fx 8 (fun _=>[]) (fun _=>false) [] [] k Tryz.f202 true [] 0
theorem AN {S:Type} (o:Obj) (ho:af o) (k:Nat):Tl o 202 (xy k:Rw S):=ah (RP k) trivial Tryz.func202 (by kernel_rfl) fun kind kids κ x h=>Eq.trans (by kernel_rfl) (aj h)
def CT {S:Type} (k:Nat):Rw S:=ag Y1 xn fun sys κ=>aa k (uJ k sys) (JY κ)
def RQ {S:Type} (k:Nat):Fx S:=fx 8 (fun _=>[]) (fun _=>false) [(202,xy k)] [] k Tryz.f201 true [] 0
theorem Gz {S:Type} (o:Obj) (ho:af o) (k:Nat):Tl o 201 (CT k:Rw S):=ah (RQ k) ⟨AN o ho k,trivial⟩ Tryz.func201 (by kernel_rfl) fun sys κ x h=>Eq.trans (by kernel_rfl) (aj h)
end
end Go.Proofs.YtehekgbehghgdaaGreatDoor
namespace Go.Proofs.YtehekgbehghgdaaGreatDoor
open Go PI
set_option linter.unusedVariables false
set_option maxRecDepth 100000
noncomputable section
def md {S:Type} (k:Nat):Rw S:=ag Y2 bU fun a_e c0 κ=>aa k (jx k a_e c0) (acL κ)
def RR {S:Type} (k:Nat):Fx S:=fp 13 [] [] k Tryz.f294 1
theorem na {S:Type} (o:Obj) (ho:af o) (k:Nat):Tl o 294 (md k:Rw S):=ah (RR k) trivial Tryz.func294 (by kernel_rfl) fun a_e c0 κ x h=>Eq.trans (by kernel_rfl) (aj h)
def CU {S:Type} (k:Nat):Rw S:=ag Hs xn fun l κ=>aa k (z6 k l) (w6 κ)
def zg {S:Type} (k:Nat):Fx S:=fp 22 [(47,gf k),(294,md k)] [(3,aI [3,8,9,10] [(7,1)],ao 5 11)] k Tryz.f200 0
def Ja (l:List Tm) (b7_0 v10:Int):St UU:=⟨[(3,(pt 7)),(8,(sT l)),(9,(.int .i64 (l.length:Int))),(10,(iI v10))],[(7,bI b7_0)],[],[]⟩
section
variable {S:Type} (k:Nat) (l:List Tm) (κ:Out UU→Option S)
theorem Um: ∀n b7_0 v10,(zg k).lp κ 3 [] n (Ja l b7_0 v10)=Bv k (w6 κ) l n b7_0 v10:=aE (Fi k (w6 κ) l) rfl (fun _=>rfl) fun r b7_0 v10=>by kernel_rfl
end
theorem GA {S:Type} (o:Obj) (ho:af o) (k:Nat):Tl o 200 (CU k:Rw S):=ah (zg k) ⟨gK o ho k,na o ho k,trivial⟩ Tryz.func200 (by kernel_rfl) fun l κ x h=>Eq.trans (b:=NN k (w6 κ) (fun b7_0 v10=>(zg k).lp κ 3 [] k (Ja l b7_0 v10)) l) (by kernel_rfl) (Eq.trans (by simp only [Um];rfl) (aj h))
def kr {S:Type} (k:Nat):Rw S:=ag Bg bU fun c0 κ=>aa k (fO k c0) (dZ c0 κ)
def RS {S:Type} (k:Nat):Fx S:=fp 8 [] [] k Tryz.f204 1
theorem lg {S:Type} (o:Obj) (ho:af o) (k:Nat):Tl o 204 (kr k:Rw S):=ah (RS k) trivial Tryz.func204 (by kernel_rfl) fun c0 κ x h=>Eq.trans (by kernel_rfl) (aj h)
def xz {S:Type} (k:Nat):Rw S:=ag Y3 xn fun l κ=>aa k (mK k l) (aA κ)
def zh {S:Type} (k:Nat):Fx S:=fp 15 [(257,mb k)] [(2,aI [5,6,7] [],ao 4 5)] k Tryz.f231 0
def Jb (l:List (List Cl)) (v7:Int):St UU:=⟨[(5,(Dx l .none)),(6,(.int .i64 (l.length:Int))),(7,(iI v7))],[],[],[]⟩
section
variable {S:Type} (k:Nat) (l:List (List Cl)) (κ:Out UU→Option S)
theorem Un: ∀n v7,(zh k).lp κ 2 [] n (Jb l v7)=nE k (aA κ) l n v7:=ca (tH k (aA κ) l) rfl (fun _=>rfl) fun r v7=>by kernel_rfl
end
theorem AO {S:Type} (o:Obj) (ho:af o) (k:Nat):Tl o 231 (xz k:Rw S):=ah (zh k) ⟨m_ o ho k,trivial⟩ Tryz.func231 (by kernel_rfl) fun l κ x h=>Eq.trans (b:=D0 k (aA κ) (fun v7=>(zh k).lp κ 2 [] k (Jb l v7)) l) (by kernel_rfl) (Eq.trans (by simp only [Un];rfl) (aj h))
def CV {S:Type} (k:Nat):Rw S:=ag cn xn fun κ=>aa k (qk k) (acM κ)
def RT {S:Type} (k:Nat):Fx S:=fx 1 (fun _=>[]) (fun _=>false) [] [] k Tryz.f233 false [true] 0
theorem GB {S:Type} (o:Obj) (ho:af o) (k:Nat):Tl o 233 (CV k:Rw S):=ah (RT k) trivial Tryz.func233 (by kernel_rfl) fun κ x h=>Eq.trans (by kernel_rfl) (aj h)
def CW {S:Type} (k:Nat):Rw S:=ag eS xn fun i κ=>aa k (mO k i) (bG κ)
def RU {S:Type} (k:Nat):Fx S:=fp 9 [] [] k Tryz.f339 0
theorem GC {S:Type} (o:Obj) (ho:af o) (k:Nat):Tl o 339 (CW k:Rw S):=ah (RU k) trivial Tryz.func339 (by kernel_rfl) fun i κ x h=>Eq.trans (by kernel_rfl) (aj h)
def LN {S:Type} (k:Nat):Rw S:=ag Ht xn fun s a_from a_by κ=>aa k (jB k s a_from a_by) (si κ)
def RW {S:Type} (k:Nat):Fx S:=fp 46 [(339,CW k)] [] k Tryz.f305 0
theorem Xv {S:Type} (o:Obj) (ho:af o) (k:Nat):Tl o 305 (LN k:Rw S):=ah (RW k) ⟨GC o ho k,trivial⟩ Tryz.func305 (by kernel_rfl) fun s a_from a_by κ x h=>Eq.trans (by kernel_rfl) (aj h)
def LO {S:Type} (k:Nat):Rw S:=ag Hu xn fun c a_from a_by κ=>aa k (uN k c a_from a_by) (JZ κ)
def RY {S:Type} (k:Nat):Fx S:=fp 42 [(304,CE k),(305,LN k)] [] k Tryz.f235 0
theorem Xw {S:Type} (o:Obj) (ho:af o) (k:Nat):Tl o 235 (LO k:Rw S):=ah (RY k) ⟨Gn o ho k,Xv o ho k,trivial⟩ Tryz.func235 (by kernel_rfl) fun c a_from a_by κ x h=>Eq.trans (by kernel_rfl) (aj h)
def LP {S:Type} (k:Nat):Rw S:=ag Y4 yr fun a_have c c0 c1 κ=>aa k (Ag k a_have c c0 c1) (acN c0 c1 κ)
def RZ {S:Type} (k:Nat):Fx S:=fx 22 (fun _=>[]) (fun _=>false) [(235,LO k)] [] k Tryz.f234 false [true,false] 2
theorem Xx {S:Type} (o:Obj) (ho:af o) (k:Nat):Tl o 234 (LP k:Rw S):=ah (RZ k) ⟨Xw o ho k,trivial⟩ Tryz.func234 (by kernel_rfl) fun a_have c c0 c1 κ x h=>Eq.trans (by kernel_rfl) (aj h)
def LQ {S:Type} (k:Nat):Rw S:=ag Y5 yr fun l a_from c0 c1 κ=>aa k (u6 k l a_from c0 c1) (w7 c0 c1 κ)
def zi {S:Type} (k:Nat):Fx S:=fx 33 (fun|23=>[true,false]|_=>[]) (fun _=>false) [(234,LP k)] [(2,⟨[(1,some (100001,true)),(2,.none),(13,.none),(14,.none),(15,.none)],[(1000000,[.none]),(1000001,[.none])]⟩,ao 4 5)] k Tryz.f232 false [] 2
def Jc (c0 c1:Int) (l:List Cl) (v1:List Cl) (v15:Int):St UU:=⟨[(1,(.own 100001 0)),(2,(.func 234 [] [(pt 1000000),(pt 1000001)])),(13,(sC l)),(14,(.int .i64 (l.length:Int))),(15,(iI v15))],[(1000000,bI c0),(1000001,bI c1)],[(100001,⟨0,ET.C,v1⟩)],[(100001,.wr)]⟩
section
variable {S:Type} (k:Nat) (l a_from:List Cl) (c0 c1:Int) (κ:Out UU→Option S)
theorem Uo: ∀n v1 v15,(zi k).lp κ 2 [] n (Jc c0 c1 l v1 v15)=nC k (w7 c0 c1 κ) c0 c1 l n v1 v15:=aE (tD k (w7 c0 c1 κ) c0 c1 l) rfl (fun _=>rfl) fun r v1 v15=>by kernel_rfl
end
theorem Xy {S:Type} (o:Obj) (ho:af o) (k:Nat):Tl o 232 (LQ k:Rw S):=ah (zi k) ⟨Xx o ho k,trivial⟩ Tryz.func232 (by kernel_rfl) fun l a_from c0 c1 κ x h=>Eq.trans (b:=DX k (w7 c0 c1 κ) (fun v1 v15=>(zi k).lp κ 2 [] k (Jc c0 c1 l v1 v15)) l a_from c0 c1) (by kernel_rfl) (Eq.trans (by simp only [Uo];rfl) (aj h))
def me {S:Type} (k:Nat):Rw S:=ag Bh xn fun f a_from a_by κ=>aa k (it k f a_from a_by) (au κ)
def R0 {S:Type} (k:Nat):Fx S:=fx 31 (fun|21=>[false,true,false]|_=>[]) (fun _=>false) [(231,xz k),(232,LQ k),(233,CV k),(236,g4 k)] [] k Tryz.f151 false [] 0
theorem nc {S:Type} (o:Obj) (ho:af o) (k:Nat):Tl o 151 (me k:Rw S):=ah (R0 k) ⟨AO o ho k,Xy o ho k,GB o ho k,iH o ho k,trivial⟩ Tryz.func151 (by kernel_rfl) fun f a_from a_by κ x h=>Eq.trans (by kernel_rfl) (aj h)
def LR {S:Type} (k:Nat):Rw S:=ag Y6 xn fun l_0 l_1 f a_from κ=>aa k (qn k l_0 l_1 f a_from) (acO κ)
def R1 {S:Type} (k:Nat):Fx S:=fp 31 [(151,me k)] [] k Tryz.f254 0
theorem Xz {S:Type} (o:Obj) (ho:af o) (k:Nat):Tl o 254 (LR k:Rw S):=ah (R1 k) ⟨nc o ho k,trivial⟩ Tryz.func254 (by kernel_rfl) fun l_0 l_1 f a_from κ x h=>Eq.trans (by kernel_rfl) (aj h)
def sG {S:Type} (hd:eK S):Rw S:=ag Y7 xn fun l_0 l_1 t v d κ=>hd l_0 l_1 t v d (bW κ)
def ij {S:Type} (hd:eK S) (k:Nat):Fx S:=fp 128 [(173,sG hd),(254,LR k),(255,g5 k)] [(1000006,⟨[(2,.none),(3,.none),(4,.none),(5,.none),(8,.none),(9,.none)],[(4,[.none,.none]),(5,[.none,.none,.none,.none,.none,.none]),(8,[.none,.none,.none,some (200515,true),some (200516,true),some (200517,true)]),(9,[.none,.none,.none,.none,some (200580,true),some (200581,true)])]⟩,ao 3 7),(7,⟨[(2,.none),(3,.none),(4,.none),(5,.none),(8,.none),(9,.none),(55,.none),(56,.none),(57,.none)],[(4,[.none,.none]),(5,[.none,.none,.none,.none,.none,.none]),(8,[.none,.none,.none,some (200515,true),some (200516,true),some (200517,true)]),(9,[.none,.none,.none,.none,some (200580,true),some (200581,true)])]⟩,ao 6 23),(16,⟨[(2,.none),(3,.none),(4,.none),(8,.none),(9,.none),(14,.none),(88,.none),(89,.none),(90,.none)],[(4,[.none,.none]),(8,[.none,.none,.none,some (200515,true),some (200516,true),some (200517,true)]),(9,[.none,.none,.none,.none,some (200580,true),some (200581,true)])]⟩,ao 9 191),(20,⟨[(2,.none),(3,.none),(4,.none),(8,.none),(9,.none),(14,.none),(17,.none),(88,.none),(89,.none),(90,.none),(101,.none),(102,.none),(103,.none)],[(4,[.none,.none]),(8,[.none,.none,.none,some (200515,true),some (200516,true),some (200517,true)]),(9,[.none,.none,.none,.none,some (200580,true),some (200581,true)]),(17,[.none,some (201089,true)])]⟩,ao 19 183487)] k Tryz.f173 0
def Jd (l_0 l_1:Int) (t:Tm) (r2:List Cl) (v d:Int) (b9_1:Int):St UU:=⟨[(2,(iI v)),(3,(iI d)),(4,(pt 4)),(5,(pt 5)),(8,(pt 8)),(9,(pt 9))],[(4,.cells [(iI l_0),(iI l_1)]),(5,bT t),(8,.cells [(iI 0),(iI 0),(.str ByteArray.empty),(.own 200515 0),(.own 200516 0),(.own 200517 0)]),(9,.cells [(iI t.kind),(iI b9_1),(.str t.name),(sC r2),(.own 200580 0),(.own 200581 0)])],[(200581,⟨0,ET.B,([]:List (Br Tm))⟩),(200580,⟨0,ET.T,([]:List Tm)⟩),(200517,⟨0,ET.B,([]:List (Br Tm))⟩),(200516,⟨0,ET.T,([]:List Tm)⟩),(200515,⟨0,ET.C,([]:List Cl)⟩)],[(200581,.wr),(200580,.wr),(200517,.wr),(200516,.wr),(200515,.wr)]⟩
def B5 (l_0 l_1:Int) (t:Tm) (b9_1:Int) (r2:List Cl) (v d:Int) (b9_4:List Tm) (v57:Int):St UU:=⟨[(2,(iI v)),(3,(iI d)),(4,(pt 4)),(5,(pt 5)),(8,(pt 8)),(9,(pt 9)),(55,(sT t.kids)),(56,(.int .i64 (t.kids.length:Int))),(57,(iI v57))],[(4,.cells [(iI l_0),(iI l_1)]),(5,bT t),(8,.cells [(iI 0),(iI 0),(.str ByteArray.empty),(.own 200515 0),(.own 200516 0),(.own 200517 0)]),(9,.cells [(iI t.kind),(iI b9_1),(.str t.name),(sC r2),(.own 200580 0),(.own 200581 0)])],[(200581,⟨0,ET.B,([]:List (Br Tm))⟩),(200580,⟨0,ET.T,b9_4⟩),(200517,⟨0,ET.B,([]:List (Br Tm))⟩),(200516,⟨0,ET.T,([]:List Tm)⟩),(200515,⟨0,ET.C,([]:List Cl)⟩)],[(200581,.wr),(200580,.wr),(200517,.wr),(200516,.wr),(200515,.wr)]⟩
def rU (l_0 l_1:Int) (t:Tm) (b9_1:Int) (r2:List Cl) (b9_4:List Tm) (v d:Int) (b9_5:List (Br Tm)) (more14 v90:Int):St UU:=⟨[(2,(iI v)),(3,(iI d)),(4,(pt 4)),(8,(pt 8)),(9,(pt 9)),(14,(iI more14)),(88,(sB t.sys)),(89,(.int .i64 (t.sys.length:Int))),(90,(iI v90))],[(4,.cells [(iI l_0),(iI l_1)]),(8,.cells [(iI 0),(iI 0),(.str ByteArray.empty),(.own 200515 0),(.own 200516 0),(.own 200517 0)]),(9,.cells [(iI t.kind),(iI b9_1),(.str t.name),(sC r2),(.own 200580 0),(.own 200581 0)])],[(200581,⟨0,ET.B,b9_5⟩),(200580,⟨0,ET.T,b9_4⟩),(200517,⟨0,ET.B,([]:List (Br Tm))⟩),(200516,⟨0,ET.T,([]:List Tm)⟩),(200515,⟨0,ET.C,([]:List Cl)⟩)],[(200581,.wr),(200580,.wr),(200517,.wr),(200516,.wr),(200515,.wr)]⟩
def Je (r12:List Cl) (l_0 l_1:Int) (t:Tm) (b9_1:Int) (r2:List Cl) (b9_4:List Tm) (b9_5:List (Br Tm)) (x10:(Br Tm)) (more14 v d v90:Int) (b17_1:List Tm) (v103:Int):St UU:=⟨[(2,(iI v)),(3,(iI d)),(4,(pt 4)),(8,(pt 8)),(9,(pt 9)),(14,(iI more14)),(17,(pt 17)),(88,(sB t.sys)),(89,(.int .i64 (t.sys.length:Int))),(90,(iI v90)),(101,(sT x10.kids)),(102,(.int .i64 (x10.kids.length:Int))),(103,(iI v103))],[(4,.cells [(iI l_0),(iI l_1)]),(8,.cells [(iI 0),(iI 0),(.str ByteArray.empty),(.own 200515 0),(.own 200516 0),(.own 200517 0)]),(9,.cells [(iI t.kind),(iI b9_1),(.str t.name),(sC r2),(.own 200580 0),(.own 200581 0)]),(17,.cells [(sC r12),(.own 201089 0)])],[(201089,⟨0,ET.T,b17_1⟩),(200581,⟨0,ET.B,b9_5⟩),(200580,⟨0,ET.T,b9_4⟩),(200517,⟨0,ET.B,([]:List (Br Tm))⟩),(200516,⟨0,ET.T,([]:List Tm)⟩),(200515,⟨0,ET.C,([]:List Cl)⟩)],[(201089,.wr),(200581,.wr),(200580,.wr),(200517,.wr),(200516,.wr),(200515,.wr)]⟩
section
variable {S:Type} (hd:eK S) (k:Nat) (l_0 l_1:Int) (t:Tm) (v d:Int) (κ:Out UU→Option S)
theorem Ut (r12 b9_1 r2 b9_4 b9_5 x10 more14 v90 κ2): ∀n b17_1 v103,(ij hd k).lp κ 20 [κ2] n (Je r12 l_0 l_1 t b9_1 r2 b9_4 b9_5 x10 more14 v d v90 b17_1 v103)=jZ hd k (bW κ) (fun b9_5 more14 v90=>κ2 (rU l_0 l_1 t b9_1 r2 b9_4 v d b9_5 more14 v90)) r12 l_0 l_1 t b9_1 r2 b9_4 b9_5 x10 more14 v d v90 n b17_1 v103:=aE (tK hd k (bW κ) r12 l_0 l_1 t b9_1 r2 b9_4 b9_5 x10 more14 v d v90 (fun b9_5 more14 v90=>κ2 (rU l_0 l_1 t b9_1 r2 b9_4 v d b9_5 more14 v90))) rfl (fun _=>rfl) fun r b17_1 v103=>by kernel_rfl
theorem Us (b9_1 r2 b9_4): ∀n b9_5 more14 v90,(ij hd k).lp κ 16 [] n (rU l_0 l_1 t b9_1 r2 b9_4 v d b9_5 more14 v90)=fX hd k (bW κ) l_0 l_1 t b9_1 r2 b9_4 v d n b9_5 more14 v90:=d_ (fun own=>pr hd k (bW κ) l_0 l_1 t b9_1 r2 b9_4 v d (fun r12 b9_5 x10 more14 v90 b17_1 v103=>jZ hd k (bW κ) own r12 l_0 l_1 t b9_1 r2 b9_4 b9_5 x10 more14 v d v90 k b17_1 v103) own) rfl (fun _=>rfl) fun r b9_5 more14 v90=>Eq.trans (b:=pr hd k (bW κ) l_0 l_1 t b9_1 r2 b9_4 v d (fun r12 b9_5 x10 more14 v90 b17_1 v103=>(ij hd k).lp κ 20 [r] k (Je r12 l_0 l_1 t b9_1 r2 b9_4 b9_5 x10 more14 v d v90 b17_1 v103)) (fun b9_5 more14 v90=>r (rU l_0 l_1 t b9_1 r2 b9_4 v d b9_5 more14 v90)) b9_5 more14 v90) (by kernel_rfl) (by simp only [Ut])
theorem Ur (b9_1 r2): ∀n b9_4 v57,(ij hd k).lp κ 7 [] n (B5 l_0 l_1 t b9_1 r2 v d b9_4 v57)=iR hd k (bW κ) l_0 l_1 t b9_1 r2 v d n b9_4 v57:=aE (fun own=>pq hd k (bW κ) l_0 l_1 t b9_1 r2 v d (fun b9_4 b9_5 more14 v90=>fX hd k (bW κ) l_0 l_1 t b9_1 r2 b9_4 v d k b9_5 more14 v90) own) rfl (fun _=>rfl) fun r b9_4 v57=>Eq.trans (b:=pq hd k (bW κ) l_0 l_1 t b9_1 r2 v d (fun b9_4 b9_5 more14 v90=>(ij hd k).lp κ 16 [] k (rU l_0 l_1 t b9_1 r2 b9_4 v d b9_5 more14 v90)) (fun b9_4 v57=>r (B5 l_0 l_1 t b9_1 r2 v d b9_4 v57)) b9_4 v57) (by kernel_rfl) (by simp only [Us])
theorem Uq (r2): ∀n b9_1,(ij hd k).jn κ 1000006 [] n (Jd l_0 l_1 t r2 v d b9_1)=rg hd k (bW κ) l_0 l_1 t r2 v d n b9_1:=Ba (zx hd k (bW κ) l_0 l_1 t r2 v d (fun b9_1 b9_4 v57=>iR hd k (bW κ) l_0 l_1 t b9_1 r2 v d k b9_4 v57)) rfl (fun _=>rfl) (fun b9_1=>Eq.trans (b:=zx hd k (bW κ) l_0 l_1 t r2 v d (fun b9_1 b9_4 v57=>(ij hd k).lp κ 7 [] k (B5 l_0 l_1 t b9_1 r2 v d b9_4 v57)) b9_1) (by kernel_rfl) (by simp only [Ur]))
end
theorem wk {S:Type} (o:Obj) (ho:af o): ∀k:Nat,Tl o 173 (sG (cJ k:eK S))
 |0=>dv fun l_0 l_1 t v d κ x h=>by cases h
 |k+1=>ah (ij (cJ k) k) ⟨wk o ho k,Xz o ho k,iJ o ho k,trivial⟩ Tryz.func173 (by kernel_rfl) fun l_0 l_1 t v d κ x h=>Eq.trans (b:=D6 (cJ k) k (bW κ) (fun r2 b9_1=>(ij (cJ k) k).jn κ 1000006 [] k (Jd l_0 l_1 t r2 v d b9_1)) l_0 l_1 t v d) (by kernel_rfl) (Eq.trans (by simp only [Uq];rfl) h)
def LS {S:Type} (k:Nat):Rw S:=ag Bj P6 fun c0 c1 c2 κ=>aa k (FR k c0 c1 c2) (acP c0 c1 c2 κ)
def R2 {S:Type} (k:Nat):Fx S:=fp 11 [(173,sG (cJ k))] [] k Tryz.f199 3
theorem XA {S:Type} (o:Obj) (ho:af o) (k:Nat):Tl o 199 (LS k:Rw S):=ah (R2 k) ⟨wk o ho k,trivial⟩ Tryz.func199 (by kernel_rfl) fun c0 c1 c2 κ x h=>Eq.trans (by kernel_rfl) (aj h)
def LU {S:Type} (k:Nat):Rw S:=ag Y8 P6 fun t numbers c0 c1 c2 κ=>aa k (FV k t numbers c0 c1 c2) (w8 c0 c1 c2 κ)
def zj {S:Type} (k:Nat):Fx S:=⟨⟨30,(fun _=>[]),(fun _=>false),.none,fun|6=>true|7=>true|_=>false⟩,[(47,gf k),(199,LS k)],[(5,⟨[(2,.none),(6,.none),(7,.none),(17,.none),(18,.none),(19,.none)],[(1000000,[.none]),(1000001,[.none]),(1000002,[.none,.none,.none,.none,.none,.none]),(5000006,[.none,.none,.none,some (320200387,true),some (320200388,true),some (320200389,true)]),(5000007,[.none])]⟩,ao 5 11)],k,Tryz.f171,false,[],3,some (mC 16 253 Tryz.f253 k)⟩
def Jf (c0 c1:Int) (c2:Tm) (numbers:List Int) (v19:Int):St UU:=⟨[(2,(.func 199 [] [(pt 1000000),(pt 1000001),(pt 1000002)])),(6,(pt 5000006)),(7,(pt 5000007)),(17,(gj numbers .none)),(18,(.int .i64 (numbers.length:Int))),(19,(iI v19))],[(1000000,bI c0),(1000001,bI c1),(1000002,bT c2),(5000006,.cells [(iI 0),(iI 0),(.str ByteArray.empty),(.own 320200387 0),(.own 320200388 0),(.own 320200389 0)]),(5000007,bI 0)],[(320200389,⟨0,ET.B,([]:List (Br Tm))⟩),(320200388,⟨0,ET.T,([]:List Tm)⟩),(320200387,⟨0,ET.C,([]:List Cl)⟩)],[(320200389,.wr),(320200388,.wr),(320200387,.wr)]⟩
section
variable {S:Type} (k:Nat) (t:Tm) (numbers:List Int) (c0 c1:Int) (c2:Tm) (κ:Out UU→Option S)
theorem Uu: ∀n v19,(zj k).lp κ 5 [] n (Jf c0 c1 c2 numbers v19)=By k (w8 c0 c1 c2 κ) c0 c1 c2 numbers n v19:=ca (Fo k (w8 c0 c1 c2 κ) c0 c1 c2 numbers) rfl (fun _=>rfl) fun r v19=>by kernel_rfl
end
theorem XB {S:Type} (o:Obj) (ho:af o) (k:Nat):Tl o 171 (LU k:Rw S):=yj (zj k) rfl (uD o Tryz.func253 (by kernel_rfl)) ⟨gK o ho k,XA o ho k,trivial⟩ Tryz.func171 (by kernel_rfl) fun t numbers c0 c1 c2 κ x h=>Eq.trans (b:=Ox k (w8 c0 c1 c2 κ) (fun v19=>(zj k).lp κ 5 [] k (Jf c0 c1 c2 numbers v19)) t numbers c0 c1 c2) (by kernel_rfl) (Eq.trans (by simp only [Uu];rfl) (aj h))
def xA {S:Type} (k:Nat):Rw S:=ag nn xn fun t vars dims κ=>aa k (u_ k t vars dims) (dY κ)
def R3 {S:Type} (k:Nat):Fx S:=fp 18 [(171,LU k)] [] k Tryz.f127 0
theorem AP {S:Type} (o:Obj) (ho:af o) (k:Nat):Tl o 127 (xA k:Rw S):=ah (R3 k) ⟨XB o ho k,trivial⟩ Tryz.func127 (by kernel_rfl) fun t vars dims κ x h=>Eq.trans (by kernel_rfl) (aj h)
def LW {S:Type} (k:Nat):Rw S:=ag Bk bU fun t vars dims c0 κ=>aa k (p9 k t vars dims c0) (fC κ)
def R4 {S:Type} (k:Nat):Fx S:=fp 30 [(127,xA k),(204,kr k),(294,md k)] [] k Tryz.f203 1
theorem XD {S:Type} (o:Obj) (ho:af o) (k:Nat):Tl o 203 (LW k:Rw S):=ah (R4 k) ⟨AP o ho k,lg o ho k,na o ho k,trivial⟩ Tryz.func203 (by kernel_rfl) fun t vars dims c0 κ x h=>Eq.trans (by kernel_rfl) (aj h)
def CX {S:Type} (k:Nat):Rw S:=ag wv bU fun t c0 κ=>aa k (p8 k t c0) (acQ κ)
def R5 {S:Type} (k:Nat):Fx S:=fp 28 [(47,gf k),(204,kr k),(294,md k)] [] k Tryz.f207 1
theorem GD {S:Type} (o:Obj) (ho:af o) (k:Nat):Tl o 207 (CX k:Rw S):=ah (R5 k) ⟨gK o ho k,lg o ho k,na o ho k,trivial⟩ Tryz.func207 (by kernel_rfl) fun t c0 κ x h=>Eq.trans (by kernel_rfl) (aj h)
def LX {S:Type} (k:Nat):Rw S:=ag Y9 bU fun f c0 κ=>aa k (FP k f c0) (J7 κ)
def R6 {S:Type} (k:Nat):Fx S:=fp 23 [(151,me k),(204,kr k),(294,md k)] [] k Tryz.f205 1
theorem XE {S:Type} (o:Obj) (ho:af o) (k:Nat):Tl o 205 (LX k:Rw S):=ah (R6 k) ⟨nc o ho k,lg o ho k,na o ho k,trivial⟩ Tryz.func205 (by kernel_rfl) fun f c0 κ x h=>Eq.trans (by kernel_rfl) (aj h)
def LY {S:Type} (k:Nat):Rw S:=ag Bj yu fun c0 c1 c2 κ=>aa k (va k c0 c1 c2) (J8 c0 c1 c2 κ)
def R7 {S:Type} (k:Nat):Fx S:=fp 10 [(173,sG (cJ k))] [] k Tryz.f172 3
theorem XF {S:Type} (o:Obj) (ho:af o) (k:Nat):Tl o 172 (LY k:Rw S):=ah (R7 k) ⟨wk o ho k,trivial⟩ Tryz.func172 (by kernel_rfl) fun c0 c1 c2 κ x h=>Eq.trans (by kernel_rfl) (aj h)
def LZ {S:Type} (k:Nat):Rw S:=ag Y_ yu fun t numbers c0 c1 c2 κ=>aa k (vc k t numbers c0 c1 c2) (kn c0 c1 c2 κ)
def zk {S:Type} (k:Nat):Fx S:=⟨⟨30,(fun _=>[]),(fun _=>false),.none,fun|6=>true|7=>true|_=>false⟩,[(47,gf k),(172,LY k)],[(5,⟨[(2,.none),(6,.none),(7,.none),(17,.none),(18,.none),(19,.none)],[(1000000,[.none]),(1000001,[.none,.none,.none,.none,.none,.none]),(1000002,[.none]),(5000006,[.none,.none,.none,some (320200387,true),some (320200388,true),some (320200389,true)]),(5000007,[.none])]⟩,ao 5 11)],k,Tryz.f171,false,[],3,some (mC 16 253 Tryz.f253 k)⟩
def Jg (c0:Int) (c1:Tm) (c2:Int) (numbers:List Int) (v19:Int):St UU:=⟨[(2,(.func 172 [] [(pt 1000000),(pt 1000001),(pt 1000002)])),(6,(pt 5000006)),(7,(pt 5000007)),(17,(gj numbers .none)),(18,(.int .i64 (numbers.length:Int))),(19,(iI v19))],[(1000000,bI c0),(1000001,bT c1),(1000002,bI c2),(5000006,.cells [(iI 0),(iI 0),(.str ByteArray.empty),(.own 320200387 0),(.own 320200388 0),(.own 320200389 0)]),(5000007,bI 0)],[(320200389,⟨0,ET.B,([]:List (Br Tm))⟩),(320200388,⟨0,ET.T,([]:List Tm)⟩),(320200387,⟨0,ET.C,([]:List Cl)⟩)],[(320200389,.wr),(320200388,.wr),(320200387,.wr)]⟩
section
variable {S:Type} (k:Nat) (t:Tm) (numbers:List Int) (c0:Int) (c1:Tm) (c2:Int) (κ:Out UU→Option S)
theorem Uv: ∀n v19,(zk k).lp κ 5 [] n (Jg c0 c1 c2 numbers v19)=lw k (kn c0 c1 c2 κ) c0 c1 c2 numbers n v19:=ca (tJ k (kn c0 c1 c2 κ) c0 c1 c2 numbers) rfl (fun _=>rfl) fun r v19=>by kernel_rfl
end
theorem XG {S:Type} (o:Obj) (ho:af o) (k:Nat):Tl o 171 (LZ k:Rw S):=yj (zk k) rfl (uD o Tryz.func253 (by kernel_rfl)) ⟨gK o ho k,XF o ho k,trivial⟩ Tryz.func171 (by kernel_rfl) fun t numbers c0 c1 c2 κ x h=>Eq.trans (b:=yd k (kn c0 c1 c2 κ) (fun v19=>(zk k).lp κ 5 [] k (Jg c0 c1 c2 numbers v19)) t numbers c0 c1 c2) (by kernel_rfl) (Eq.trans (by simp only [Uv];rfl) (aj h))
def xB {S:Type} (k:Nat):Rw S:=ag nn xn fun t a_from a_by κ=>aa k (jz k t a_from a_by) (dY κ)
def R8 {S:Type} (k:Nat):Fx S:=fp 16 [(171,LZ k)] [] k Tryz.f93 0
theorem AQ {S:Type} (o:Obj) (ho:af o) (k:Nat):Tl o 93 (xB k:Rw S):=ah (R8 k) ⟨XG o ho k,trivial⟩ Tryz.func93 (by kernel_rfl) fun t a_from a_by κ x h=>Eq.trans (by kernel_rfl) (aj h)
def sH {S:Type} (k:Nat):Rw S:=ag jR xn fun s i κ=>aa k (gz k s i) (bG κ)
def R9 {S:Type} (k:Nat):Fx S:=fp 16 [(327,sD k)] [] k Tryz.f325 0
theorem vS {S:Type} (o:Obj) (ho:af o) (k:Nat):Tl o 325 (sH k:Rw S):=ah (R9 k) ⟨vR o ho k,trivial⟩ Tryz.func325 (by kernel_rfl) fun s i κ x h=>Eq.trans (by kernel_rfl) (aj h)
def L0 {S:Type} (k:Nat):Rw S:=ag re xn fun a_x κ=>aa k (FW k a_x) (aA κ)
def R_ {S:Type} (k:Nat):Fx S:=fp 21 [] [] k Tryz.f366 0
theorem XH {S:Type} (o:Obj) (ho:af o) (k:Nat):Tl o 366 (L0 k:Rw S):=ah (R_ k) trivial Tryz.func366 (by kernel_rfl) fun a_x κ x h=>Eq.trans (by kernel_rfl) (aj h)
def xD {S:Type} (k:Nat):Rw S:=ag re xn fun s κ=>aa k (jA k s) (aA κ)
def Sa {S:Type} (k:Nat):Fx S:=fp 6 [(366,L0 k)] [] k Tryz.f324 0
theorem AR {S:Type} (o:Obj) (ho:af o) (k:Nat):Tl o 324 (xD k:Rw S):=ah (Sa k) ⟨XH o ho k,trivial⟩ Tryz.func324 (by kernel_rfl) fun s κ x h=>Eq.trans (by kernel_rfl) (aj h)
def L3 {S:Type} (k:Nat):Rw S:=ag eS xn fun i κ=>aa k (uO k i) (av κ)
def Sb {S:Type} (k:Nat):Fx S:=fp 7 [(324,xD k),(325,sH k)] [] k Tryz.f256 0
theorem XI {S:Type} (o:Obj) (ho:af o) (k:Nat):Tl o 256 (L3 k:Rw S):=ah (Sb k) ⟨AR o ho k,vS o ho k,trivial⟩ Tryz.func256 (by kernel_rfl) fun i κ x h=>Eq.trans (by kernel_rfl) (aj h)
def L4 {S:Type} (k:Nat):Rw S:=ag Bm xn fun t i a_r κ=>aa k (uS k t i a_r) (aA κ)
def Sc {S:Type} (k:Nat):Fx S:=fp 21 [(47,gf k),(256,L3 k),(257,mb k)] [] k Tryz.f174 0
theorem XJ {S:Type} (o:Obj) (ho:af o) (k:Nat):Tl o 174 (L4 k:Rw S):=ah (Sc k) ⟨gK o ho k,XI o ho k,m_ o ho k,trivial⟩ Tryz.func174 (by kernel_rfl) fun t i a_r κ x h=>Eq.trans (by kernel_rfl) (aj h)
def L5 {S:Type} (k:Nat):Rw S:=ag Hv te fun c0 c1 κ=>aa k (Aa k c0 c1) (acR c0 c1 κ)
def Sd {S:Type} (k:Nat):Fx S:=fp 6 [] [] k Tryz.f258 2
theorem XK {S:Type} (o:Obj) (ho:af o) (k:Nat):Tl o 258 (L5 k:Rw S):=ah (Sd k) trivial Tryz.func258 (by kernel_rfl) fun c0 c1 κ x h=>Eq.trans (by kernel_rfl) (aj h)
def L6 {S:Type} (k:Nat):Rw S:=ag Za te fun c0 c1 κ=>aa k (Ab k c0 c1) (acS c0 c1 κ)
def Se {S:Type} (k:Nat):Fx S:=fp 6 [] [] k Tryz.f258 2
theorem XL {S:Type} (o:Obj) (ho:af o) (k:Nat):Tl o 258 (L6 k:Rw S):=ah (Se k) trivial Tryz.func258 (by kernel_rfl) fun c0 c1 κ x h=>Eq.trans (by kernel_rfl) (aj h)
def L7 {S:Type} (k:Nat):Rw S:=ag Zb xn fun i a_r κ=>aa k (z_ k i a_r) (acT κ)
def Sf {S:Type} (k:Nat):Fx S:=fp 12 [(258,lZ (qV Hv te) (L5 k) (L6 k))] [] k Tryz.f175 0
theorem XM {S:Type} (o:Obj) (ho:af o) (k:Nat):Tl o 175 (L7 k:Rw S):=ah (Sf k) ⟨sg (XK o ho k) (XL o ho k),trivial⟩ Tryz.func175 (by kernel_rfl) fun i a_r κ x h=>Eq.trans (by kernel_rfl) (aj h)
def sI {S:Type} (k:Nat):Rw S:=ag jR xn fun s i κ=>aa k (fQ k s i) (av κ)
def Sg {S:Type} (k:Nat):Fx S:=fp 15 [(327,sD k)] [] k Tryz.f260 0
theorem vT {S:Type} (o:Obj) (ho:af o) (k:Nat):Tl o 260 (sI k:Rw S):=ah (Sg k) ⟨vR o ho k,trivial⟩ Tryz.func260 (by kernel_rfl) fun s i κ x h=>Eq.trans (by kernel_rfl) (aj h)
def CY {S:Type} (k:Nat):Rw S:=ag dK xn fun f κ=>aa k (qc k f) (eF κ)
def Sh {S:Type} (k:Nat):Fx S:=fp 5 [] [] k Tryz.f262 0
theorem GE {S:Type} (o:Obj) (ho:af o) (k:Nat):Tl o 262 (CY k:Rw S):=ah (Sh k) trivial Tryz.func262 (by kernel_rfl) fun f κ x h=>Eq.trans (by kernel_rfl) (aj h)
def L8 {S:Type} (k:Nat):Rw S:=ag eS xn fun i κ=>aa k (uV k i) (av κ)
def Si {S:Type} (k:Nat):Fx S:=fp 7 [(324,xD k),(325,sH k)] [] k Tryz.f334 0
theorem XN {S:Type} (o:Obj) (ho:af o) (k:Nat):Tl o 334 (L8 k:Rw S):=ah (Si k) ⟨AR o ho k,vS o ho k,trivial⟩ Tryz.func334 (by kernel_rfl) fun i κ x h=>Eq.trans (by kernel_rfl) (aj h)
def CZ {S:Type} (k:Nat):Rw S:=ag lm xn fun c κ=>aa k (qj k c) (acU κ)
def Sj {S:Type} (k:Nat):Fx S:=fp 8 [(344,CR k)] [] k Tryz.f369 0
theorem GF {S:Type} (o:Obj) (ho:af o) (k:Nat):Tl o 369 (CZ k:Rw S):=ah (Sj k) ⟨Gx o ho k,trivial⟩ Tryz.func369 (by kernel_rfl) fun c κ x h=>Eq.trans (by kernel_rfl) (aj h)
def L9 {S:Type} (k:Nat):Rw S:=ag Zc xn fun l κ=>aa k (uY k l) (eF κ)
def zl {S:Type} (k:Nat):Fx S:=fp 29 [(369,CZ k)] [(3,⟨[(1,.none),(5,some (100005,true)),(10,.none),(11,.none),(12,.none)],[]⟩,ao 5 11)] k Tryz.f347 0
def Ji (l:List Cl) (v12:Int) (out5:List Cl):St UU:=⟨[(1,(.func 369 [] [])),(5,(.own 100005 0)),(10,(sC l)),(11,(.int .i64 (l.length:Int))),(12,(iI v12))],[],[(100005,⟨0,ET.C,out5⟩)],[(100005,.wr)]⟩
section
variable {S:Type} (k:Nat) (l:List Cl) (κ:Out UU→Option S)
theorem Uz: ∀n v12 out5,(zl k).lp κ 3 [] n (Ji l v12 out5)=nx k (eF κ) l n v12 out5:=aE (tx k (eF κ) l) rfl (fun _=>rfl) fun r v12 out5=>by kernel_rfl
end
theorem XO {S:Type} (o:Obj) (ho:af o) (k:Nat):Tl o 347 (L9 k:Rw S):=ah (zl k) ⟨GF o ho k,trivial⟩ Tryz.func347 (by kernel_rfl) fun l κ x h=>Eq.trans (b:=DQ k (eF κ) (fun v12 out5=>(zl k).lp κ 3 [] k (Ji l v12 out5)) l) (by kernel_rfl) (Eq.trans (by simp only [Uz];rfl) (aj h))
def C0 {S:Type} (k:Nat):Rw S:=ag dK xn fun f κ=>aa k (qi k f) (au κ)
def Sk {S:Type} (k:Nat):Fx S:=fp 12 [(236,g4 k),(257,mb k),(347,L9 k)] [] k Tryz.f335 0
theorem GG {S:Type} (o:Obj) (ho:af o) (k:Nat):Tl o 335 (C0 k:Rw S):=ah (Sk k) ⟨iH o ho k,m_ o ho k,XO o ho k,trivial⟩ Tryz.func335 (by kernel_rfl) fun f κ x h=>Eq.trans (by kernel_rfl) (aj h)
def L_ {S:Type} (k:Nat):Rw S:=ag Be td fun b c0 κ=>aa k (uZ k b c0) (acV c0 κ)
def Sn {S:Type} (k:Nat):Fx S:=fp 11 [(355,xq k),(369,CZ k)] [] k Tryz.f370 1
theorem XP {S:Type} (o:Obj) (ho:af o) (k:Nat):Tl o 370 (L_ k:Rw S):=ah (Sn k) ⟨AG o ho k,GF o ho k,trivial⟩ Tryz.func370 (by kernel_rfl) fun b c0 κ x h=>Eq.trans (by kernel_rfl) (aj h)
def Ma {S:Type} (k:Nat):Rw S:=ag Zd td fun l c0 κ=>aa k (uX k l c0) (w9 c0 κ)
def zm {S:Type} (k:Nat):Fx S:=fp 29 [(370,L_ k)] [(3,⟨[(1,.none),(5,some (100005,true)),(10,.none),(11,.none),(12,.none)],[(1000000,[.none,.none])]⟩,ao 5 11)] k Tryz.f347 1
def Jk (c0:Cl) (l:List Cl) (v12:Int) (out5:List Cl):St UU:=⟨[(1,(.func 370 [] [(pt 1000000)])),(5,(.own 100005 0)),(10,(sC l)),(11,(.int .i64 (l.length:Int))),(12,(iI v12))],[(1000000,bC c0)],[(100005,⟨0,ET.C,out5⟩)],[(100005,.wr)]⟩
section
variable {S:Type} (k:Nat) (l:List Cl) (c0:Cl) (κ:Out UU→Option S)
theorem UD: ∀n v12 out5,(zm k).lp κ 3 [] n (Jk c0 l v12 out5)=nw k (w9 c0 κ) c0 l n v12 out5:=aE (tw k (w9 c0 κ) c0 l) rfl (fun _=>rfl) fun r v12 out5=>by kernel_rfl
end
theorem XQ {S:Type} (o:Obj) (ho:af o) (k:Nat):Tl o 347 (Ma k:Rw S):=ah (zm k) ⟨XP o ho k,trivial⟩ Tryz.func347 (by kernel_rfl) fun l c0 κ x h=>Eq.trans (b:=DP k (w9 c0 κ) (fun v12 out5=>(zm k).lp κ 3 [] k (Jk c0 l v12 out5)) l c0) (by kernel_rfl) (Eq.trans (by simp only [UD];rfl) (aj h))
def Mb {S:Type} (k:Nat):Rw S:=ag gP xn fun f g κ=>aa k (mG k f g) (au κ)
def zn {S:Type} (k:Nat):Fx S:=fp 25 [(236,g4 k),(347,Ma k)] [(3,⟨[(1,.none),(6,some (100006,true)),(9,.none),(10,.none),(11,.none)],[]⟩,ao 5 11)] k Tryz.f336 0
def Jl (g f:List Cl) (v11:Int) (out6:List Cl):St UU:=⟨[(1,(sC g)),(6,(.own 100006 0)),(9,(sC f)),(10,(.int .i64 (f.length:Int))),(11,(iI v11))],[],[(100006,⟨0,ET.C,out6⟩)],[(100006,.wr)]⟩
section
variable {S:Type} (k:Nat) (f g:List Cl) (κ:Out UU→Option S)
theorem UE: ∀n v11 out6,(zn k).lp κ 3 [] n (Jl g f v11 out6)=ny k (au κ) g f n v11 out6:=aE (tz k (au κ) g f) rfl (fun _=>rfl) fun r v11 out6=>by kernel_rfl
end
theorem XR {S:Type} (o:Obj) (ho:af o) (k:Nat):Tl o 336 (Mb k:Rw S):=ah (zn k) ⟨iH o ho k,XQ o ho k,trivial⟩ Tryz.func336 (by kernel_rfl) fun f g κ x h=>Eq.trans (b:=DR k (au κ) (fun v11 out6=>(zn k).lp κ 3 [] k (Jl g f v11 out6)) f g) (by kernel_rfl) (Eq.trans (by simp only [UE];rfl) (aj h))
def Mc {S:Type} (k:Nat):Rw S:=ag gP xn fun f g κ=>aa k (uW k f g) (au κ)
def So {S:Type} (k:Nat):Fx S:=fp 14 [(236,g4 k)] [] k Tryz.f338 0
theorem XS {S:Type} (o:Obj) (ho:af o) (k:Nat):Tl o 338 (Mc k:Rw S):=ah (So k) ⟨iH o ho k,trivial⟩ Tryz.func338 (by kernel_rfl) fun f g κ x h=>Eq.trans (by kernel_rfl) (aj h)
def xF {S:Type} (k:Nat):Rw S:=ag cn xn fun κ=>aa k (mI k) (eF κ)
def Sp {S:Type} (k:Nat):Fx S:=fp 3 [] [] k Tryz.f150 0
theorem AT {S:Type} (o:Obj) (ho:af o) (k:Nat):Tl o 150 (xF k:Rw S):=ah (Sp k) trivial Tryz.func150 (by kernel_rfl) fun κ x h=>Eq.trans (by kernel_rfl) (aj h)
def Md {S:Type} (k:Nat):Rw S:=ag lm xn fun c κ=>aa k (u9 k c) (au κ)
def pc {S:Type} (k:Nat):Fx S:=fp 43 [(236,g4 k),(325,sH k),(396,C9)] [(3,⟨[(1,.none),(4,some (100004,true)),(11,.none),(12,.none),(13,.none)],[(1,[.none,.none])]⟩,ao 5 11),(8,⟨[(4,some (100004,true)),(26,.none),(27,.none),(28,.none)],[]⟩,ao 6 23)] k Tryz.f368 0
def B8 (c:Cl) (r1:List Int) (v13:Int) (out4:List Cl):St UU:=⟨[(1,(pt 1)),(4,(.own 100004 0)),(11,(gj r1 .none)),(12,(.int .i64 (r1.length:Int))),(13,(iI v13))],[(1,bC c)],[(100004,⟨0,ET.C,out4⟩)],[(100004,.wr)]⟩
def Jm (r5:List Int) (v28:Int) (out4':List Cl):St UU:=⟨[(4,(.own 100004 0)),(26,(gj r5 .none)),(27,(.int .i64 (r5.length:Int))),(28,(iI v28))],[],[(100004,⟨0,ET.C,out4'⟩)],[(100004,.wr)]⟩
section
variable {S:Type} (k:Nat) (c:Cl) (κ:Out UU→Option S)
theorem UG (r5): ∀n v28 out4',(pc k).lp κ 8 [] n (Jm r5 v28 out4')=lu k (au κ) r5 n v28 out4':=aE (tG k (au κ) r5) rfl (fun _=>rfl) fun r v28 out4'=>by kernel_rfl
theorem UF (r1): ∀n v13 out4,(pc k).lp κ 3 [] n (B8 c r1 v13 out4)=nD k (au κ) c r1 n v13 out4:=aE (fun own=>po k (au κ) c r1 (fun r5 v28 out4'=>lu k (au κ) r5 k v28 out4') own) rfl (fun _=>rfl) fun r v13 out4=>Eq.trans (b:=po k (au κ) c r1 (fun r5 v28 out4'=>(pc k).lp κ 8 [] k (Jm r5 v28 out4')) (fun v13 out4=>r (B8 c r1 v13 out4)) v13 out4) (by kernel_rfl) (by simp only [UG])
end
theorem XT {S:Type} (o:Obj) (ho:af o) (k:Nat):Tl o 368 (Md k:Rw S):=ah (pc k) ⟨iH o ho k,vS o ho k,afQ o ho,trivial⟩ Tryz.func368 (by kernel_rfl) fun c κ x h=>Eq.trans (b:=DZ k (au κ) (fun r1 v13 out4=>(pc k).lp κ 3 [] k (B8 c r1 v13 out4)) c) (by kernel_rfl) (Eq.trans (by simp only [UF];rfl) (aj h))
def C2 {S:Type} (k:Nat):Rw S:=ag gP xn fun f g κ=>aa k (iw k f g) (au κ)
def pd {S:Type} (k:Nat):Fx S:=fp 35 [(236,g4 k),(355,xq k)] [(3,⟨[(1,.none),(6,some (100006,true)),(11,.none),(12,.none),(13,.none)],[]⟩,ao 5 11),(6,⟨[(1,.none),(6,some (100006,true)),(8,.none),(11,.none),(12,.none),(13,.none),(17,.none),(18,.none),(19,.none)],[(8,[.none,.none])]⟩,ao 13 3275)] k Tryz.f331 0
def rX (g f:List Cl) (v13:Int) (out6:List Cl):St UU:=⟨[(1,(sC g)),(6,(.own 100006 0)),(11,(sC f)),(12,(.int .i64 (f.length:Int))),(13,(iI v13))],[],[(100006,⟨0,ET.C,out6⟩)],[(100006,.wr)]⟩
def Jn (x1:Cl) (g f:List Cl) (v13:Int) (v19:Int) (out6':List Cl):St UU:=⟨[(1,(sC g)),(6,(.own 100006 0)),(8,(pt 8)),(11,(sC f)),(12,(.int .i64 (f.length:Int))),(13,(iI v13)),(17,(sC g)),(18,(.int .i64 (g.length:Int))),(19,(iI v19))],[(8,bC x1)],[(100006,⟨0,ET.C,out6'⟩)],[(100006,.wr)]⟩
section
variable {S:Type} (k:Nat) (f g:List Cl) (κ:Out UU→Option S)
theorem UI (x1 v13 κ0): ∀n v19 out6',(pd k).lp κ 6 [κ0] n (Jn x1 g f v13 v19 out6')=lr k (au κ) (fun v13 out6=>κ0 (rX g f v13 out6)) x1 g f v13 n v19 out6':=aE (tF k (au κ) x1 g f v13 (fun v13 out6=>κ0 (rX g f v13 out6))) rfl (fun _=>rfl) fun r v19 out6'=>by kernel_rfl
theorem UH: ∀n v13 out6,(pd k).lp κ 3 [] n (rX g f v13 out6)=jY k (au κ) g f n v13 out6:=aE (fun own=>pn k (au κ) g f (fun x1 v13 v19 out6'=>lr k (au κ) own x1 g f v13 k v19 out6') own) rfl (fun _=>rfl) fun r v13 out6=>Eq.trans (b:=pn k (au κ) g f (fun x1 v13 v19 out6'=>(pd k).lp κ 6 [r] k (Jn x1 g f v13 v19 out6')) (fun v13 out6=>r (rX g f v13 out6)) v13 out6) (by kernel_rfl) (by simp only [UI])
end
theorem GI {S:Type} (o:Obj) (ho:af o) (k:Nat):Tl o 331 (C2 k:Rw S):=ah (pd k) ⟨iH o ho k,AG o ho k,trivial⟩ Tryz.func331 (by kernel_rfl) fun f g κ x h=>Eq.trans (b:=DY k (au κ) (fun v13 out6=>(pd k).lp κ 3 [] k (rX g f v13 out6)) f g) (by kernel_rfl) (Eq.trans (by simp only [UH];rfl) (aj h))
def Me {S:Type} (k:Nat):Rw S:=ag Hw xn fun a_have c κ=>aa k (u7 k a_have c) (au κ)
def Sq {S:Type} (k:Nat):Fx S:=fp 21 [(331,C2 k),(368,Md k)] [] k Tryz.f367 0
theorem XU {S:Type} (o:Obj) (ho:af o) (k:Nat):Tl o 367 (Me k:Rw S):=ah (Sq k) ⟨GI o ho k,XT o ho k,trivial⟩ Tryz.func367 (by kernel_rfl) fun a_have c κ x h=>Eq.trans (by kernel_rfl) (aj h)
def Mf {S:Type} (k:Nat):Rw S:=ag Ze xn fun l a_from κ=>aa k (Ai k l a_from) (au κ)
def zo {S:Type} (k:Nat):Fx S:=fp 33 [(367,Me k)] [(2,aI [1,2,13,14,15] [],ao 4 5)] k Tryz.f232 0
def Jo (l:List Cl) (v1:List Cl) (v15:Int):St UU:=⟨[(1,(sC v1)),(2,(.func 367 [] [])),(13,(sC l)),(14,(.int .i64 (l.length:Int))),(15,(iI v15))],[],[],[]⟩
section
variable {S:Type} (k:Nat) (l a_from:List Cl) (κ:Out UU→Option S)
theorem UJ: ∀n v1 v15,(zo k).lp κ 2 [] n (Jo l v1 v15)=nB k (au κ) l n v1 v15:=aE (tC k (au κ) l) rfl (fun _=>rfl) fun r v1 v15=>by kernel_rfl
end
theorem XV {S:Type} (o:Obj) (ho:af o) (k:Nat):Tl o 232 (Mf k:Rw S):=ah (zo k) ⟨XU o ho k,trivial⟩ Tryz.func232 (by kernel_rfl) fun l a_from κ x h=>Eq.trans (b:=DW k (au κ) (fun v1 v15=>(zo k).lp κ 2 [] k (Jo l v1 v15)) l a_from) (by kernel_rfl) (Eq.trans (by simp only [UJ];rfl) (aj h))
end
end Go.Proofs.YtehekgbehghgdaaGreatDoor
namespace Go.Proofs.YtehekgbehghgdaaGreatDoor
open Go PI
set_option linter.unusedVariables false
set_option maxRecDepth 100000
noncomputable section
def C3 {S:Type} (k:Nat):Rw S:=ag dK xn fun f κ=>aa k (mJ k f) (au κ)
def Sr {S:Type} (k:Nat):Fx S:=fp 9 [(150,xF k),(232,Mf k)] [] k Tryz.f332 0
theorem GJ {S:Type} (o:Obj) (ho:af o) (k:Nat):Tl o 332 (C3 k:Rw S):=ah (Sr k) ⟨AT o ho k,XV o ho k,trivial⟩ Tryz.func332 (by kernel_rfl) fun f κ x h=>Eq.trans (by kernel_rfl) (aj h)
def Mh {S:Type} (k:Nat):Rw S:=ag dK xn fun f κ=>aa k (u3 k f) (au κ)
def Su {S:Type} (k:Nat):Fx S:=fp 15 [(231,xz k),(332,C3 k)] [] k Tryz.f371 0
theorem XX {S:Type} (o:Obj) (ho:af o) (k:Nat):Tl o 371 (Mh k:Rw S):=ah (Su k) ⟨AO o ho k,GJ o ho k,trivial⟩ Tryz.func371 (by kernel_rfl) fun f κ x h=>Eq.trans (by kernel_rfl) (aj h)
def Mi {S:Type} (k:Nat):Rw S:=ag dK xn fun f κ=>aa k (uT k f) (au κ)
def Sv {S:Type} (k:Nat):Fx S:=fp 18 [(335,C0 k),(371,Mh k)] [] k Tryz.f337 0
theorem XY {S:Type} (o:Obj) (ho:af o) (k:Nat):Tl o 337 (Mi k:Rw S):=ah (Sv k) ⟨GG o ho k,XX o ho k,trivial⟩ Tryz.func337 (by kernel_rfl) fun f κ x h=>Eq.trans (by kernel_rfl) (aj h)
def Mj {S:Type} (k:Nat):Rw S:=ag ww xn fun f i a_r κ=>aa k (uU k f i a_r) (au κ)
def pe {S:Type} (k:Nat):Fx S:=fp 92 [(257,mb k),(260,sI k),(286,CS k),(328,xw k),(334,L8 k),(335,C0 k),(336,Mb k),(337,Mi k),(338,Mc k)] [(5,aI [1,2,8,27,28,29] [],ao 6 23),(1000018,aI [1,2,8,11,13,27,28,29] [],ao 16 63895)] k Tryz.f264 0
def rY (i:Int) (a_r f:List Cl) (v29:Int) (v8:List Cl):St UU:=⟨[(1,(iI i)),(2,(sC a_r)),(8,(sC v8)),(27,(sC f)),(28,(.int .i64 (f.length:Int))),(29,(iI v29))],[],[],[]⟩
def Jp (i:Int) (a_r f:List Cl) (v29:Int) (v8:List Cl) (g11:List Cl) (v13:Int):St UU:=⟨[(1,(iI i)),(2,(sC a_r)),(8,(sC v8)),(11,(sC g11)),(13,(iI v13)),(27,(sC f)),(28,(.int .i64 (f.length:Int))),(29,(iI v29))],[],[],[]⟩
section
variable {S:Type} (k:Nat) (f:List Cl) (i:Int) (a_r:List Cl) (κ:Out UU→Option S)
theorem UL (v29 v8 κ0): ∀n g11 v13,(pe k).jn κ 1000018 [κ0] n (Jp i a_r f v29 v8 g11 v13)=nu k (au κ) (fun v29 v8=>κ0 (rY i a_r f v29 v8)) i a_r f v29 v8 n g11 v13:=Hl (tv k (au κ) i a_r f v29 v8 (fun v29 v8=>κ0 (rY i a_r f v29 v8))) rfl (fun _=>rfl) (fun g11 v13=>by kernel_rfl)
theorem UK: ∀n v29 v8,(pe k).lp κ 5 [] n (rY i a_r f v29 v8)=jX k (au κ) i a_r f n v29 v8:=aE (fun own=>pm k (au κ) i a_r f (fun v29 v8 g11 v13=>nu k (au κ) own i a_r f v29 v8 k g11 v13) own) rfl (fun _=>rfl) fun r v29 v8=>Eq.trans (b:=pm k (au κ) i a_r f (fun v29 v8 g11 v13=>(pe k).jn κ 1000018 [r] k (Jp i a_r f v29 v8 g11 v13)) (fun v29 v8=>r (rY i a_r f v29 v8)) v29 v8) (by kernel_rfl) (by simp only [UL])
end
theorem XZ {S:Type} (o:Obj) (ho:af o) (k:Nat):Tl o 264 (Mj k:Rw S):=ah (pe k) ⟨m_ o ho k,vT o ho k,Gy o ho k,AL o ho k,XN o ho k,GG o ho k,XR o ho k,XY o ho k,XS o ho k,trivial⟩ Tryz.func264 (by kernel_rfl) fun f i a_r κ x h=>Eq.trans (b:=DO k (au κ) (fun v29 v8=>(pe k).lp κ 5 [] k (rY i a_r f v29 v8)) f i a_r) (by kernel_rfl) (Eq.trans (by simp only [UK];rfl) (aj h))
def C4 {S:Type} (k:Nat):Rw S:=ag Bn ago fun f depth c0 c1 κ=>aa k (qe k f depth c0 c1) (acW c0 c1 κ)
def Sw {S:Type} (k:Nat):Fx S:=fp 38 [(151,me k),(260,sI k),(261,xx k),(262,CY k),(264,Mj k)] [] k Tryz.f259 3
theorem GK {S:Type} (o:Obj) (ho:af o) (k:Nat):Tl o 259 (C4 k:Rw S):=ah (Sw k) ⟨nc o ho k,vT o ho k,AM o ho k,GE o ho k,XZ o ho k,trivial⟩ Tryz.func259 (by kernel_rfl) fun f depth c0 c1 κ x h=>Eq.trans (by kernel_rfl) (aj h)
def Mk {S:Type} (k:Nat):Rw S:=ag eS xn fun i κ=>aa k (u1 k i) (au κ)
def Sx {S:Type} (k:Nat):Fx S:=fp 12 [(324,xD k),(325,sH k)] [] k Tryz.f329 0
theorem X0 {S:Type} (o:Obj) (ho:af o) (k:Nat):Tl o 329 (Mk k:Rw S):=ah (Sx k) ⟨AR o ho k,vS o ho k,trivial⟩ Tryz.func329 (by kernel_rfl) fun i κ x h=>Eq.trans (by kernel_rfl) (aj h)
def Ml {S:Type} (k:Nat):Rw S:=ag gP xn fun f g κ=>aa k (kY k f g) (au κ)
def Sy {S:Type} (k:Nat):Fx S:=fp 14 [(236,g4 k)] [] k Tryz.f333 0
theorem X1 {S:Type} (o:Obj) (ho:af o) (k:Nat):Tl o 333 (Ml k:Rw S):=ah (Sy k) ⟨iH o ho k,trivial⟩ Tryz.func333 (by kernel_rfl) fun f g κ x h=>Eq.trans (by kernel_rfl) (aj h)
def Mm {S:Type} (k:Nat):Rw S:=ag Zg te fun a_have c c0 c1 κ=>aa k (u5 k a_have c c0 c1) (sk c0 c1 κ)
def Sz {S:Type} (k:Nat):Fx S:=fp 63 [(260,sI k),(328,xw k),(331,C2 k),(332,C3 k),(333,Ml k)] [] k Tryz.f330 2
theorem X2 {S:Type} (o:Obj) (ho:af o) (k:Nat):Tl o 330 (Mm k:Rw S):=ah (Sz k) ⟨vT o ho k,AL o ho k,GI o ho k,GJ o ho k,X1 o ho k,trivial⟩ Tryz.func330 (by kernel_rfl) fun a_have c c0 c1 κ x h=>Eq.trans (by kernel_rfl) (aj h)
def Mn {S:Type} (k:Nat):Rw S:=ag Zh te fun l a_from c0 c1 κ=>aa k (Ah k l a_from c0 c1) (sk c0 c1 κ)
def zp {S:Type} (k:Nat):Fx S:=fp 33 [(330,Mm k)] [(2,aI [1,2,13,14,15] [(1000000,1),(1000001,1)],ao 4 5)] k Tryz.f232 2
def Jq (c0:Int) (c1 l:List Cl) (v1:List Cl) (v15:Int):St UU:=⟨[(1,(sC v1)),(2,(.func 330 [] [(pt 1000000),(pt 1000001)])),(13,(sC l)),(14,(.int .i64 (l.length:Int))),(15,(iI v15))],[(1000000,bI c0),(1000001,.cells [(sC c1)])],[],[]⟩
section
variable {S:Type} (k:Nat) (l a_from:List Cl) (c0:Int) (c1:List Cl) (κ:Out UU→Option S)
theorem UM: ∀n v1 v15,(zp k).lp κ 2 [] n (Jq c0 c1 l v1 v15)=nA k (sk c0 c1 κ) c0 c1 l n v1 v15:=aE (tB k (sk c0 c1 κ) c0 c1 l) rfl (fun _=>rfl) fun r v1 v15=>by kernel_rfl
end
theorem X3 {S:Type} (o:Obj) (ho:af o) (k:Nat):Tl o 232 (Mn k:Rw S):=ah (zp k) ⟨X2 o ho k,trivial⟩ Tryz.func232 (by kernel_rfl) fun l a_from c0 c1 κ x h=>Eq.trans (b:=DV k (sk c0 c1 κ) (fun v1 v15=>(zp k).lp κ 2 [] k (Jq c0 c1 l v1 v15)) l a_from c0 c1) (by kernel_rfl) (Eq.trans (by simp only [UM];rfl) (aj h))
def Mo {S:Type} (k:Nat):Rw S:=ag ww xn fun f i a_r κ=>aa k (u4 k f i a_r) (au κ)
def SA {S:Type} (k:Nat):Fx S:=fp 32 [(231,xz k),(232,Mn k),(233,CV k),(329,Mk k)] [] k Tryz.f263 0
theorem X4 {S:Type} (o:Obj) (ho:af o) (k:Nat):Tl o 263 (Mo k:Rw S):=ah (SA k) ⟨AO o ho k,X3 o ho k,GB o ho k,X0 o ho k,trivial⟩ Tryz.func263 (by kernel_rfl) fun f i a_r κ x h=>Eq.trans (by kernel_rfl) (aj h)
def Mp {S:Type} (k:Nat):Rw S:=ag Bn P7 fun f depth c0 c1 κ=>aa k (uP k f depth c0 c1) (acX c0 c1 κ)
def SB {S:Type} (k:Nat):Fx S:=fp 38 [(151,me k),(260,sI k),(261,xx k),(262,CY k),(263,Mo k)] [] k Tryz.f259 3
theorem X5 {S:Type} (o:Obj) (ho:af o) (k:Nat):Tl o 259 (Mp k:Rw S):=ah (SB k) ⟨nc o ho k,vT o ho k,AM o ho k,GE o ho k,X4 o ho k,trivial⟩ Tryz.func259 (by kernel_rfl) fun f depth c0 c1 κ x h=>Eq.trans (by kernel_rfl) (aj h)
def Kc {S:Type} (k:Nat):Rw S:=ag Bp E7 fun t depth c0 c1 κ=>aa k (uQ k t depth c0 c1) (acY c0 c1 κ)
def Qd {S:Type} (k:Nat):Fx S:=fp 27 [(259,lZ (qV Bn P7) (Mp k) (C4 k))] [] k Tryz.f265 4
theorem VU {S:Type} (o:Obj) (ho:af o) (k:Nat):Tl o 265 (Kc k:Rw S):=ah (Qd k) ⟨sg (X5 o ho k) (GK o ho k),trivial⟩ Tryz.func265 (by kernel_rfl) fun t depth c0 c1 κ x h=>Eq.trans (by kernel_rfl) (aj h)
def Cr {S:Type} (k:Nat):Rw S:=ag Hx agp fun i c0 κ=>aa k (qf k i c0) (acZ c0 κ)
def Qe {S:Type} (k:Nat):Fx S:=fp 14 [(255,g5 k)] [] k Tryz.f267 1
theorem Gf {S:Type} (o:Obj) (ho:af o) (k:Nat):Tl o 267 (Cr k:Rw S):=ah (Qe k) ⟨iJ o ho k,trivial⟩ Tryz.func267 (by kernel_rfl) fun i c0 κ x h=>Eq.trans (by kernel_rfl) (aj h)
def Ct {S:Type} (k:Nat):Rw S:=ag Hx bU fun p c0 κ=>aa k (qh k p c0) (ac0 c0 κ)
def Qf {S:Type} (k:Nat):Fx S:=fp 5 [] [] k Tryz.f268 1
theorem Gg {S:Type} (o:Obj) (ho:af o) (k:Nat):Tl o 268 (Ct k:Rw S):=ah (Qf k) trivial Tryz.func268 (by kernel_rfl) fun p c0 κ x h=>Eq.trans (by kernel_rfl) (aj h)
def oz {S:Type} (hd:cA S):Rw S:=ag Bp E7 fun t depth c0 c1 κ=>hd t depth c0 c1 (w_ c0 c1 κ)
def Kd {S:Type} (hd:cA S) (k:Nat):Rw S:=ag Hy P8 fun l depth c0 c1 c4 κ=>aa k (Ae hd k l depth c0 c1 c4) (xa c0 c1 c4 κ)
def yz {S:Type} (hd:cA S) (k:Nat):Fx S:=fp 42 [(176,oz hd),(268,Ct k)] [(3,⟨[(2,.none),(3,.none),(4,.none),(10,some (100010,true)),(15,.none),(16,.none),(17,.none)],[(4,[.none,.none]),(1000000,[.none]),(1000001,[.none]),(1000002,[.none]),(1000003,[.none]),(1000004,[.none])]⟩,ao 5 11)] k Tryz.f266 5
def H3 (c0:Int) (c1:List Cl) (c4:Int) (l:List Tm) (depth:Int) (out10:List Tm) (v17:Int):St UU:=⟨[(2,(iI depth)),(3,(.func 268 [] [(pt 1000004)])),(4,(pt 4)),(10,(.own 100010 0)),(15,(sT l)),(16,(.int .i64 (l.length:Int))),(17,(iI v17))],[(4,.cells [(.func 259 [] [(pt 1000000),(pt 1000001),(pt 1000002)]),(.func 259 [] [(pt 1000000),(pt 1000001),(pt 1000003)])]),(1000000,bI c0),(1000001,.cells [(sC c1)]),(1000002,.cells [(.func 263 [] [])]),(1000003,.cells [(.func 264 [] [])]),(1000004,bI c4)],[(100010,⟨0,ET.T,out10⟩)],[(100010,.wr)]⟩
section
variable {S:Type} (hd:cA S) (k:Nat) (l:List Tm) (depth c0:Int) (c1:List Cl) (c4:Int) (κ:Out UU→Option S)
theorem SI: ∀n out10 v17,(yz hd k).lp κ 3 [] n (H3 c0 c1 c4 l depth out10 v17)=jV hd k (xa c0 c1 c4 κ) c0 c1 c4 l depth n out10 v17:=aE (tq hd k (xa c0 c1 c4 κ) c0 c1 c4 l depth) rfl (fun _=>rfl) fun r out10 v17=>by kernel_rfl
end
theorem VW {S:Type} (o:Obj) (ho:af o) (hd:cA S) (Hd:Tl o 176 (oz hd)) (k:Nat):Tl o 266 (Kd hd k:Rw S):=ah (yz hd k) ⟨Hd,Gg o ho k,trivial⟩ Tryz.func266 (by kernel_rfl) fun l depth c0 c1 c4 κ x h=>Eq.trans (b:=DH hd k (xa c0 c1 c4 κ) (fun out10 v17=>(yz hd k).lp κ 3 [] k (H3 c0 c1 c4 l depth out10 v17)) l depth c0 c1 c4) (by kernel_rfl) (Eq.trans (by simp only [SI];rfl) (aj h))
def Ke {S:Type} (hd:cA S) (k:Nat):Rw S:=ag Zj agq fun l depth c0 c1 c4 κ=>aa k (Af hd k l depth c0 c1 c4) (xb c0 c1 c4 κ)
def yA {S:Type} (hd:cA S) (k:Nat):Fx S:=fp 42 [(176,oz hd),(267,Cr k)] [(3,⟨[(2,.none),(3,.none),(4,.none),(10,some (100010,true)),(15,.none),(16,.none),(17,.none)],[(4,[.none,.none]),(1000000,[.none]),(1000001,[.none]),(1000002,[.none]),(1000003,[.none]),(1000004,[.none,.none,.none,.none,.none,.none])]⟩,ao 5 11)] k Tryz.f266 5
def H4 (c0:Int) (c1:List Cl) (c4:Tm) (l:List Tm) (depth:Int) (out10:List Tm) (v17:Int):St UU:=⟨[(2,(iI depth)),(3,(.func 267 [] [(pt 1000004)])),(4,(pt 4)),(10,(.own 100010 0)),(15,(sT l)),(16,(.int .i64 (l.length:Int))),(17,(iI v17))],[(4,.cells [(.func 259 [] [(pt 1000000),(pt 1000001),(pt 1000002)]),(.func 259 [] [(pt 1000000),(pt 1000001),(pt 1000003)])]),(1000000,bI c0),(1000001,.cells [(sC c1)]),(1000002,.cells [(.func 263 [] [])]),(1000003,.cells [(.func 264 [] [])]),(1000004,bT c4)],[(100010,⟨0,ET.T,out10⟩)],[(100010,.wr)]⟩
section
variable {S:Type} (hd:cA S) (k:Nat) (l:List Tm) (depth c0:Int) (c1:List Cl) (c4:Tm) (κ:Out UU→Option S)
theorem SJ: ∀n out10 v17,(yA hd k).lp κ 3 [] n (H4 c0 c1 c4 l depth out10 v17)=jW hd k (xb c0 c1 c4 κ) c0 c1 c4 l depth n out10 v17:=aE (tr hd k (xb c0 c1 c4 κ) c0 c1 c4 l depth) rfl (fun _=>rfl) fun r out10 v17=>by kernel_rfl
end
theorem VX {S:Type} (o:Obj) (ho:af o) (hd:cA S) (Hd:Tl o 176 (oz hd)) (k:Nat):Tl o 266 (Ke hd k:Rw S):=ah (yA hd k) ⟨Hd,Gf o ho k,trivial⟩ Tryz.func266 (by kernel_rfl) fun l depth c0 c1 c4 κ x h=>Eq.trans (b:=DI hd k (xb c0 c1 c4 κ) (fun out10 v17=>(yA hd k).lp κ 3 [] k (H4 c0 c1 c4 l depth out10 v17)) l depth c0 c1 c4) (by kernel_rfl) (Eq.trans (by simp only [SJ];rfl) (aj h))
def yy {S:Type} (hd:cA S) (k:Nat):Fx S:=fp 98 [(259,C4 k),(265,Kc k),(266,lZ (qV Hy P8) (Kd hd k) (Ke hd k))] [(13,⟨[(2,.none),(3,.none),(6,.none),(8,.none),(10,.none),(53,.none),(54,.none),(55,.none)],[(3,[.none,.none]),(6,[.none,.none,.none,some (200387,true),some (200388,true),some (200389,true)]),(8,[.none,.none,.none,.none,.none,some (200517,true)]),(10,[.none]),(1000000,[.none]),(1000001,[.none]),(1000002,[.none]),(1000003,[.none])]⟩,ao 11 767)] k Tryz.f176 4
def H2 (c0:Int) (c1:List Cl) (t:Tm) (r1:List Cl×Int) (r2:List Tm×Int) (depth:Int) (b10_0:Int) (b8_5:List (Br Tm)) (v55:Int):St UU:=⟨[(2,(iI depth)),(3,(pt 3)),(6,(pt 6)),(8,(pt 8)),(10,(pt 10)),(53,(sB t.sys)),(54,(.int .i64 (t.sys.length:Int))),(55,(iI v55))],[(3,.cells [(.func 259 [] [(pt 1000000),(pt 1000001),(pt 1000002)]),(.func 259 [] [(pt 1000000),(pt 1000001),(pt 1000003)])]),(6,.cells [(iI 0),(iI 0),(.str ByteArray.empty),(.own 200387 0),(.own 200388 0),(.own 200389 0)]),(8,.cells [(iI t.kind),(iI t.n),(.str t.name),(sC r1.1),(sT r2.1),(.own 200517 0)]),(10,bI b10_0),(1000000,bI c0),(1000001,.cells [(sC c1)]),(1000002,.cells [(.func 263 [] [])]),(1000003,.cells [(.func 264 [] [])])],[(200517,⟨0,ET.B,b8_5⟩),(200389,⟨0,ET.B,([]:List (Br Tm))⟩),(200388,⟨0,ET.T,([]:List Tm)⟩),(200387,⟨0,ET.C,([]:List Cl)⟩)],[(200517,.wr),(200389,.wr),(200388,.wr),(200387,.wr)]⟩
section
variable {S:Type} (hd:cA S) (k:Nat) (t:Tm) (depth c0:Int) (c1:List Cl) (κ:Out UU→Option S)
theorem SH (r1 r2): ∀n b10_0 b8_5 v55,(yy hd k).lp κ 13 [] n (H2 c0 c1 t r1 r2 depth b10_0 b8_5 v55)=eT hd k (w_ c0 c1 κ) c0 c1 t r1 r2 depth n b10_0 b8_5 v55:=d_ (tt hd k (w_ c0 c1 κ) c0 c1 t r1 r2 depth) rfl (fun _=>rfl) fun r b10_0 b8_5 v55=>by kernel_rfl
end
theorem A4 {S:Type} (o:Obj) (ho:af o): ∀k:Nat,Tl o 176 (oz (dA k:cA S))
 |0=>dv fun t depth c0 c1 κ x h=>by cases h
 |k+1=>ah (yy (dA k) k) ⟨GK o ho k,VU o ho k,sg (VW o ho (dA k) (A4 o ho k) k) (VX o ho (dA k) (A4 o ho k) k),trivial⟩ Tryz.func176 (by kernel_rfl) fun t depth c0 c1 κ x h=>Eq.trans (b:=DL (dA k) k (w_ c0 c1 κ) (fun r1 r2 b10_0 b8_5 v55=>(yy (dA k) k).lp κ 13 [] k (H2 c0 c1 t r1 r2 depth b10_0 b8_5 v55)) t depth c0 c1) (by kernel_rfl) (Eq.trans (by simp only [SH];rfl) h)
def Kf {S:Type} (k:Nat):Rw S:=ag eS xn fun i κ=>aa k (z8 k i) (ac1 κ)
def Qg {S:Type} (k:Nat):Fx S:=fp 8 [] [] k Tryz.f177 0
theorem VY {S:Type} (o:Obj) (ho:af o) (k:Nat):Tl o 177 (Kf k:Rw S):=ah (Qg k) trivial Tryz.func177 (by kernel_rfl) fun i κ x h=>Eq.trans (by kernel_rfl) (aj h)
def Kg {S:Type} (k:Nat):Rw S:=ag jR xn fun s i κ=>aa k (mL k s i) (bG κ)
def Qh {S:Type} (k:Nat):Fx S:=fp 24 [(327,sD k),(339,CW k)] [] k Tryz.f270 0
theorem VZ {S:Type} (o:Obj) (ho:af o) (k:Nat):Tl o 270 (Kg k:Rw S):=ah (Qh k) ⟨vR o ho k,GC o ho k,trivial⟩ Tryz.func270 (by kernel_rfl) fun s i κ x h=>Eq.trans (by kernel_rfl) (aj h)
def Cu {S:Type} (k:Nat):Rw S:=ag Zk bU fun f depth c0 κ=>aa k (mE k f depth c0) (sn c0 κ)
def yB {S:Type} (k:Nat):Fx S:=fp 37 [(236,g4 k),(270,Kg k)] [(3,⟨[(1,.none),(2,.none),(7,some (100007,true)),(10,.none),(11,.none),(12,.none)],[(1000000,[.none])]⟩,ao 5 11)] k Tryz.f269 1
def H5 (c0 depth:Int) (f:List Cl) (v12:Int) (out7:List Cl):St UU:=⟨[(1,(iI depth)),(2,(pt 1000000)),(7,(.own 100007 0)),(10,(sC f)),(11,(.int .i64 (f.length:Int))),(12,(iI v12))],[(1000000,bI c0)],[(100007,⟨0,ET.C,out7⟩)],[(100007,.wr)]⟩
section
variable {S:Type} (k:Nat) (f:List Cl) (depth c0:Int) (κ:Out UU→Option S)
theorem SK: ∀n v12 out7,(yB k).lp κ 3 [] n (H5 c0 depth f v12 out7)=nr k (sn c0 κ) c0 depth f n v12 out7:=aE (tl k (sn c0 κ) c0 depth f) rfl (fun _=>rfl) fun r v12 out7=>by kernel_rfl
end
theorem Gi {S:Type} (o:Obj) (ho:af o) (k:Nat):Tl o 269 (Cu k:Rw S):=ah (yB k) ⟨iH o ho k,VZ o ho k,trivial⟩ Tryz.func269 (by kernel_rfl) fun f depth c0 κ x h=>Eq.trans (b:=DD k (sn c0 κ) (fun v12 out7=>(yB k).lp κ 3 [] k (H5 c0 depth f v12 out7)) f depth c0) (by kernel_rfl) (Eq.trans (by simp only [SK];rfl) (aj h))
def Kh {S:Type} (k:Nat):Rw S:=ag Hz bU fun t depth c0 κ=>aa k (uR k t depth c0) (sn c0 κ)
def Qi {S:Type} (k:Nat):Fx S:=fp 27 [(269,Cu k)] [] k Tryz.f265 1
theorem V0 {S:Type} (o:Obj) (ho:af o) (k:Nat):Tl o 265 (Kh k:Rw S):=ah (Qi k) ⟨Gi o ho k,trivial⟩ Tryz.func265 (by kernel_rfl) fun t depth c0 κ x h=>Eq.trans (by kernel_rfl) (aj h)
def oA {S:Type} (hd:cB S):Rw S:=ag Hz bU fun t depth c0 κ=>hd t depth c0 (xd c0 κ)
def Kj {S:Type} (hd:cB S) (k:Nat):Rw S:=ag HA yr fun l depth c0 c1 κ=>aa k (Ac hd k l depth c0 c1) (xe c0 c1 κ)
def yD {S:Type} (hd:cB S) (k:Nat):Fx S:=fp 42 [(176,oA hd),(268,Ct k)] [(3,⟨[(2,.none),(3,.none),(4,.none),(10,some (100010,true)),(15,.none),(16,.none),(17,.none)],[(4,[.none,.none]),(1000000,[.none]),(1000001,[.none])]⟩,ao 5 11)] k Tryz.f266 2
def H7 (c0 c1:Int) (l:List Tm) (depth:Int) (out10:List Tm) (v17:Int):St UU:=⟨[(2,(iI depth)),(3,(.func 268 [] [(pt 1000001)])),(4,(pt 4)),(10,(.own 100010 0)),(15,(sT l)),(16,(.int .i64 (l.length:Int))),(17,(iI v17))],[(4,.cells [(.func 269 [] [(pt 1000000)]),(.func 269 [] [(pt 1000000)])]),(1000000,bI c0),(1000001,bI c1)],[(100010,⟨0,ET.T,out10⟩)],[(100010,.wr)]⟩
section
variable {S:Type} (hd:cB S) (k:Nat) (l:List Tm) (depth c0 c1:Int) (κ:Out UU→Option S)
theorem SM: ∀n out10 v17,(yD hd k).lp κ 3 [] n (H7 c0 c1 l depth out10 v17)=jT hd k (xe c0 c1 κ) c0 c1 l depth n out10 v17:=aE (tn hd k (xe c0 c1 κ) c0 c1 l depth) rfl (fun _=>rfl) fun r out10 v17=>by kernel_rfl
end
theorem V2 {S:Type} (o:Obj) (ho:af o) (hd:cB S) (Hd:Tl o 176 (oA hd)) (k:Nat):Tl o 266 (Kj hd k:Rw S):=ah (yD hd k) ⟨Hd,Gg o ho k,trivial⟩ Tryz.func266 (by kernel_rfl) fun l depth c0 c1 κ x h=>Eq.trans (b:=DF hd k (xe c0 c1 κ) (fun out10 v17=>(yD hd k).lp κ 3 [] k (H7 c0 c1 l depth out10 v17)) l depth c0 c1) (by kernel_rfl) (Eq.trans (by simp only [SM];rfl) (aj h))
def Kk {S:Type} (hd:cB S) (k:Nat):Rw S:=ag Zl agr fun l depth c0 c1 κ=>aa k (Ad hd k l depth c0 c1) (xg c0 c1 κ)
def yE {S:Type} (hd:cB S) (k:Nat):Fx S:=fp 42 [(176,oA hd),(267,Cr k)] [(3,⟨[(2,.none),(3,.none),(4,.none),(10,some (100010,true)),(15,.none),(16,.none),(17,.none)],[(4,[.none,.none]),(1000000,[.none]),(1000001,[.none,.none,.none,.none,.none,.none])]⟩,ao 5 11)] k Tryz.f266 2
def H8 (c0:Int) (c1:Tm) (l:List Tm) (depth:Int) (out10:List Tm) (v17:Int):St UU:=⟨[(2,(iI depth)),(3,(.func 267 [] [(pt 1000001)])),(4,(pt 4)),(10,(.own 100010 0)),(15,(sT l)),(16,(.int .i64 (l.length:Int))),(17,(iI v17))],[(4,.cells [(.func 269 [] [(pt 1000000)]),(.func 269 [] [(pt 1000000)])]),(1000000,bI c0),(1000001,bT c1)],[(100010,⟨0,ET.T,out10⟩)],[(100010,.wr)]⟩
section
variable {S:Type} (hd:cB S) (k:Nat) (l:List Tm) (depth c0:Int) (c1:Tm) (κ:Out UU→Option S)
theorem SN: ∀n out10 v17,(yE hd k).lp κ 3 [] n (H8 c0 c1 l depth out10 v17)=jU hd k (xg c0 c1 κ) c0 c1 l depth n out10 v17:=aE (tp hd k (xg c0 c1 κ) c0 c1 l depth) rfl (fun _=>rfl) fun r out10 v17=>by kernel_rfl
end
theorem V3 {S:Type} (o:Obj) (ho:af o) (hd:cB S) (Hd:Tl o 176 (oA hd)) (k:Nat):Tl o 266 (Kk hd k:Rw S):=ah (yE hd k) ⟨Hd,Gf o ho k,trivial⟩ Tryz.func266 (by kernel_rfl) fun l depth c0 c1 κ x h=>Eq.trans (b:=DG hd k (xg c0 c1 κ) (fun out10 v17=>(yE hd k).lp κ 3 [] k (H8 c0 c1 l depth out10 v17)) l depth c0 c1) (by kernel_rfl) (Eq.trans (by simp only [SN];rfl) (aj h))
def yC {S:Type} (hd:cB S) (k:Nat):Fx S:=fp 98 [(265,Kh k),(266,lZ (qV HA yr) (Kj hd k) (Kk hd k)),(269,Cu k)] [(13,⟨[(2,.none),(3,.none),(6,.none),(8,.none),(10,.none),(53,.none),(54,.none),(55,.none)],[(3,[.none,.none]),(6,[.none,.none,.none,some (200387,true),some (200388,true),some (200389,true)]),(8,[.none,.none,.none,.none,.none,some (200517,true)]),(10,[.none]),(1000000,[.none])]⟩,ao 11 767)] k Tryz.f176 1
def H6 (c0:Int) (t:Tm) (r1:List Cl×Int) (r2:List Tm×Int) (depth:Int) (b10_0:Int) (b8_5:List (Br Tm)) (v55:Int):St UU:=⟨[(2,(iI depth)),(3,(pt 3)),(6,(pt 6)),(8,(pt 8)),(10,(pt 10)),(53,(sB t.sys)),(54,(.int .i64 (t.sys.length:Int))),(55,(iI v55))],[(3,.cells [(.func 269 [] [(pt 1000000)]),(.func 269 [] [(pt 1000000)])]),(6,.cells [(iI 0),(iI 0),(.str ByteArray.empty),(.own 200387 0),(.own 200388 0),(.own 200389 0)]),(8,.cells [(iI t.kind),(iI t.n),(.str t.name),(sC r1.1),(sT r2.1),(.own 200517 0)]),(10,bI b10_0),(1000000,bI c0)],[(200517,⟨0,ET.B,b8_5⟩),(200389,⟨0,ET.B,([]:List (Br Tm))⟩),(200388,⟨0,ET.T,([]:List Tm)⟩),(200387,⟨0,ET.C,([]:List Cl)⟩)],[(200517,.wr),(200389,.wr),(200388,.wr),(200387,.wr)]⟩
section
variable {S:Type} (hd:cB S) (k:Nat) (t:Tm) (depth c0:Int) (κ:Out UU→Option S)
theorem SL (r1 r2): ∀n b10_0 b8_5 v55,(yC hd k).lp κ 13 [] n (H6 c0 t r1 r2 depth b10_0 b8_5 v55)=eU hd k (xd c0 κ) c0 t r1 r2 depth n b10_0 b8_5 v55:=d_ (tu hd k (xd c0 κ) c0 t r1 r2 depth) rfl (fun _=>rfl) fun r b10_0 b8_5 v55=>by kernel_rfl
end
theorem A5 {S:Type} (o:Obj) (ho:af o): ∀k:Nat,Tl o 176 (oA (dk k:cB S))
 |0=>dv fun t depth c0 κ x h=>by cases h
 |k+1=>ah (yC (dk k) k) ⟨V0 o ho k,sg (V2 o ho (dk k) (A5 o ho k) k) (V3 o ho (dk k) (A5 o ho k) k),Gi o ho k,trivial⟩ Tryz.func176 (by kernel_rfl) fun t depth c0 κ x h=>Eq.trans (b:=DM (dk k) k (xd c0 κ) (fun r1 r2 b10_0 b8_5 v55=>(yC (dk k) k).lp κ 13 [] k (H6 c0 t r1 r2 depth b10_0 b8_5 v55)) t depth c0) (by kernel_rfl) (Eq.trans (by simp only [SL];rfl) h)
def xm {S:Type} (k:Nat):Rw S:=ag Bm xn fun t i a_r κ=>aa k (jy k t i a_r) (dY κ)
def Qk {S:Type} (k:Nat):Fx S:=fp 48 [(151,me k),(174,L4 k),(175,L7 k),(176,lZ (qV Bp E7) (oz (dA k)) (oA (dk k))),(177,Kf k)] [] k Tryz.f94 0
theorem AD {S:Type} (o:Obj) (ho:af o) (k:Nat):Tl o 94 (xm k:Rw S):=ah (Qk k) ⟨nc o ho k,XJ o ho k,XM o ho k,sg (A4 o ho k) (A5 o ho k),VY o ho k,trivial⟩ Tryz.func94 (by kernel_rfl) fun t i a_r κ x h=>Eq.trans (by kernel_rfl) (aj h)
def Cv {S:Type} (k:Nat):Rw S:=ag HB bU fun line a_r c0 κ=>aa k (z7 k line a_r c0) (fC κ)
def Ql {S:Type} (k:Nat):Fx S:=fp 44 [(93,xB k),(94,xm k),(204,kr k),(294,md k)] [] k Tryz.f206 1
theorem Gj {S:Type} (o:Obj) (ho:af o) (k:Nat):Tl o 206 (Cv k:Rw S):=ah (Ql k) ⟨AQ o ho k,AD o ho k,lg o ho k,na o ho k,trivial⟩ Tryz.func206 (by kernel_rfl) fun line a_r c0 κ x h=>Eq.trans (by kernel_rfl) (aj h)
def Kl {S:Type} (k:Nat):Rw S:=ag HC xn fun t a sys κ=>aa k (FN k t a sys) (dY κ)
def yF {S:Type} (k:Nat):Fx S:=fp 76 [(200,CU k),(201,CT k),(202,xy k),(203,LW k),(204,kr k),(205,LX k),(206,Cv k),(207,CX k)] [(4,⟨[(4,.none),(6,.none),(8,.none),(9,.none),(27,.none),(28,.none),(29,.none)],[(4,[.none,.none,.none,.none,.none,.none]),(6,[.none,.none,.none,some (200387,true),some (200388,true),some (200389,true)]),(9,[.none,.none,.none,some (200579,true),.none,some (200581,true)]),(19000,[.none])]⟩,ao 6 23)] k Tryz.f128 0
def H9 (a:Tm) (r5:Int×Int×ByteArray×List Tm) (sys:List (Br Tm)) (b19000_0:Int) (b9_5:List (Br Tm)) (v29:Int):St UU:=⟨[(4,(pt 4)),(6,(pt 6)),(8,(pt 19000)),(9,(pt 9)),(27,(sB sys)),(28,(.int .i64 (sys.length:Int))),(29,(iI v29))],[(4,bT a),(6,.cells [(iI 0),(iI 0),(.str ByteArray.empty),(.own 200387 0),(.own 200388 0),(.own 200389 0)]),(9,.cells [(iI r5.1),(iI r5.2.1),(.str r5.2.2.1),(.own 200579 0),(sT r5.2.2.2),(.own 200581 0)]),(19000,bI b19000_0)],[(200581,⟨0,ET.B,b9_5⟩),(200579,⟨0,ET.C,([]:List Cl)⟩),(200389,⟨0,ET.B,([]:List (Br Tm))⟩),(200388,⟨0,ET.T,([]:List Tm)⟩),(200387,⟨0,ET.C,([]:List Cl)⟩)],[(200581,.wr),(200579,.wr),(200389,.wr),(200388,.wr),(200387,.wr)]⟩
section
variable {S:Type} (k:Nat) (t a:Tm) (sys:List (Br Tm)) (κ:Out UU→Option S)
theorem SO (r5): ∀n b19000_0 b9_5 v29,(yF k).lp κ 4 [] n (H9 a r5 sys b19000_0 b9_5 v29)=Bu k (dY κ) a r5 sys n b19000_0 b9_5 v29:=d_ (Fh k (dY κ) a r5 sys) rfl (fun _=>rfl) fun r b19000_0 b9_5 v29=>by kernel_rfl
end
theorem V4 {S:Type} (o:Obj) (ho:af o) (k:Nat):Tl o 128 (Kl k:Rw S):=ah (yF k) ⟨GA o ho k,Gz o ho k,AN o ho k,XD o ho k,lg o ho k,XE o ho k,Gj o ho k,GD o ho k,trivial⟩ Tryz.func128 (by kernel_rfl) fun t a sys κ x h=>Eq.trans (b:=NM k (dY κ) (fun r5 b19000_0 b9_5 v29=>(yF k).lp κ 4 [] k (H9 a r5 sys b19000_0 b9_5 v29)) t a sys) (by kernel_rfl) (Eq.trans (by simp only [SO];rfl) (aj h))
def gY {S:Type} (k:Nat):Rw S:=ag HD bU fun t a_e c0 κ=>aa k (eO k t a_e c0) (fC κ)
def Qm {S:Type} (k:Nat):Fx S:=fp 23 [] [] k Tryz.f126 1
theorem iF {S:Type} (o:Obj) (ho:af o) (k:Nat):Tl o 126 (gY k:Rw S):=ah (Qm k) trivial Tryz.func126 (by kernel_rfl) fun t a_e c0 κ x h=>Eq.trans (by kernel_rfl) (aj h)
def Km {S:Type} (k:Nat):Rw S:=ag HE bU fun t a sys c0 κ=>aa k (FZ k t a sys c0) (fC κ)
def Qn {S:Type} (k:Nat):Fx S:=fp 21 [(125,g6 k),(126,gY k),(128,Kl k)] [] k Tryz.f65 1
theorem V5 {S:Type} (o:Obj) (ho:af o) (k:Nat):Tl o 65 (Km k:Rw S):=ah (Qn k) ⟨iL o ho k,iF o ho k,V4 o ho k,trivial⟩ Tryz.func65 (by kernel_rfl) fun t a sys c0 κ x h=>Eq.trans (by kernel_rfl) (aj h)
def Ko {S:Type} (k:Nat):Rw S:=ag Bj yu fun c0 c1 c2 κ=>aa k (FT k c0 c1 c2) (J8 c0 c1 c2 κ)
def Qo {S:Type} (k:Nat):Fx S:=fp 10 [(173,sG (cJ k))] [] k Tryz.f221 3
theorem V6 {S:Type} (o:Obj) (ho:af o) (k:Nat):Tl o 221 (Ko k:Rw S):=ah (Qo k) ⟨wk o ho k,trivial⟩ Tryz.func221 (by kernel_rfl) fun c0 c1 c2 κ x h=>Eq.trans (by kernel_rfl) (aj h)
def Kp {S:Type} (k:Nat):Rw S:=ag Zm yu fun t numbers c0 c1 c2 κ=>aa k (FU k t numbers c0 c1 c2) (kn c0 c1 c2 κ)
def yG {S:Type} (k:Nat):Fx S:=⟨⟨30,(fun _=>[]),(fun _=>false),.none,fun|6=>true|7=>true|_=>false⟩,[(47,gf k),(221,Ko k)],[(5,⟨[(2,.none),(6,.none),(7,.none),(17,.none),(18,.none),(19,.none)],[(1000000,[.none]),(1000001,[.none,.none,.none,.none,.none,.none]),(1000002,[.none]),(5000006,[.none,.none,.none,some (320200387,true),some (320200388,true),some (320200389,true)]),(5000007,[.none])]⟩,ao 5 11)],k,Tryz.f171,false,[],3,some (mC 16 253 Tryz.f253 k)⟩
def H_ (c0:Int) (c1:Tm) (c2:Int) (numbers:List Int) (v19:Int):St UU:=⟨[(2,(.func 221 [] [(pt 1000000),(pt 1000001),(pt 1000002)])),(6,(pt 5000006)),(7,(pt 5000007)),(17,(gj numbers .none)),(18,(.int .i64 (numbers.length:Int))),(19,(iI v19))],[(1000000,bI c0),(1000001,bT c1),(1000002,bI c2),(5000006,.cells [(iI 0),(iI 0),(.str ByteArray.empty),(.own 320200387 0),(.own 320200388 0),(.own 320200389 0)]),(5000007,bI 0)],[(320200389,⟨0,ET.B,([]:List (Br Tm))⟩),(320200388,⟨0,ET.T,([]:List Tm)⟩),(320200387,⟨0,ET.C,([]:List Cl)⟩)],[(320200389,.wr),(320200388,.wr),(320200387,.wr)]⟩
section
variable {S:Type} (k:Nat) (t:Tm) (numbers:List Int) (c0:Int) (c1:Tm) (c2:Int) (κ:Out UU→Option S)
theorem SP: ∀n v19,(yG k).lp κ 5 [] n (H_ c0 c1 c2 numbers v19)=Bx k (kn c0 c1 c2 κ) c0 c1 c2 numbers n v19:=ca (Fl k (kn c0 c1 c2 κ) c0 c1 c2 numbers) rfl (fun _=>rfl) fun r v19=>by kernel_rfl
end
theorem V7 {S:Type} (o:Obj) (ho:af o) (k:Nat):Tl o 171 (Kp k:Rw S):=yj (yG k) rfl (uD o Tryz.func253 (by kernel_rfl)) ⟨gK o ho k,V6 o ho k,trivial⟩ Tryz.func171 (by kernel_rfl) fun t numbers c0 c1 c2 κ x h=>Eq.trans (b:=Ow k (kn c0 c1 c2 κ) (fun v19=>(yG k).lp κ 5 [] k (H_ c0 c1 c2 numbers v19)) t numbers c0 c1 c2) (by kernel_rfl) (Eq.trans (by simp only [SP];rfl) (aj h))
def Kr {S:Type} (k:Nat):Rw S:=ag nn xn fun t a_from a_by κ=>aa k (FS k t a_from a_by) (dY κ)
def Qq {S:Type} (k:Nat):Fx S:=fp 18 [(171,Kp k)] [] k Tryz.f142 0
theorem V9 {S:Type} (o:Obj) (ho:af o) (k:Nat):Tl o 142 (Kr k:Rw S):=ah (Qq k) ⟨V7 o ho k,trivial⟩ Tryz.func142 (by kernel_rfl) fun t a_from a_by κ x h=>Eq.trans (by kernel_rfl) (aj h)
def Ks {S:Type} (k:Nat):Rw S:=ag Bk bU fun t vars dims c0 κ=>aa k (FX k t vars dims c0) (fC κ)
def Qr {S:Type} (k:Nat):Fx S:=fp 32 [(93,xB k),(125,g6 k),(126,gY k),(142,Kr k)] [] k Tryz.f75 1
theorem V_ {S:Type} (o:Obj) (ho:af o) (k:Nat):Tl o 75 (Ks k:Rw S):=ah (Qr k) ⟨AQ o ho k,iL o ho k,iF o ho k,V9 o ho k,trivial⟩ Tryz.func75 (by kernel_rfl) fun t vars dims c0 κ x h=>Eq.trans (by kernel_rfl) (aj h)
def so {S:Type} (hd:cP S):Rw S:=ag dp xn fun t κ=>hd t (aA κ)
def Kt {S:Type} (hd:cP S) (k:Nat):Rw S:=ag wt bU fun a_k p p' c0 κ=>aa k (Au hd k a_k p p' c0) (ci κ)
def Qt {S:Type} (hd:cP S) (k:Nat):Fx S:=fp 12 [(222,so hd)] [] k Tryz.f300 1
theorem Wa {S:Type} (o:Obj) (ho:af o) (hd:cP S) (Hd:Tl o 222 (so hd)) (k:Nat):Tl o 300 (Kt hd k:Rw S):=ah (Qt hd k) ⟨Hd,trivial⟩ Tryz.func300 (by kernel_rfl) fun a_k p p' c0 κ x h=>Eq.trans (by kernel_rfl) (aj h)
def Ku {S:Type} (hd:cP S) (k:Nat):Rw S:=ag Zn bU fun t c0 κ=>aa k (F7 hd k t c0) (ci κ)
def kC {S:Type} (hd:cP S) (k:Nat):Fx S:=fp 60 [(255,g5 k),(300,Kt hd k)] [(2,aI [1,2,15,16,17] [(2,6),(1000000,1)],ao 4 5),(12,aI [1,9,40,41,42] [(1000000,1)],ao 7 47),(15,aI [1,9,40,41,42,47,48,49] [(1000000,1)],ao 15 13103)] k Tryz.f186 1
def BS (t:Tm) (e0_0 v17:Int):St UU:=⟨[(1,(.func 300 [] [(pt 1000000)])),(2,(pt 2)),(15,(sT t.kids)),(16,(.int .i64 (t.kids.length:Int))),(17,(iI v17))],[(2,bT t),(1000000,bI e0_0)],[],[]⟩
def rA (t:Tm) (e0_0' v42 more9:Int):St UU:=⟨[(1,(.func 300 [] [(pt 1000000)])),(9,(iI more9)),(40,(sB t.sys)),(41,(.int .i64 (t.sys.length:Int))),(42,(iI v42))],[(1000000,bI e0_0')],[],[]⟩
def Ia (t:Tm) (v42:Int) (x4:(Br Tm)) (more9:Int) (e0_0'' v49:Int):St UU:=⟨[(1,(.func 300 [] [(pt 1000000)])),(9,(iI more9)),(40,(sB t.sys)),(41,(.int .i64 (t.sys.length:Int))),(42,(iI v42)),(47,(sT x4.kids)),(48,(.int .i64 (x4.kids.length:Int))),(49,(iI v49))],[(1000000,bI e0_0'')],[],[]⟩
section
variable {S:Type} (hd:cP S) (k:Nat) (t:Tm) (c0:Int) (κ:Out UU→Option S)
theorem SS (v42 x4 more9 κ1): ∀n e0_0'' v49,(kC hd k).lp κ 15 [κ1] n (Ia t v42 x4 more9 e0_0'' v49)=wF hd k (ci κ) (fun e0_0' v42 more9=>κ1 (rA t e0_0' v42 more9)) t v42 x4 more9 n e0_0'' v49:=aE (Fr hd k (ci κ) t v42 x4 more9 (fun e0_0' v42 more9=>κ1 (rA t e0_0' v42 more9))) rfl (fun _=>rfl) fun r e0_0'' v49=>by kernel_rfl
theorem SR: ∀n e0_0' v42 more9,(kC hd k).lp κ 12 [] n (rA t e0_0' v42 more9)=rl hd k (ci κ) t n e0_0' v42 more9:=d_ (fun own=>zI hd k (ci κ) t (fun v42 x4 more9 e0_0'' v49=>wF hd k (ci κ) own t v42 x4 more9 k e0_0'' v49) own) rfl (fun _=>rfl) fun r e0_0' v42 more9=>Eq.trans (b:=zI hd k (ci κ) t (fun v42 x4 more9 e0_0'' v49=>(kC hd k).lp κ 15 [r] k (Ia t v42 x4 more9 e0_0'' v49)) (fun e0_0' v42 more9=>r (rA t e0_0' v42 more9)) e0_0' v42 more9) (by kernel_rfl) (by simp only [SS])
theorem SQ: ∀n e0_0 v17,(kC hd k).lp κ 2 [] n (BS t e0_0 v17)=BB hd k (ci κ) t n e0_0 v17:=aE (fun own=>zH hd k (ci κ) t (fun e0_0' v42 more9=>rl hd k (ci κ) t k e0_0' v42 more9) own) rfl (fun _=>rfl) fun r e0_0 v17=>Eq.trans (b:=zH hd k (ci κ) t (fun e0_0' v42 more9=>(kC hd k).lp κ 12 [] k (rA t e0_0' v42 more9)) (fun e0_0 v17=>r (BS t e0_0 v17)) e0_0 v17) (by kernel_rfl) (by simp only [SR])
end
theorem Wb {S:Type} (o:Obj) (ho:af o) (hd:cP S) (Hd:Tl o 222 (so hd)) (k:Nat):Tl o 186 (Ku hd k:Rw S):=ah (kC hd k) ⟨iJ o ho k,Wa o ho hd Hd k,trivial⟩ Tryz.func186 (by kernel_rfl) fun t c0 κ x h=>Eq.trans (b:=Pu hd k (ci κ) (fun e0_0 v17=>(kC hd k).lp κ 2 [] k (BS t e0_0 v17)) t c0) (by kernel_rfl) (Eq.trans (by simp only [SQ];rfl) (aj h))
def Qs {S:Type} (hd:cP S) (k:Nat):Fx S:=fp 8 [(186,Ku hd k)] [] k Tryz.f222 0
theorem G4 {S:Type} (o:Obj) (ho:af o): ∀k:Nat,Tl o 222 (so (lb k:cP S))
 |0=>dv fun t κ x h=>by cases h
 |k+1=>ah (Qs (lb k) k) ⟨Wb o ho (lb k) (G4 o ho k) k,trivial⟩ Tryz.func222 (by kernel_rfl) fun t κ x h=>Eq.trans (by kernel_rfl) h
end
end Go.Proofs.YtehekgbehghgdaaGreatDoor
namespace Go.Proofs.YtehekgbehghgdaaGreatDoor
open Go PI
set_option linter.unusedVariables false
set_option maxRecDepth 100000
noncomputable section
def Cw {S:Type} (hd:eL S):Rw S:=ag rd xn fun t a_n κ=>hd t a_n (aA κ)
def ie {S:Type} (hd:eL S) (k:Nat):Fx S:=fp 68 [(223,Cw hd),(255,g5 k)] [(1000003,aI [1,2] [(2,6)],ao 2 3),(5,aI [1,2,5,24,25,26] [(2,6)],ao 6 23),(11,aI [1,5,47,48,49] [],ao 7 47),(14,aI [1,5,47,48,49,54,55,56] [],ao 15 13103)] k Tryz.f223 0
def Ib (t:Tm) (a_n:Int):St UU:=⟨[(1,(iI a_n)),(2,(pt 2))],[(2,bT t)],[],[]⟩
def BT (t:Tm) (a_n:Int) (v26 sum5:Int):St UU:=⟨[(1,(iI a_n)),(2,(pt 2)),(5,(iI sum5)),(24,(sT t.kids)),(25,(.int .i64 (t.kids.length:Int))),(26,(iI v26))],[(2,bT t)],[],[]⟩
def rB (a_n:Int) (t:Tm) (v49 sum5':Int):St UU:=⟨[(1,(iI a_n)),(5,(iI sum5')),(47,(sB t.sys)),(48,(.int .i64 (t.sys.length:Int))),(49,(iI v49))],[],[],[]⟩
def Ic (a_n:Int) (t:Tm) (v49:Int) (x4:(Br Tm)) (sum5'' v56:Int):St UU:=⟨[(1,(iI a_n)),(5,(iI sum5'')),(47,(sB t.sys)),(48,(.int .i64 (t.sys.length:Int))),(49,(iI v49)),(54,(sT x4.kids)),(55,(.int .i64 (x4.kids.length:Int))),(56,(iI v56))],[],[],[]⟩
section
variable {S:Type} (hd:eL S) (k:Nat) (t:Tm) (a_n:Int) (κ:Out UU→Option S)
theorem SW (v49 x4 κ2): ∀n sum5'' v56,(ie hd k).lp κ 14 [κ2] n (Ic a_n t v49 x4 sum5'' v56)=wz hd k (aA κ) (fun v49 sum5'=>κ2 (rB a_n t v49 sum5')) a_n t v49 x4 n sum5'' v56:=aE (Fp hd k (aA κ) a_n t v49 x4 (fun v49 sum5'=>κ2 (rB a_n t v49 sum5'))) rfl (fun _=>rfl) fun r sum5'' v56=>by kernel_rfl
theorem SV: ∀n v49 sum5',(ie hd k).lp κ 11 [] n (rB a_n t v49 sum5')=rh hd k (aA κ) a_n t n v49 sum5':=aE (fun own=>zA hd k (aA κ) a_n t (fun v49 x4 sum5'' v56=>wz hd k (aA κ) own a_n t v49 x4 k sum5'' v56) own) rfl (fun _=>rfl) fun r v49 sum5'=>Eq.trans (b:=zA hd k (aA κ) a_n t (fun v49 x4 sum5'' v56=>(ie hd k).lp κ 14 [r] k (Ic a_n t v49 x4 sum5'' v56)) (fun v49 sum5'=>r (rB a_n t v49 sum5')) v49 sum5') (by kernel_rfl) (by simp only [SW])
theorem SU: ∀n v26 sum5,(ie hd k).lp κ 5 [] n (BT t a_n v26 sum5)=wy hd k (aA κ) t a_n n v26 sum5:=aE (fun own=>zz hd k (aA κ) t a_n (fun v49 sum5'=>rh hd k (aA κ) a_n t k v49 sum5') own) rfl (fun _=>rfl) fun r v26 sum5=>Eq.trans (b:=zz hd k (aA κ) t a_n (fun v49 sum5'=>(ie hd k).lp κ 11 [] k (rB a_n t v49 sum5')) (fun v26 sum5=>r (BT t a_n v26 sum5)) v26 sum5) (by kernel_rfl) (by simp only [SV])
theorem ST: ∀n,(ie hd k).jn κ 1000003 [] n (Ib t a_n)=HK hd k (aA κ) t a_n n:=gO (zy hd k (aA κ) t a_n (fun v26 sum5=>wy hd k (aA κ) t a_n k v26 sum5)) rfl (fun _=>rfl) (Eq.trans (b:=zy hd k (aA κ) t a_n (fun v26 sum5=>(ie hd k).lp κ 5 [] k (BT t a_n v26 sum5))) (by kernel_rfl) (by simp only [SU]))
end
theorem G5 {S:Type} (o:Obj) (ho:af o): ∀k:Nat,Tl o 223 (Cw (jD k:eL S))
 |0=>dv fun t a_n κ x h=>by cases h
 |k+1=>ah (ie (jD k) k) ⟨G5 o ho k,iJ o ho k,trivial⟩ Tryz.func223 (by kernel_rfl) fun t a_n κ x h=>Eq.trans (b:=OO (jD k) k (aA κ) ((ie (jD k) k).jn κ 1000003 [] k (Ib t a_n)) t a_n) (by kernel_rfl) (Eq.trans (by simp only [ST];rfl) h)
def Kv {S:Type} (k:Nat):Rw S:=ag dp xn fun t κ=>aa k (F6 k t) (aA κ)
def Qu {S:Type} (k:Nat):Fx S:=fp 6 [] [] k Tryz.f301 0
theorem Wc {S:Type} (o:Obj) (ho:af o) (k:Nat):Tl o 301 (Kv k:Rw S):=ah (Qu k) trivial Tryz.func301 (by kernel_rfl) fun t κ x h=>Eq.trans (by kernel_rfl) (aj h)
def Cx {S:Type} (hd:fH S):Rw S:=ag Zo xn fun t a_n u vars dims κ=>hd t a_n u vars dims (bW κ)
def kE {S:Type} (hd:fH S) (k:Nat):Fx S:=fp 137 [(127,xA k),(225,Cx hd),(255,g5 k),(301,Kv k)] [(12,⟨[(1,.none),(3,.none),(4,.none),(5,.none),(7,.none),(10,.none),(13,.none),(66,.none),(67,.none),(68,.none)],[(5,[.none,.none,.none,.none,.none,.none]),(7,[.none,.none,.none,.none,.none,.none]),(10,[.none,.none,.none,some (200643,true),some (200644,true),some (200645,true)]),(13,[.none,.none,.none,some (200835,true),some (200836,true),some (200837,true)])]⟩,ao 6 23),(18,⟨[(1,.none),(3,.none),(4,.none),(5,.none),(7,.none),(10,.none),(13,.none),(97,.none),(98,.none),(99,.none)],[(5,[.none,.none,.none,.none,.none,.none]),(7,[.none,.none,.none,.none,.none,.none]),(10,[.none,.none,.none,some (200643,true),some (200644,true),some (200645,true)]),(13,[.none,.none,.none,some (200835,true),some (200836,true),some (200837,true)])]⟩,ao 7 47),(22,⟨[(1,.none),(3,.none),(4,.none),(5,.none),(7,.none),(10,.none),(13,.none),(20,.none),(97,.none),(98,.none),(99,.none),(108,.none),(109,.none),(110,.none)],[(5,[.none,.none,.none,.none,.none,.none]),(7,[.none,.none,.none,.none,.none,.none]),(10,[.none,.none,.none,some (200643,true),some (200644,true),some (200645,true)]),(13,[.none,.none,.none,some (200835,true),some (200836,true),some (200837,true)]),(20,[some (201280,true),some (201281,true)])]⟩,ao 17 45871)] k Tryz.f225 0
def BU (t u:Tm) (a_n vars dims:Int) (b13_4:List Tm) (v68:Int):St UU:=⟨[(1,(iI a_n)),(3,(iI vars)),(4,(iI dims)),(5,(pt 5)),(7,(pt 7)),(10,(pt 10)),(13,(pt 13)),(66,(sT t.kids)),(67,(.int .i64 (t.kids.length:Int))),(68,(iI v68))],[(5,bT t),(7,bT u),(10,.cells [(iI 0),(iI 0),(.str ByteArray.empty),(.own 200643 0),(.own 200644 0),(.own 200645 0)]),(13,.cells [(iI t.kind),(iI 0),(.str t.name),(.own 200835 0),(.own 200836 0),(.own 200837 0)])],[(200837,⟨0,ET.B,([]:List (Br Tm))⟩),(200836,⟨0,ET.T,b13_4⟩),(200835,⟨0,ET.C,t.r⟩),(200645,⟨0,ET.B,([]:List (Br Tm))⟩),(200644,⟨0,ET.T,([]:List Tm)⟩),(200643,⟨0,ET.C,([]:List Cl)⟩)],[(200837,.wr),(200836,.wr),(200835,.wr),(200645,.wr),(200644,.wr),(200643,.wr)]⟩
def rC (t:Tm) (b13_4:List Tm) (u:Tm) (a_n vars dims:Int) (b13_5:List (Br Tm)) (v99:Int):St UU:=⟨[(1,(iI a_n)),(3,(iI vars)),(4,(iI dims)),(5,(pt 5)),(7,(pt 7)),(10,(pt 10)),(13,(pt 13)),(97,(sB t.sys)),(98,(.int .i64 (t.sys.length:Int))),(99,(iI v99))],[(5,bT t),(7,bT u),(10,.cells [(iI 0),(iI 0),(.str ByteArray.empty),(.own 200643 0),(.own 200644 0),(.own 200645 0)]),(13,.cells [(iI t.kind),(iI 0),(.str t.name),(.own 200835 0),(.own 200836 0),(.own 200837 0)])],[(200837,⟨0,ET.B,b13_5⟩),(200836,⟨0,ET.T,b13_4⟩),(200835,⟨0,ET.C,t.r⟩),(200645,⟨0,ET.B,([]:List (Br Tm))⟩),(200644,⟨0,ET.T,([]:List Tm)⟩),(200643,⟨0,ET.C,([]:List Cl)⟩)],[(200837,.wr),(200836,.wr),(200835,.wr),(200645,.wr),(200644,.wr),(200643,.wr)]⟩
def Id (t:Tm) (b13_4:List Tm) (b13_5:List (Br Tm)) (x9:(Br Tm)) (u:Tm) (a_n vars dims v99:Int) (b20_1:List Tm) (v110:Int):St UU:=⟨[(1,(iI a_n)),(3,(iI vars)),(4,(iI dims)),(5,(pt 5)),(7,(pt 7)),(10,(pt 10)),(13,(pt 13)),(20,(pt 20)),(97,(sB t.sys)),(98,(.int .i64 (t.sys.length:Int))),(99,(iI v99)),(108,(sT x9.kids)),(109,(.int .i64 (x9.kids.length:Int))),(110,(iI v110))],[(5,bT t),(7,bT u),(10,.cells [(iI 0),(iI 0),(.str ByteArray.empty),(.own 200643 0),(.own 200644 0),(.own 200645 0)]),(13,.cells [(iI t.kind),(iI 0),(.str t.name),(.own 200835 0),(.own 200836 0),(.own 200837 0)]),(20,.cells [(.own 201280 0),(.own 201281 0)])],[(201281,⟨0,ET.T,b20_1⟩),(201280,⟨0,ET.C,x9.face⟩),(200837,⟨0,ET.B,b13_5⟩),(200836,⟨0,ET.T,b13_4⟩),(200835,⟨0,ET.C,t.r⟩),(200645,⟨0,ET.B,([]:List (Br Tm))⟩),(200644,⟨0,ET.T,([]:List Tm)⟩),(200643,⟨0,ET.C,([]:List Cl)⟩)],[(201281,.wr),(201280,.wr),(200837,.wr),(200836,.wr),(200835,.wr),(200645,.wr),(200644,.wr),(200643,.wr)]⟩
section
variable {S:Type} (hd:fH S) (k:Nat) (t:Tm) (a_n:Int) (u:Tm) (vars dims:Int) (κ:Out UU→Option S)
theorem SZ (b13_4 b13_5 x9 v99 κ1): ∀n b20_1 v110,(kE hd k).lp κ 22 [κ1] n (Id t b13_4 b13_5 x9 u a_n vars dims v99 b20_1 v110)=wA hd k (bW κ) (fun b13_5 v99=>κ1 (rC t b13_4 u a_n vars dims b13_5 v99)) t b13_4 b13_5 x9 u a_n vars dims v99 n b20_1 v110:=aE (Fq hd k (bW κ) t b13_4 b13_5 x9 u a_n vars dims v99 (fun b13_5 v99=>κ1 (rC t b13_4 u a_n vars dims b13_5 v99))) rfl (fun _=>rfl) fun r b20_1 v110=>by kernel_rfl
theorem SY (b13_4): ∀n b13_5 v99,(kE hd k).lp κ 18 [] n (rC t b13_4 u a_n vars dims b13_5 v99)=ri hd k (bW κ) t b13_4 u a_n vars dims n b13_5 v99:=aE (fun own=>zC hd k (bW κ) t b13_4 u a_n vars dims (fun b13_5 x9 v99 b20_1 v110=>wA hd k (bW κ) own t b13_4 b13_5 x9 u a_n vars dims v99 k b20_1 v110) own) rfl (fun _=>rfl) fun r b13_5 v99=>Eq.trans (b:=zC hd k (bW κ) t b13_4 u a_n vars dims (fun b13_5 x9 v99 b20_1 v110=>(kE hd k).lp κ 22 [r] k (Id t b13_4 b13_5 x9 u a_n vars dims v99 b20_1 v110)) (fun b13_5 v99=>r (rC t b13_4 u a_n vars dims b13_5 v99)) b13_5 v99) (by kernel_rfl) (by simp only [SZ])
theorem SX: ∀n b13_4 v68,(kE hd k).lp κ 12 [] n (BU t u a_n vars dims b13_4 v68)=Bz hd k (bW κ) t u a_n vars dims n b13_4 v68:=aE (fun own=>zB hd k (bW κ) t u a_n vars dims (fun b13_4 b13_5 v99=>ri hd k (bW κ) t b13_4 u a_n vars dims k b13_5 v99) own) rfl (fun _=>rfl) fun r b13_4 v68=>Eq.trans (b:=zB hd k (bW κ) t u a_n vars dims (fun b13_4 b13_5 v99=>(kE hd k).lp κ 18 [] k (rC t b13_4 u a_n vars dims b13_5 v99)) (fun b13_4 v68=>r (BU t u a_n vars dims b13_4 v68)) b13_4 v68) (by kernel_rfl) (by simp only [SY])
end
theorem G6 {S:Type} (o:Obj) (ho:af o): ∀k:Nat,Tl o 225 (Cx (jE k:fH S))
 |0=>dv fun t a_n u vars dims κ x h=>by cases h
 |k+1=>ah (kE (jE k) k) ⟨AP o ho k,G6 o ho k,iJ o ho k,Wc o ho k,trivial⟩ Tryz.func225 (by kernel_rfl) fun t a_n u vars dims κ x h=>Eq.trans (b:=OP (jE k) k (bW κ) (fun b13_4 v68=>(kE (jE k) k).lp κ 12 [] k (BU t u a_n vars dims b13_4 v68)) t a_n u vars dims) (by kernel_rfl) (Eq.trans (by simp only [SX];rfl) h)
def sq {S:Type} (hd:cO S):Rw S:=ag dp xn fun t κ=>hd t (aA κ)
def Kw {S:Type} (hd:cO S) (k:Nat):Rw S:=ag wt bU fun a_k p p' c0 κ=>aa k (As hd k a_k p p' c0) (ci κ)
def Qw {S:Type} (hd:cO S) (k:Nat):Fx S:=fp 12 [(226,sq hd)] [] k Tryz.f302 1
theorem Wd {S:Type} (o:Obj) (ho:af o) (hd:cO S) (Hd:Tl o 226 (sq hd)) (k:Nat):Tl o 302 (Kw hd k:Rw S):=ah (Qw hd k) ⟨Hd,trivial⟩ Tryz.func302 (by kernel_rfl) fun a_k p p' c0 κ x h=>Eq.trans (by kernel_rfl) (aj h)
def Ky {S:Type} (hd:cO S) (k:Nat):Rw S:=ag Zp bU fun t c0 κ=>aa k (F8 hd k t c0) (ci κ)
def kG {S:Type} (hd:cO S) (k:Nat):Fx S:=fp 60 [(255,g5 k),(302,Kw hd k)] [(2,aI [1,2,15,16,17] [(2,6),(1000000,1)],ao 4 5),(12,aI [1,9,40,41,42] [(1000000,1)],ao 7 47),(15,aI [1,9,40,41,42,47,48,49] [(1000000,1)],ao 15 13103)] k Tryz.f186 1
def BV (t:Tm) (e0_0 v17:Int):St UU:=⟨[(1,(.func 302 [] [(pt 1000000)])),(2,(pt 2)),(15,(sT t.kids)),(16,(.int .i64 (t.kids.length:Int))),(17,(iI v17))],[(2,bT t),(1000000,bI e0_0)],[],[]⟩
def rD (t:Tm) (e0_0' v42 more9:Int):St UU:=⟨[(1,(.func 302 [] [(pt 1000000)])),(9,(iI more9)),(40,(sB t.sys)),(41,(.int .i64 (t.sys.length:Int))),(42,(iI v42))],[(1000000,bI e0_0')],[],[]⟩
def Ie (t:Tm) (v42:Int) (x4:(Br Tm)) (more9:Int) (e0_0'' v49:Int):St UU:=⟨[(1,(.func 302 [] [(pt 1000000)])),(9,(iI more9)),(40,(sB t.sys)),(41,(.int .i64 (t.sys.length:Int))),(42,(iI v42)),(47,(sT x4.kids)),(48,(.int .i64 (x4.kids.length:Int))),(49,(iI v49))],[(1000000,bI e0_0'')],[],[]⟩
section
variable {S:Type} (hd:cO S) (k:Nat) (t:Tm) (c0:Int) (κ:Out UU→Option S)
theorem S2 (v42 x4 more9 κ1): ∀n e0_0'' v49,(kG hd k).lp κ 15 [κ1] n (Ie t v42 x4 more9 e0_0'' v49)=wG hd k (ci κ) (fun e0_0' v42 more9=>κ1 (rD t e0_0' v42 more9)) t v42 x4 more9 n e0_0'' v49:=aE (Fs hd k (ci κ) t v42 x4 more9 (fun e0_0' v42 more9=>κ1 (rD t e0_0' v42 more9))) rfl (fun _=>rfl) fun r e0_0'' v49=>by kernel_rfl
theorem S1: ∀n e0_0' v42 more9,(kG hd k).lp κ 12 [] n (rD t e0_0' v42 more9)=rm hd k (ci κ) t n e0_0' v42 more9:=d_ (fun own=>zK hd k (ci κ) t (fun v42 x4 more9 e0_0'' v49=>wG hd k (ci κ) own t v42 x4 more9 k e0_0'' v49) own) rfl (fun _=>rfl) fun r e0_0' v42 more9=>Eq.trans (b:=zK hd k (ci κ) t (fun v42 x4 more9 e0_0'' v49=>(kG hd k).lp κ 15 [r] k (Ie t v42 x4 more9 e0_0'' v49)) (fun e0_0' v42 more9=>r (rD t e0_0' v42 more9)) e0_0' v42 more9) (by kernel_rfl) (by simp only [S2])
theorem S0: ∀n e0_0 v17,(kG hd k).lp κ 2 [] n (BV t e0_0 v17)=BC hd k (ci κ) t n e0_0 v17:=aE (fun own=>zJ hd k (ci κ) t (fun e0_0' v42 more9=>rm hd k (ci κ) t k e0_0' v42 more9) own) rfl (fun _=>rfl) fun r e0_0 v17=>Eq.trans (b:=zJ hd k (ci κ) t (fun e0_0' v42 more9=>(kG hd k).lp κ 12 [] k (rD t e0_0' v42 more9)) (fun e0_0 v17=>r (BV t e0_0 v17)) e0_0 v17) (by kernel_rfl) (by simp only [S1])
end
theorem Wf {S:Type} (o:Obj) (ho:af o) (hd:cO S) (Hd:Tl o 226 (sq hd)) (k:Nat):Tl o 186 (Ky hd k:Rw S):=ah (kG hd k) ⟨iJ o ho k,Wd o ho hd Hd k,trivial⟩ Tryz.func186 (by kernel_rfl) fun t c0 κ x h=>Eq.trans (b:=Pv hd k (ci κ) (fun e0_0 v17=>(kG hd k).lp κ 2 [] k (BV t e0_0 v17)) t c0) (by kernel_rfl) (Eq.trans (by simp only [S0];rfl) (aj h))
def Qv {S:Type} (hd:cO S) (k:Nat):Fx S:=fp 9 [(186,Ky hd k)] [] k Tryz.f226 0
theorem G7 {S:Type} (o:Obj) (ho:af o): ∀k:Nat,Tl o 226 (sq (mY k:cO S))
 |0=>dv fun t κ x h=>by cases h
 |k+1=>ah (Qv (mY k) k) ⟨Wf o ho (mY k) (G7 o ho k) k,trivial⟩ Tryz.func226 (by kernel_rfl) fun t κ x h=>Eq.trans (by kernel_rfl) h
def Kz {S:Type} (k:Nat):Rw S:=ag Zq xn fun t a_n u κ=>aa k (F5 k t a_n u) (dY κ)
def Qy {S:Type} (k:Nat):Fx S:=⟨⟨49,(fun _=>[]),(fun _=>false),.none,fun|6=>true|7=>true|_=>false⟩,[(47,gf k),(222,so (lb k)),(223,Cw (jD k)),(225,Cx (jE k)),(226,sq (mY k))],[],k,Tryz.f143,false,[],0,some (mC 16 224 Tryz.f224 k)⟩
theorem Wg {S:Type} (o:Obj) (ho:af o) (k:Nat):Tl o 143 (Kz k:Rw S):=yj (Qy k) rfl (uD o Tryz.func224 (by kernel_rfl)) ⟨gK o ho k,G4 o ho k,G5 o ho k,G6 o ho k,G7 o ho k,trivial⟩ Tryz.func143 (by kernel_rfl) fun t a_n u κ x h=>Eq.trans (by kernel_rfl) (aj h)
def KA {S:Type} (k:Nat):Rw S:=ag Zr bU fun t u c0 κ=>aa k (F0 k t u c0) (fC κ)
def Qz {S:Type} (k:Nat):Fx S:=fp 18 [(125,g6 k),(126,gY k),(143,Kz k)] [] k Tryz.f76 1
theorem Wh {S:Type} (o:Obj) (ho:af o) (k:Nat):Tl o 76 (KA k:Rw S):=ah (Qz k) ⟨iL o ho k,iF o ho k,Wg o ho k,trivial⟩ Tryz.func76 (by kernel_rfl) fun t u c0 κ x h=>Eq.trans (by kernel_rfl) (aj h)
def KB {S:Type} (k:Nat):Rw S:=ag Bk bU fun t vars dims c0 κ=>aa k (F1 k t vars dims c0) (fC κ)
def QA {S:Type} (k:Nat):Fx S:=fp 21 [(125,g6 k),(126,gY k),(127,xA k)] [] k Tryz.f59 1
theorem Wi {S:Type} (o:Obj) (ho:af o) (k:Nat):Tl o 59 (KB k:Rw S):=ah (QA k) ⟨iL o ho k,iF o ho k,AP o ho k,trivial⟩ Tryz.func59 (by kernel_rfl) fun t vars dims c0 κ x h=>Eq.trans (by kernel_rfl) (aj h)
def KC {S:Type} (k:Nat):Rw S:=ag ws xn fun kind kids κ=>aa k (F4 k kind kids) (Cp κ)
def QD {S:Type} (k:Nat):Fx S:=fx 8 (fun _=>[]) (fun _=>false) [] [] k Tryz.f61 true [] 0
theorem Wj {S:Type} (o:Obj) (ho:af o) (k:Nat):Tl o 61 (KC k:Rw S):=ah (QD k) trivial Tryz.func61 (by kernel_rfl) fun kind kids κ x h=>Eq.trans (by kernel_rfl) (aj h)
def KD {S:Type} (k:Nat):Rw S:=ag Zs ags fun p a_by a_x c0 c1 c3 κ=>aa k (Aj k p a_by a_x c0 c1 c3) (xh c0 c1 κ)
def yH {S:Type} (k:Nat):Fx S:=fx 42 (fun _=>[]) (fun _=>false) [(59,KB k),(61,KC k)] [(3,⟨[(1,.none),(3,.none),(5,.none),(8,.none),(9,.none),(10,some (100010,false)),(18,.none),(19,.none),(20,.none)],[(8,[.none,.none,.none,.none,.none,.none]),(9,[.none,.none,.none,some (200579,true),some (200580,true),some (200581,true)]),(1000000,[.none,.none,.none,.none,.none,.none]),(1000001,[.none]),(1000002,[.none]),(1000003,[.none])]⟩,ao 5 11)] k Tryz.f77 true [] 4
def If (c0:Tm) (c1:Int) (a_x:Tm) (a_by:Int) (e3_0:Int) (kids10:List Tm) (v20:Int):St UU:=⟨[(1,(iI a_by)),(3,(pt 1000000)),(5,(pt 1000002)),(8,(pt 8)),(9,(pt 9)),(10,(.own 100010 0)),(18,(df (List.drop (Int.toNat 1) (List.take (Int.toNat c1) c0.kids)) .none)),(19,(.int .i64 ((List.drop (Int.toNat 1) (List.take (Int.toNat c1) c0.kids)).length:Int))),(20,(iI v20))],[(8,bT a_x),(9,.cells [(iI 0),(iI 0),(.str ByteArray.empty),(.own 200579 0),(.own 200580 0),(.own 200581 0)]),(1000000,bT c0),(1000001,bI c1),(1000002,.cells [(pt 1000003)]),(1000003,bI e3_0)],[(200581,⟨0,ET.B,([]:List (Br Tm))⟩),(200580,⟨0,ET.T,([]:List Tm)⟩),(200579,⟨0,ET.C,([]:List Cl)⟩),(100010,⟨0,ET.T,kids10⟩)],[(200581,.wr),(200580,.wr),(200579,.wr),(100010,.app)]⟩
section
variable {S:Type} (k:Nat) (p:Tm) (a_by:Int) (a_x c0:Tm) (c1 c3:Int) (κ:Out UU→Option S)
theorem S3: ∀n e3_0 kids10 v20,(yH k).lp κ 3 [] n (If c0 c1 a_x a_by e3_0 kids10 v20)=Bw k (xh c0 c1 κ) c0 c1 a_x a_by n e3_0 kids10 v20:=d_ (Fk k (xh c0 c1 κ) c0 c1 a_x a_by) rfl (fun _=>rfl) fun r e3_0 kids10 v20=>by kernel_rfl
end
theorem Wl {S:Type} (o:Obj) (ho:af o) (k:Nat):Tl o 77 (KD k:Rw S):=ah (yH k) ⟨Wi o ho k,Wj o ho k,trivial⟩ Tryz.func77 (by kernel_rfl) fun p a_by a_x c0 c1 c3 κ x h=>Eq.trans (b:=Oq k (xh c0 c1 κ) (fun e3_0 kids10 v20=>(yH k).lp κ 3 [] k (If c0 c1 a_x a_by e3_0 kids10 v20)) p a_by a_x c0 c1 c3) (by kernel_rfl) (Eq.trans (by simp only [S3];rfl) (aj h))
def Cy {S:Type} (k:Nat):Rw S:=ag Zu xn fun f kids κ=>aa k (vd k f kids) (ac2 κ)
def QE {S:Type} (k:Nat):Fx S:=fp 8 [] [] k Tryz.f62 0
theorem Gk {S:Type} (o:Obj) (ho:af o) (k:Nat):Tl o 62 (Cy k:Rw S):=ah (QE k) trivial Tryz.func62 (by kernel_rfl) fun f kids κ x h=>Eq.trans (by kernel_rfl) (aj h)
def KE {S:Type} (k:Nat):Rw S:=ag wv bU fun line c0 κ=>aa k (FO k line c0) (fC κ)
def QF {S:Type} (k:Nat):Fx S:=fp 25 [(94,xm k),(150,xF k),(204,kr k),(294,md k)] [] k Tryz.f227 1
theorem Wm {S:Type} (o:Obj) (ho:af o) (k:Nat):Tl o 227 (KE k:Rw S):=ah (QF k) ⟨AD o ho k,AT o ho k,lg o ho k,na o ho k,trivial⟩ Tryz.func227 (by kernel_rfl) fun line c0 κ x h=>Eq.trans (by kernel_rfl) (aj h)
def KF {S:Type} (k:Nat):Rw S:=ag HC xn fun line a sys κ=>aa k (FM k line a sys) (dY κ)
def yI {S:Type} (k:Nat):Fx S:=fp 78 [(55,mc (dn k)),(200,CU k),(201,CT k),(202,xy k),(204,kr k),(206,Cv k),(207,CX k),(227,KE k)] [(5,⟨[(3,.none),(6,.none),(8,.none),(9,.none),(36,.none),(37,.none),(38,.none)],[(3,[.none,.none,.none,.none,.none,.none]),(6,[.none,.none,.none,some (200387,true),some (200388,true),some (200389,true)]),(9,[.none,.none,.none,some (200579,true),.none,some (200581,true)]),(19000,[.none])]⟩,ao 7 47)] k Tryz.f144 0
def Ig (r3:Tm) (r9:Int×Int×ByteArray×List Tm) (r6:Tm) (b19000_0:Int) (b9_5:List (Br Tm)) (v38:Int):St UU:=⟨[(3,(pt 3)),(6,(pt 6)),(8,(pt 19000)),(9,(pt 9)),(36,(sB r6.sys)),(37,(.int .i64 (r6.sys.length:Int))),(38,(iI v38))],[(3,bT r3),(6,.cells [(iI 0),(iI 0),(.str ByteArray.empty),(.own 200387 0),(.own 200388 0),(.own 200389 0)]),(9,.cells [(iI r9.1),(iI r9.2.1),(.str r9.2.2.1),(.own 200579 0),(sT r9.2.2.2),(.own 200581 0)]),(19000,bI b19000_0)],[(200581,⟨0,ET.B,b9_5⟩),(200579,⟨0,ET.C,([]:List Cl)⟩),(200389,⟨0,ET.B,([]:List (Br Tm))⟩),(200388,⟨0,ET.T,([]:List Tm)⟩),(200387,⟨0,ET.C,([]:List Cl)⟩)],[(200581,.wr),(200579,.wr),(200389,.wr),(200388,.wr),(200387,.wr)]⟩
section
variable {S:Type} (k:Nat) (line a:Tm) (sys:List (Br Tm)) (κ:Out UU→Option S)
theorem S4 (r3 r9 r6): ∀n b19000_0 b9_5 v38,(yI k).lp κ 5 [] n (Ig r3 r9 r6 b19000_0 b9_5 v38)=Bt k (dY κ) r3 r9 r6 n b19000_0 b9_5 v38:=d_ (Fg k (dY κ) r3 r9 r6) rfl (fun _=>rfl) fun r b19000_0 b9_5 v38=>by kernel_rfl
end
theorem Wn {S:Type} (o:Obj) (ho:af o) (k:Nat):Tl o 144 (KF k:Rw S):=ah (yI k) ⟨qZ o ho k,GA o ho k,Gz o ho k,AN o ho k,lg o ho k,Gj o ho k,GD o ho k,Wm o ho k,trivial⟩ Tryz.func144 (by kernel_rfl) fun line a sys κ x h=>Eq.trans (b:=NL k (dY κ) (fun r3 r9 r6 b19000_0 b9_5 v38=>(yI k).lp κ 5 [] k (Ig r3 r9 r6 b19000_0 b9_5 v38)) line a sys) (by kernel_rfl) (Eq.trans (by simp only [S4];rfl) (aj h))
def KG {S:Type} (k:Nat):Rw S:=ag HE bU fun line a sys c0 κ=>aa k (FY k line a sys c0) (fC κ)
def QG {S:Type} (k:Nat):Fx S:=fp 21 [(125,g6 k),(126,gY k),(144,KF k)] [] k Tryz.f78 1
theorem Wo {S:Type} (o:Obj) (ho:af o) (k:Nat):Tl o 78 (KG k:Rw S):=ah (QG k) ⟨iL o ho k,iF o ho k,Wn o ho k,trivial⟩ Tryz.func78 (by kernel_rfl) fun line a sys c0 κ x h=>Eq.trans (by kernel_rfl) (aj h)
def Cz {S:Type} (k:Nat):Rw S:=ag wv bU fun t c0 κ=>aa k (iz k t c0) (ac3 κ)
def QH {S:Type} (k:Nat):Fx S:=fp 20 [(47,gf k),(55,mc (dn k)),(125,g6 k),(126,gY k)] [] k Tryz.f67 1
theorem Gl {S:Type} (o:Obj) (ho:af o) (k:Nat):Tl o 67 (Cz k:Rw S):=ah (QH k) ⟨gK o ho k,qZ o ho k,iL o ho k,iF o ho k,trivial⟩ Tryz.func67 (by kernel_rfl) fun t c0 κ x h=>Eq.trans (by kernel_rfl) (aj h)
def KJ {S:Type} (k:Nat):Rw S:=ag dp xn fun t κ=>aa k (FQ k t) (eG κ)
def oX {S:Type} (k:Nat):Fx S:=fp 119 [(47,gf k),(55,mc (dn k)),(62,Cy k),(65,Km k),(67,Cz k),(75,Ks k),(76,KA k),(77,KD k),(78,KG k)] [(1000007,⟨[(1,.none),(2,.none),(6,.none)],[(1,[.none,.none,.none,.none,.none,.none]),(2,[.none,.none,.none,some (200131,true),some (200132,true),some (200133,true)]),(6,[.none])]⟩,ao 4 15),(17,⟨[(2,.none),(8,.none),(10,.none),(11,.none),(12,.none),(13,.none),(14,some (100014,true)),(88,.none),(89,.none),(90,.none)],[(1,[.none,.none,.none,.none,.none,.none]),(2,[.none,.none,.none,some (200131,true),some (200132,true),some (200133,true)]),(6,[.none]),(8,[.none]),(10,[.none,.none,.none,.none,.none,.none]),(11,[.none,.none,.none,.none,.none,.none]),(13,[.none,.none,.none,some (200835,true),.none,some (200837,true)]),(53,[.none])]⟩,ao 16 24575)] k Tryz.f23 0
def Ih (t:Tm):St UU:=⟨[(1,(pt 1)),(2,(pt 2)),(6,(pt 6))],[(1,bT t),(2,.cells [(iI 0),(iI 0),(.str ByteArray.empty),(.own 200131 0),(.own 200132 0),(.own 200133 0)]),(6,.cells [(.int .i64 (IntKind.wrap .i64 ((t.kids.length:Int)-1)))])],[(200133,⟨0,ET.B,([]:List (Br Tm))⟩),(200132,⟨0,ET.T,([]:List Tm)⟩),(200131,⟨0,ET.C,([]:List Cl)⟩)],[(200133,.wr),(200132,.wr),(200131,.wr)]⟩
def Ii (r3:Tm) (r9 r10:Tm×Int) (r13:Int×Int×ByteArray×List Tm×Int) (t x4:Tm) (b53_0:Int) (sys14:List (Br Tm)) (v90:Int):St UU:=⟨[(2,(pt 2)),(8,(pt 8)),(10,(pt 10)),(11,(pt 11)),(12,(.func 77 [] [(pt 1),(pt 6),(pt 8)])),(13,(pt 13)),(14,(.own 100014 0)),(88,(sB x4.sys)),(89,(.int .i64 (x4.sys.length:Int))),(90,(iI v90))],[(1,bT r3),(2,.cells [(iI 0),(iI 0),(.str ByteArray.empty),(.own 200131 0),(.own 200132 0),(.own 200133 0)]),(6,.cells [(.int .i64 (IntKind.wrap .i64 ((t.kids.length:Int)-1)))]),(8,.cells [(pt 53)]),(10,bT r9.1),(11,bT r10.1),(13,.cells [(iI r13.1),(iI r13.2.1),(.str r13.2.2.1),(.own 200835 0),(sT r13.2.2.2.1),(.own 200837 0)]),(53,bI b53_0)],[(200837,⟨0,ET.B,([]:List (Br Tm))⟩),(200835,⟨0,ET.C,([]:List Cl)⟩),(200133,⟨0,ET.B,([]:List (Br Tm))⟩),(200132,⟨0,ET.T,([]:List Tm)⟩),(200131,⟨0,ET.C,([]:List Cl)⟩),(100014,⟨0,ET.B,sys14⟩)],[(200837,.wr),(200835,.wr),(200133,.wr),(200132,.wr),(200131,.wr),(100014,.wr)]⟩
section
variable {S:Type} (k:Nat) (t:Tm) (κ:Out UU→Option S)
theorem S6 (r3 r9 r10 r13 x4): ∀n b53_0 sys14 v90,(oX k).lp κ 17 [] n (Ii r3 r9 r10 r13 t x4 b53_0 sys14 v90)=wx k (eG κ) r3 r9 r10 r13 t x4 n b53_0 sys14 v90:=d_ (Fj k (eG κ) r3 r9 r10 r13 t x4) rfl (fun _=>rfl) fun r b53_0 sys14 v90=>by kernel_rfl
theorem S5: ∀n,(oX k).jn κ 1000007 [] n (Ih t)=HJ k (eG κ) t n:=gO (zw k (eG κ) t (fun r3 r9 r10 r13 x4 b53_0 sys14 v90=>wx k (eG κ) r3 r9 r10 r13 t x4 k b53_0 sys14 v90)) rfl (fun _=>rfl) (Eq.trans (b:=zw k (eG κ) t (fun r3 r9 r10 r13 x4 b53_0 sys14 v90=>(oX k).lp κ 17 [] k (Ii r3 r9 r10 r13 t x4 b53_0 sys14 v90))) (by kernel_rfl) (by simp only [S6]))
end
theorem Wq {S:Type} (o:Obj) (ho:af o) (k:Nat):Tl o 23 (KJ k:Rw S):=ah (oX k) ⟨gK o ho k,qZ o ho k,Gk o ho k,V5 o ho k,Gl o ho k,V_ o ho k,Wh o ho k,Wl o ho k,Wo o ho k,trivial⟩ Tryz.func23 (by kernel_rfl) fun t κ x h=>Eq.trans (b:=Oo k (eG κ) ((oX k).jn κ 1000007 [] k (Ih t)) t) (by kernel_rfl) (Eq.trans (by simp only [S5];rfl) (aj h))
def KK {S:Type} (k:Nat):Rw S:=ag Zv xn fun kind a_r kids κ=>aa k (jC k kind a_r kids) (ac5 κ)
def QI {S:Type} (k:Nat):Fx S:=fx 11 (fun _=>[]) (fun _=>false) [] [] k Tryz.f80 true [] 0
theorem Wr {S:Type} (o:Obj) (ho:af o) (k:Nat):Tl o 80 (KK k:Rw S):=ah (QI k) trivial Tryz.func80 (by kernel_rfl) fun kind a_r kids κ x h=>Eq.trans (by kernel_rfl) (aj h)
def KL {S:Type} (k:Nat):Rw S:=ag HB bU fun t a_r c0 κ=>aa k (vh k t a_r c0) (fC κ)
def QJ {S:Type} (k:Nat):Fx S:=fp 18 [(94,xm k),(125,g6 k),(126,gY k)] [] k Tryz.f149 1
theorem Ws {S:Type} (o:Obj) (ho:af o) (k:Nat):Tl o 149 (KL k:Rw S):=ah (QJ k) ⟨AD o ho k,iL o ho k,iF o ho k,trivial⟩ Tryz.func149 (by kernel_rfl) fun t a_r c0 κ x h=>Eq.trans (by kernel_rfl) (aj h)
def KM {S:Type} (k:Nat):Rw S:=ag wv bU fun t c0 κ=>aa k (ve k t c0) (fC κ)
def QK {S:Type} (k:Nat):Fx S:=fp 9 [(149,KL k),(150,xF k)] [] k Tryz.f81 1
theorem Wt {S:Type} (o:Obj) (ho:af o) (k:Nat):Tl o 81 (KM k:Rw S):=ah (QK k) ⟨Ws o ho k,AT o ho k,trivial⟩ Tryz.func81 (by kernel_rfl) fun t c0 κ x h=>Eq.trans (by kernel_rfl) (aj h)
def KN {S:Type} (k:Nat):Rw S:=ag Zw bU fun f a_by c0 κ=>aa k (vg k f a_by c0) (J7 κ)
def QL {S:Type} (k:Nat):Fx S:=fp 23 [(125,g6 k),(126,gY k),(151,me k)] [] k Tryz.f82 1
theorem Wu {S:Type} (o:Obj) (ho:af o) (k:Nat):Tl o 82 (KN k:Rw S):=ah (QL k) ⟨iL o ho k,iF o ho k,nc o ho k,trivial⟩ Tryz.func82 (by kernel_rfl) fun f a_by c0 κ x h=>Eq.trans (by kernel_rfl) (aj h)
def KO {S:Type} (k:Nat):Rw S:=ag HD bU fun t a_by c0 κ=>aa k (vf k t a_by c0) (fC κ)
def QM {S:Type} (k:Nat):Fx S:=fp 18 [(93,xB k),(125,g6 k),(126,gY k)] [] k Tryz.f83 1
theorem Wv {S:Type} (o:Obj) (ho:af o) (k:Nat):Tl o 83 (KO k:Rw S):=ah (QM k) ⟨AQ o ho k,iL o ho k,iF o ho k,trivial⟩ Tryz.func83 (by kernel_rfl) fun t a_by c0 κ x h=>Eq.trans (by kernel_rfl) (aj h)
def KP {S:Type} (k:Nat):Rw S:=ag Zx xn fun kind l kids κ=>aa k (Am k kind l kids) (JY κ)
def QN {S:Type} (k:Nat):Fx S:=fx 11 (fun _=>[]) (fun _=>false) [] [] k Tryz.f66 true [] 0
theorem Ww {S:Type} (o:Obj) (ho:af o) (k:Nat):Tl o 66 (KP k:Rw S):=ah (QN k) trivial Tryz.func66 (by kernel_rfl) fun kind l kids κ x h=>Eq.trans (by kernel_rfl) (aj h)
def CA {S:Type} (k:Nat):Rw S:=ag dp xn fun t κ=>aa k (ql k t) (eG κ)
def yJ {S:Type} (k:Nat):Fx S:=fp 133 [(47,gf k),(55,mc (dn k)),(62,Cy k),(66,KP k),(67,Cz k),(80,KK k),(81,KM k),(82,KN k),(83,KO k)] [(20,⟨[(1,.none),(2,.none),(6,.none),(8,.none),(9,.none),(10,.none),(11,some (100011,true)),(94,.none),(95,.none),(96,.none)],[(1,[.none,.none,.none,.none,.none,.none]),(2,[.none,.none,.none,some (200131,true),some (200132,true),some (200133,true)]),(6,[.none,.none,.none,.none,.none,.none]),(9,[.none,.none,.none,.none,.none,.none]),(10,[.none,.none,.none,.none,.none,some (200645,true)]),(44,[.none])]⟩,ao 21 769727)] k Tryz.f25 0
def Ij (r3:Tm) (r15:Int×Int×ByteArray×List Cl×List Tm) (x4:Tm) (r13:Tm×Int) (x5:Tm) (b44_0:Int) (sys11:List (Br Tm)) (v96:Int):St UU:=⟨[(1,(pt 1)),(2,(pt 2)),(6,(pt 6)),(8,(pt 44)),(9,(pt 9)),(10,(pt 10)),(11,(.own 100011 0)),(94,(sB x5.sys)),(95,(.int .i64 (x5.sys.length:Int))),(96,(iI v96))],[(1,bT r3),(2,.cells [(iI 0),(iI 0),(.str ByteArray.empty),(.own 200131 0),(.own 200132 0),(.own 200133 0)]),(6,bT x4),(9,bT r13.1),(10,.cells [(iI r15.1),(iI r15.2.1),(.str r15.2.2.1),(sC r15.2.2.2.1),(sT r15.2.2.2.2),(.own 200645 0)]),(44,bI b44_0)],[(200645,⟨0,ET.B,([]:List (Br Tm))⟩),(200133,⟨0,ET.B,([]:List (Br Tm))⟩),(200132,⟨0,ET.T,([]:List Tm)⟩),(200131,⟨0,ET.C,([]:List Cl)⟩),(100011,⟨0,ET.B,sys11⟩)],[(200645,.wr),(200133,.wr),(200132,.wr),(200131,.wr),(100011,.wr)]⟩
section
variable {S:Type} (k:Nat) (t:Tm) (κ:Out UU→Option S)
theorem S7 (r3 r15 x4 r13 x5): ∀n b44_0 sys11 v96,(yJ k).lp κ 20 [] n (Ij r3 r15 x4 r13 x5 b44_0 sys11 v96)=lv k (eG κ) r3 r15 x4 r13 x5 n b44_0 sys11 v96:=d_ (tI k (eG κ) r3 r15 x4 r13 x5) rfl (fun _=>rfl) fun r b44_0 sys11 v96=>by kernel_rfl
end
theorem Gm {S:Type} (o:Obj) (ho:af o) (k:Nat):Tl o 25 (CA k:Rw S):=ah (yJ k) ⟨gK o ho k,qZ o ho k,Gk o ho k,Ww o ho k,Gl o ho k,Wr o ho k,Wt o ho k,Wu o ho k,Wv o ho k,trivial⟩ Tryz.func25 (by kernel_rfl) fun t κ x h=>Eq.trans (b:=D4 k (eG κ) (fun r3 r15 x4 r13 x5 b44_0 sys11 v96=>(yJ k).lp κ 20 [] k (Ij r3 r15 x4 r13 x5 b44_0 sys11 v96)) t) (by kernel_rfl) (Eq.trans (by simp only [S7];rfl) (aj h))
def xo {S:Type} (k:Nat):Rw S:=ag gP xn fun a b κ=>aa k (iA k a b) (av κ)
def yK {S:Type} (k:Nat):Fx S:=fp 26 [] [(4,aI [0,1,5] [],ao 5 11)] k Tryz.f72 0
def Ik (a b:List Cl) (i5:Int):St UU:=⟨[(0,(sC a)),(1,(sC b)),(5,(iI i5))],[],[],[]⟩
section
variable {S:Type} (k:Nat) (a b:List Cl) (κ:Out UU→Option S)
theorem S8: ∀n i5,(yK k).lp κ 4 [] n (Ik a b i5)=iW k (av κ) a b n i5:=ca (mt k (av κ) a b) rfl (fun _=>rfl) fun r i5=>by kernel_rfl
end
theorem AE {S:Type} (o:Obj) (ho:af o) (k:Nat):Tl o 72 (xo k:Rw S):=ah (yK k) trivial Tryz.func72 (by kernel_rfl) fun a b κ x h=>Eq.trans (b:=yg k (av κ) (fun i5=>(yK k).lp κ 4 [] k (Ik a b i5)) a b) (by kernel_rfl) (Eq.trans (by simp only [S8];rfl) (aj h))
def sr {S:Type} (hd:d4 S):Rw S:=ag HF xn fun a b κ=>hd a b (av κ)
def KR {S:Type} (hd:d4 S) (k:Nat):Rw S:=ag Zy xn fun a b κ=>aa k (qB hd k a b) (av κ)
def yM {S:Type} (hd:d4 S) (k:Nat):Fx S:=fp 27 [(20,sr hd)] [(4,aI [0,1,5] [],ao 5 11)] k Tryz.f73 0
def Io (a b:List Tm) (i5:Int):St UU:=⟨[(0,(sT a)),(1,(sT b)),(5,(iI i5))],[],[],[]⟩
section
variable {S:Type} (hd:d4 S) (k:Nat) (a b:List Tm) (κ:Out UU→Option S)
theorem Tb: ∀n i5,(yM hd k).lp κ 4 [] n (Io a b i5)=nY hd k (av κ) a b n i5:=ca (uk hd k (av κ) a b) rfl (fun _=>rfl) fun r i5=>by kernel_rfl
end
theorem Wy {S:Type} (o:Obj) (ho:af o) (hd:d4 S) (Hd:Tl o 20 (sr hd)) (k:Nat):Tl o 73 (KR hd k:Rw S):=ah (yM hd k) ⟨Hd,trivial⟩ Tryz.func73 (by kernel_rfl) fun a b κ x h=>Eq.trans (b:=EB hd k (av κ) (fun i5=>(yM hd k).lp κ 4 [] k (Io a b i5)) a b) (by kernel_rfl) (Eq.trans (by simp only [Tb];rfl) (aj h))
def yL {S:Type} (hd:d4 S) (k:Nat):Fx S:=fp 87 [(72,xo k),(73,KR hd k)] [(4,aI [2,3,5] [(2,6),(3,6)],ao 5 11)] k Tryz.f20 0
def Im (a b:Tm) (i5:Int):St UU:=⟨[(2,(pt 2)),(3,(pt 3)),(5,(iI i5))],[(2,bT a),(3,bT b)],[],[]⟩
section
variable {S:Type} (hd:d4 S) (k:Nat) (a b:Tm) (κ:Out UU→Option S)
theorem Ta: ∀n i5,(yL hd k).lp κ 4 [] n (Im a b i5)=nW hd k (av κ) a b n i5:=ca (ui hd k (av κ) a b) rfl (fun _=>rfl) fun r i5=>by kernel_rfl
end
theorem A6 {S:Type} (o:Obj) (ho:af o): ∀k:Nat,Tl o 20 (sr (dC k:d4 S))
 |0=>dv fun a b κ x h=>by cases h
 |k+1=>ah (yL (dC k) k) ⟨AE o ho k,Wy o ho (dC k) (A6 o ho k) k,trivial⟩ Tryz.func20 (by kernel_rfl) fun a b κ x h=>Eq.trans (b:=Ez (dC k) k (av κ) (fun i5=>(yL (dC k) k).lp κ 4 [] k (Im a b i5)) a b) (by kernel_rfl) (Eq.trans (by simp only [Ta];rfl) h)
def KS {S:Type} (k:Nat):Rw S:=ag cn xn fun κ=>aa k (qm k) (av κ)
def QP {S:Type} (k:Nat):Fx S:=fp 127 [(20,sr (dC k)),(23,KJ k),(25,CA k),(72,xo k),(74,Lf k)] [] k Tryz.f22 0
theorem Wz {S:Type} (o:Obj) (ho:af o) (k:Nat):Tl o 22 (KS k:Rw S):=ah (QP k) ⟨A6 o ho k,Wq o ho k,Gm o ho k,AE o ho k,WV o ho k,trivial⟩ Tryz.func22 (by kernel_rfl) fun κ x h=>Eq.trans (by kernel_rfl) (aj h)
end
end Go.Proofs.YtehekgbehghgdaaGreatDoor
namespace Go.Proofs.YtehekgbehghgdaaGreatDoor
open Go PI
set_option linter.unusedVariables false
set_option maxRecDepth 100000
noncomputable section
def CB {S:Type} (hd:fJ S):Rw S:=ag dp xn fun t κ=>hd t (aQ κ)
def kH {S:Type} (hd:fJ S) (k:Nat):Fx S:=fp 86 [(17,CB hd)] [(3,⟨[(1,.none),(2,.none),(3,.none),(4,.none)],[(1,[.none,.none,.none,.none,.none,.none]),(2,[.none,.none,.none,some (200131,true),some (200132,true),some (200133,true)]),(3,[.none,.none,.none,some (200195,false),some (200196,true),some (200197,true)])]⟩,ao 5 11),(7,⟨[(1,.none),(2,.none),(3,.none),(5,.none)],[(1,[.none,.none,.none,.none,.none,.none]),(2,[.none,.none,.none,some (200131,true),some (200132,true),some (200133,true)]),(3,[.none,.none,.none,some (200195,false),some (200196,true),some (200197,true)])]⟩,ao 6 23),(11,⟨[(1,.none),(2,.none),(3,.none),(5,.none),(6,.none),(7,.none)],[(1,[.none,.none,.none,.none,.none,.none]),(2,[.none,.none,.none,some (200131,true),some (200132,true),some (200133,true)]),(3,[.none,.none,.none,some (200195,false),some (200196,true),some (200197,true)]),(6,[some (200384,false),some (200385,true)])]⟩,ao 14 5271)] k Tryz.f17 0
def BW (t:Tm) (b3_4:List Tm) (i4:Int):St UU:=⟨[(1,(pt 1)),(2,(pt 2)),(3,(pt 3)),(4,(iI i4))],[(1,bT t),(2,.cells [(iI 0),(iI 0),(.str ByteArray.empty),(.own 200131 0),(.own 200132 0),(.own 200133 0)]),(3,.cells [(iI t.kind),(iI t.n),(.str t.name),(.own 200195 0),(.own 200196 0),(.own 200197 0)])],[(200197,⟨0,ET.B,([]:List (Br Tm))⟩),(200196,⟨0,ET.T,b3_4⟩),(200195,⟨0,ET.C,([]:List Cl)++t.r⟩),(200133,⟨0,ET.B,([]:List (Br Tm))⟩),(200132,⟨0,ET.T,([]:List Tm)⟩),(200131,⟨0,ET.C,([]:List Cl)⟩)],[(200197,.wr),(200196,.wr),(200195,.app),(200133,.wr),(200132,.wr),(200131,.wr)]⟩
def rG (t:Tm) (b3_4:List Tm) (b3_5:List (Br Tm)) (i5:Int):St UU:=⟨[(1,(pt 1)),(2,(pt 2)),(3,(pt 3)),(5,(iI i5))],[(1,bT t),(2,.cells [(iI 0),(iI 0),(.str ByteArray.empty),(.own 200131 0),(.own 200132 0),(.own 200133 0)]),(3,.cells [(iI t.kind),(iI t.n),(.str t.name),(.own 200195 0),(.own 200196 0),(.own 200197 0)])],[(200197,⟨0,ET.B,b3_5⟩),(200196,⟨0,ET.T,b3_4⟩),(200195,⟨0,ET.C,([]:List Cl)++t.r⟩),(200133,⟨0,ET.B,([]:List (Br Tm))⟩),(200132,⟨0,ET.T,([]:List Tm)⟩),(200131,⟨0,ET.C,([]:List Cl)⟩)],[(200197,.wr),(200196,.wr),(200195,.app),(200133,.wr),(200132,.wr),(200131,.wr)]⟩
def Ip (t:Tm) (b3_4:List Tm) (b3_5:List (Br Tm)) (x5:(Br Tm)) (i5:Int) (b6_1:List Tm) (v7:Int):St UU:=⟨[(1,(pt 1)),(2,(pt 2)),(3,(pt 3)),(5,(iI i5)),(6,(pt 6)),(7,(iI v7))],[(1,bT t),(2,.cells [(iI 0),(iI 0),(.str ByteArray.empty),(.own 200131 0),(.own 200132 0),(.own 200133 0)]),(3,.cells [(iI t.kind),(iI t.n),(.str t.name),(.own 200195 0),(.own 200196 0),(.own 200197 0)]),(6,.cells [(.own 200384 0),(.own 200385 0)])],[(200385,⟨0,ET.T,b6_1⟩),(200384,⟨0,ET.C,([]:List Cl)++x5.face⟩),(200197,⟨0,ET.B,b3_5⟩),(200196,⟨0,ET.T,b3_4⟩),(200195,⟨0,ET.C,([]:List Cl)++t.r⟩),(200133,⟨0,ET.B,([]:List (Br Tm))⟩),(200132,⟨0,ET.T,([]:List Tm)⟩),(200131,⟨0,ET.C,([]:List Cl)⟩)],[(200385,.wr),(200384,.app),(200197,.wr),(200196,.wr),(200195,.app),(200133,.wr),(200132,.wr),(200131,.wr)]⟩
section
variable {S:Type} (hd:fJ S) (k:Nat) (t:Tm) (κ:Out UU→Option S)
theorem Te (b3_4 b3_5 x5 i5 κ1): ∀n b6_1 v7,(kH hd k).lp κ 11 [κ1] n (Ip t b3_4 b3_5 x5 i5 b6_1 v7)=lJ hd k (aQ κ) (fun b3_5 i5=>κ1 (rG t b3_4 b3_5 i5)) t b3_4 b3_5 x5 i5 n b6_1 v7:=aE (ug hd k (aQ κ) t b3_4 b3_5 x5 i5 (fun b3_5 i5=>κ1 (rG t b3_4 b3_5 i5))) rfl (fun _=>rfl) fun r b6_1 v7=>by kernel_rfl
theorem Td (b3_4): ∀n b3_5 i5,(kH hd k).lp κ 7 [] n (rG t b3_4 b3_5 i5)=iZ hd k (aQ κ) t b3_4 n b3_5 i5:=aE (fun own=>pJ hd k (aQ κ) t b3_4 (fun b3_5 x5 i5 b6_1 v7=>lJ hd k (aQ κ) own t b3_4 b3_5 x5 i5 k b6_1 v7) own) rfl (fun _=>rfl) fun r b3_5 i5=>Eq.trans (b:=pJ hd k (aQ κ) t b3_4 (fun b3_5 x5 i5 b6_1 v7=>(kH hd k).lp κ 11 [r] k (Ip t b3_4 b3_5 x5 i5 b6_1 v7)) (fun b3_5 i5=>r (rG t b3_4 b3_5 i5)) b3_5 i5) (by kernel_rfl) (by simp only [Te])
theorem Tc: ∀n b3_4 i4,(kH hd k).lp κ 3 [] n (BW t b3_4 i4)=nV hd k (aQ κ) t n b3_4 i4:=aE (fun own=>pI hd k (aQ κ) t (fun b3_4 b3_5 i5=>iZ hd k (aQ κ) t b3_4 k b3_5 i5) own) rfl (fun _=>rfl) fun r b3_4 i4=>Eq.trans (b:=pI hd k (aQ κ) t (fun b3_4 b3_5 i5=>(kH hd k).lp κ 7 [] k (rG t b3_4 b3_5 i5)) (fun b3_4 i4=>r (BW t b3_4 i4)) b3_4 i4) (by kernel_rfl) (by simp only [Td])
end
theorem G8 {S:Type} (o:Obj) (ho:af o): ∀k:Nat,Tl o 17 (CB (gF k:fJ S))
 |0=>dv fun t κ x h=>by cases h
 |k+1=>ah (kH (gF k) k) ⟨G8 o ho k,trivial⟩ Tryz.func17 (by kernel_rfl) fun t κ x h=>Eq.trans (b:=Ew (gF k) k (aQ κ) (fun b3_4 i4=>(kH (gF k) k).lp κ 3 [] k (BW t b3_4 i4)) t) (by kernel_rfl) (Eq.trans (by simp only [Tc];rfl) h)
def CC {S:Type} (hd:fK S):Rw S:=ag dp xn fun t κ=>hd t (aA κ)
def kI {S:Type} (hd:fK S) (k:Nat):Fx S:=fp 60 [(208,CC hd)] [(3,aI [1,3,4] [(1,6)],ao 5 11),(9,aI [1,3,6] [(1,6)],ao 6 23),(12,aI [1,3,6,7] [(1,6)],ao 12 1175)] k Tryz.f208 0
def BX (t:Tm) (most3 i4:Int):St UU:=⟨[(1,(pt 1)),(3,(iI most3)),(4,(iI i4))],[(1,bT t)],[],[]⟩
def rH (t:Tm) (most3' i6:Int):St UU:=⟨[(1,(pt 1)),(3,(iI most3')),(6,(iI i6))],[(1,bT t)],[],[]⟩
def Iq (t:Tm) (i6:Int) (most3'' v7:Int):St UU:=⟨[(1,(pt 1)),(3,(iI most3'')),(6,(iI i6)),(7,(iI v7))],[(1,bT t)],[],[]⟩
section
variable {S:Type} (hd:fK S) (k:Nat) (t:Tm) (κ:Out UU→Option S)
theorem Th (i6 κ1): ∀n most3'' v7,(kI hd k).lp κ 12 [κ1] n (Iq t i6 most3'' v7)=j9 hd k (aA κ) (fun most3' i6=>κ1 (rH t most3' i6)) t i6 n most3'' v7:=aE (uh hd k (aA κ) t i6 (fun most3' i6=>κ1 (rH t most3' i6))) rfl (fun _=>rfl) fun r most3'' v7=>by kernel_rfl
theorem Tg: ∀n most3' i6,(kI hd k).lp κ 9 [] n (rH t most3' i6)=i8 hd k (aA κ) t n most3' i6:=aE (fun own=>pL hd k (aA κ) t (fun i6 most3'' v7=>j9 hd k (aA κ) own t i6 k most3'' v7) own) rfl (fun _=>rfl) fun r most3' i6=>Eq.trans (b:=pL hd k (aA κ) t (fun i6 most3'' v7=>(kI hd k).lp κ 12 [r] k (Iq t i6 most3'' v7)) (fun most3' i6=>r (rH t most3' i6)) most3' i6) (by kernel_rfl) (by simp only [Th])
theorem Tf: ∀n most3 i4,(kI hd k).lp κ 3 [] n (BX t most3 i4)=lK hd k (aA κ) t n most3 i4:=aE (fun own=>pK hd k (aA κ) t (fun most3' i6=>i8 hd k (aA κ) t k most3' i6) own) rfl (fun _=>rfl) fun r most3 i4=>Eq.trans (b:=pK hd k (aA κ) t (fun most3' i6=>(kI hd k).lp κ 9 [] k (rH t most3' i6)) (fun most3 i4=>r (BX t most3 i4)) most3 i4) (by kernel_rfl) (by simp only [Tg])
end
theorem G9 {S:Type} (o:Obj) (ho:af o): ∀k:Nat,Tl o 208 (CC (gG k:fK S))
 |0=>dv fun t κ x h=>by cases h
 |k+1=>ah (kI (gG k) k) ⟨G9 o ho k,trivial⟩ Tryz.func208 (by kernel_rfl) fun t κ x h=>Eq.trans (b:=Ey (gG k) k (aA κ) (fun most3 i4=>(kI (gG k) k).lp κ 3 [] k (BX t most3 i4)) t) (by kernel_rfl) (Eq.trans (by simp only [Tf];rfl) h)
def CD {S:Type} (hd:fL S):Rw S:=ag dp xn fun t κ=>hd t (aA κ)
def kJ {S:Type} (hd:fL S) (k:Nat):Fx S:=fp 53 [(209,CD hd)] [(3,aI [1,3,4] [(1,6)],ao 5 11),(7,aI [1,3,5] [(1,6)],ao 6 23),(10,aI [1,3,5,6] [(1,6)],ao 12 1175)] k Tryz.f209 0
def BY (t:Tm) (v3 i4:Int):St UU:=⟨[(1,(pt 1)),(3,(iI v3)),(4,(iI i4))],[(1,bT t)],[],[]⟩
def rI (t:Tm) (v3' i5:Int):St UU:=⟨[(1,(pt 1)),(3,(iI v3')),(5,(iI i5))],[(1,bT t)],[],[]⟩
def Ir (t:Tm) (i5:Int) (v3'' v6:Int):St UU:=⟨[(1,(pt 1)),(3,(iI v3'')),(5,(iI i5)),(6,(iI v6))],[(1,bT t)],[],[]⟩
section
variable {S:Type} (hd:fL S) (k:Nat) (t:Tm) (κ:Out UU→Option S)
theorem Tk (i5 κ1): ∀n v3'' v6,(kJ hd k).lp κ 10 [κ1] n (Ir t i5 v3'' v6)=lL hd k (aA κ) (fun v3' i5=>κ1 (rI t v3' i5)) t i5 n v3'' v6:=aE (uj hd k (aA κ) t i5 (fun v3' i5=>κ1 (rI t v3' i5))) rfl (fun _=>rfl) fun r v3'' v6=>by kernel_rfl
theorem Tj: ∀n v3' i5,(kJ hd k).lp κ 7 [] n (rI t v3' i5)=i_ hd k (aA κ) t n v3' i5:=aE (fun own=>pN hd k (aA κ) t (fun i5 v3'' v6=>lL hd k (aA κ) own t i5 k v3'' v6) own) rfl (fun _=>rfl) fun r v3' i5=>Eq.trans (b:=pN hd k (aA κ) t (fun i5 v3'' v6=>(kJ hd k).lp κ 10 [r] k (Ir t i5 v3'' v6)) (fun v3' i5=>r (rI t v3' i5)) v3' i5) (by kernel_rfl) (by simp only [Tk])
theorem Ti: ∀n v3 i4,(kJ hd k).lp κ 3 [] n (BY t v3 i4)=nX hd k (aA κ) t n v3 i4:=aE (fun own=>pM hd k (aA κ) t (fun v3' i5=>i_ hd k (aA κ) t k v3' i5) own) rfl (fun _=>rfl) fun r v3 i4=>Eq.trans (b:=pM hd k (aA κ) t (fun v3' i5=>(kJ hd k).lp κ 7 [] k (rI t v3' i5)) (fun v3 i4=>r (BY t v3 i4)) v3 i4) (by kernel_rfl) (by simp only [Tj])
end
theorem G_ {S:Type} (o:Obj) (ho:af o): ∀k:Nat,Tl o 209 (CD (gH k:fL S))
 |0=>dv fun t κ x h=>by cases h
 |k+1=>ah (kJ (gH k) k) ⟨G_ o ho k,trivial⟩ Tryz.func209 (by kernel_rfl) fun t κ x h=>Eq.trans (b:=EA (gH k) k (aA κ) (fun v3 i4=>(kJ (gH k) k).lp κ 3 [] k (BY t v3 i4)) t) (by kernel_rfl) (Eq.trans (by simp only [Ti];rfl) h)
def KT {S:Type} (k:Nat):Rw S:=ag dp xn fun t κ=>aa k (vu k t) (aA κ)
def QQ {S:Type} (k:Nat):Fx S:=fp 9 [(208,CC (gG k)),(209,CD (gH k))] [] k Tryz.f129 0
theorem WA {S:Type} (o:Obj) (ho:af o) (k:Nat):Tl o 129 (KT k:Rw S):=ah (QQ k) ⟨G9 o ho k,G_ o ho k,trivial⟩ Tryz.func129 (by kernel_rfl) fun t κ x h=>Eq.trans (by kernel_rfl) (aj h)
def KU {S:Type} (k:Nat):Rw S:=ag eS xn fun kind κ=>aa k (qA k kind) (aA κ)
def QR {S:Type} (k:Nat):Fx S:=fp 14 [] [] k Tryz.f97 0
theorem WB {S:Type} (o:Obj) (ho:af o) (k:Nat):Tl o 97 (KU k:Rw S):=ah (QR k) trivial Tryz.func97 (by kernel_rfl) fun kind κ x h=>Eq.trans (by kernel_rfl) (aj h)
def KV {S:Type} (k:Nat):Rw S:=ag eS xn fun kind κ=>aa k (mW k kind) (aA κ)
def QS {S:Type} (k:Nat):Fx S:=fp 15 [] [] k Tryz.f210 0
theorem WC {S:Type} (o:Obj) (ho:af o) (k:Nat):Tl o 210 (KV k:Rw S):=ah (QS k) trivial Tryz.func210 (by kernel_rfl) fun kind κ x h=>Eq.trans (by kernel_rfl) (aj h)
def KW {S:Type} (k:Nat):Rw S:=ag Hn xn fun s κ=>aa k (vt k s) (av κ)
def oY {S:Type} (k:Nat):Fx S:=fp 45 [] [(2,aI [0,3] [],ao 4 5),(1000006,aI [0,3,4] [],ao 10 805)] k Tryz.f211 0
def rJ (s:ByteArray) (i3:Int):St UU:=⟨[(0,(.str s)),(3,(iI i3))],[],[],[]⟩
def Is (s:ByteArray) (i3:Int) (x1:UInt8):St UU:=⟨[(0,(.str s)),(3,(iI i3)),(4,(.int .u8 (x1.toNat:Int)))],[],[],[]⟩
section
variable {S:Type} (k:Nat) (s:ByteArray) (κ:Out UU→Option S)
theorem To (i3 x1 κ0): ∀n,(oY k).jn κ 1000006 [κ0] n (Is s i3 x1)=wD k (av κ) (fun i3=>κ0 (rJ s i3)) s i3 x1 n:=gO (zG k (av κ) s i3 x1 (fun i3=>κ0 (rJ s i3))) rfl (fun _=>rfl) (by kernel_rfl)
theorem Tn: ∀n i3,(oY k).lp κ 2 [] n (rJ s i3)=lM k (av κ) s n i3:=ca (fun own=>pO k (av κ) s (fun i3 x1=>wD k (av κ) own s i3 x1 k) own) rfl (fun _=>rfl) fun r i3=>Eq.trans (b:=pO k (av κ) s (fun i3 x1=>(oY k).jn κ 1000006 [r] k (Is s i3 x1)) (fun i3=>r (rJ s i3)) i3) (by kernel_rfl) (by simp only [To])
end
theorem WD {S:Type} (o:Obj) (ho:af o) (k:Nat):Tl o 211 (KW k:Rw S):=ah (oY k) trivial Tryz.func211 (by kernel_rfl) fun s κ x h=>Eq.trans (b:=EC k (av κ) (fun i3=>(oY k).lp κ 2 [] k (rJ s i3)) s) (by kernel_rfl) (Eq.trans (by simp only [Tn];rfl) (aj h))
def xp {S:Type} (k:Nat):Rw S:=ag eS xn fun a_n κ=>aa k (mR k a_n) (aA κ)
def yN {S:Type} (k:Nat):Fx S:=fp 13 [] [(3,aI [0,3,4] [],ao 5 11)] k Tryz.f376 0
def It (a_n:Int) (p3 i4:Int):St UU:=⟨[(0,(iI a_n)),(3,(iI p3)),(4,(iI i4))],[],[],[]⟩
section
variable {S:Type} (k:Nat) (a_n:Int) (κ:Out UU→Option S)
theorem Tp: ∀n p3 i4,(yN k).lp κ 3 [] n (It a_n p3 i4)=nH k (aA κ) a_n n p3 i4:=aE (tP k (aA κ) a_n) rfl (fun _=>rfl) fun r p3 i4=>by kernel_rfl
end
theorem AF {S:Type} (o:Obj) (ho:af o) (k:Nat):Tl o 376 (xp k:Rw S):=ah (yN k) trivial Tryz.func376 (by kernel_rfl) fun a_n κ x h=>Eq.trans (b:=Eb k (aA κ) (fun p3 i4=>(yN k).lp κ 3 [] k (It a_n p3 i4)) a_n) (by kernel_rfl) (Eq.trans (by simp only [Tp];rfl) (aj h))
def KX {S:Type} (k:Nat):Rw S:=ag re xn fun s κ=>aa k (mQ k s) (av κ)
def QV {S:Type} (k:Nat):Fx S:=fp 7 [(376,xp k)] [] k Tryz.f362 0
theorem WE {S:Type} (o:Obj) (ho:af o) (k:Nat):Tl o 362 (KX k:Rw S):=ah (QV k) ⟨AF o ho k,trivial⟩ Tryz.func362 (by kernel_rfl) fun s κ x h=>Eq.trans (by kernel_rfl) (aj h)
def CF {S:Type} (k:Nat):Rw S:=ag lm xn fun c κ=>aa k (qw k c) (av κ)
def QW {S:Type} (k:Nat):Fx S:=fp 11 [(362,KX k)] [] k Tryz.f314 0
theorem Gp {S:Type} (o:Obj) (ho:af o) (k:Nat):Tl o 314 (CF k:Rw S):=ah (QW k) ⟨WE o ho k,trivial⟩ Tryz.func314 (by kernel_rfl) fun c κ x h=>Eq.trans (by kernel_rfl) (aj h)
def KY {S:Type} (k:Nat):Rw S:=ag rf xn fun a b κ=>aa k (vi k a b) (av κ)
def QX {S:Type} (k:Nat):Fx S:=fp 23 [] [] k Tryz.f363 0
theorem WF {S:Type} (o:Obj) (ho:af o) (k:Nat):Tl o 363 (KY k:Rw S):=ah (QX k) trivial Tryz.func363 (by kernel_rfl) fun a b κ x h=>Eq.trans (by kernel_rfl) (aj h)
def KZ {S:Type} (k:Nat):Rw S:=ag Hw xn fun l c κ=>aa k (vl k l c) (av κ)
def yO {S:Type} (k:Nat):Fx S:=fp 26 [(363,KY k)] [(2,aI [0,3,5] [(3,2)],ao 4 5)] k Tryz.f316 0
def Iu (c:Cl) (l:List Cl) (i5:Int):St UU:=⟨[(0,(sC l)),(3,(pt 3)),(5,(iI i5))],[(3,bC c)],[],[]⟩
section
variable {S:Type} (k:Nat) (l:List Cl) (c:Cl) (κ:Out UU→Option S)
theorem Tq: ∀n i5,(yO k).lp κ 2 [] n (Iu c l i5)=nL k (av κ) c l n i5:=ca (tT k (av κ) c l) rfl (fun _=>rfl) fun r i5=>by kernel_rfl
end
theorem WG {S:Type} (o:Obj) (ho:af o) (k:Nat):Tl o 316 (KZ k:Rw S):=ah (yO k) ⟨WF o ho k,trivial⟩ Tryz.func316 (by kernel_rfl) fun l c κ x h=>Eq.trans (b:=Ee k (av κ) (fun i5=>(yO k).lp κ 2 [] k (Iu c l i5)) l c) (by kernel_rfl) (Eq.trans (by simp only [Tq];rfl) (aj h))
def K0 {S:Type} (k:Nat):Rw S:=ag rf xn fun a b κ=>aa k (vj k a b) (av κ)
def QY {S:Type} (k:Nat):Fx S:=fp 24 [] [] k Tryz.f317 0
theorem WH {S:Type} (o:Obj) (ho:af o) (k:Nat):Tl o 317 (K0 k:Rw S):=ah (QY k) trivial Tryz.func317 (by kernel_rfl) fun a b κ x h=>Eq.trans (by kernel_rfl) (aj h)
def ko {S:Type} (k:Nat):Rw S:=ag dK xn fun l κ=>aa k (gD k l) (au κ)
def kK {S:Type} (k:Nat):Fx S:=fp 84 [(314,CF k),(316,KZ k),(317,K0 k)] [(2,aI [0,4] [],ao 4 5),(8,⟨[(0,.none),(5,some (100005,false)),(6,.none)],[]⟩,ao 6 23),(12,⟨[(0,.none),(5,some (100005,false)),(6,.none),(7,.none)],[]⟩,ao 14 3223)] k Tryz.f239 0
def BZ (l:List Cl) (i4:Int):St UU:=⟨[(0,(sC l)),(4,(iI i4))],[],[],[]⟩
def rL (l:List Cl) (out5:List Cl) (i6:Int):St UU:=⟨[(0,(sC l)),(5,(.own 100005 0)),(6,(iI i6))],[],[(100005,⟨0,ET.C,out5⟩)],[(100005,.app)]⟩
def Iv (l out5:List Cl) (i6:Int) (v7:Int):St UU:=⟨[(0,(sC l)),(5,(.own 100005 0)),(6,(iI i6)),(7,(iI v7))],[],[(100005,⟨0,ET.C,out5⟩)],[(100005,.app)]⟩
section
variable {S:Type} (k:Nat) (l:List Cl) (κ:Out UU→Option S)
theorem Tt (out5 i6 κ1): ∀n v7,(kK k).lp κ 12 [κ1] n (Iv l out5 i6 v7)=lz k (au κ) (fun out5 i6=>κ1 (rL l out5 i6)) l out5 i6 n v7:=ca (tR k (au κ) l out5 i6 (fun out5 i6=>κ1 (rL l out5 i6))) rfl (fun _=>rfl) fun r v7=>by kernel_rfl
theorem Ts: ∀n out5 i6,(kK k).lp κ 8 [] n (rL l out5 i6)=iV k (au κ) l n out5 i6:=aE (fun own=>pw k (au κ) l (fun out5 i6 v7=>lz k (au κ) own l out5 i6 k v7) own) rfl (fun _=>rfl) fun r out5 i6=>Eq.trans (b:=pw k (au κ) l (fun out5 i6 v7=>(kK k).lp κ 12 [r] k (Iv l out5 i6 v7)) (fun out5 i6=>r (rL l out5 i6)) out5 i6) (by kernel_rfl) (by simp only [Tt])
theorem Tr: ∀n i4,(kK k).lp κ 2 [] n (BZ l i4)=nJ k (au κ) l n i4:=ca (fun own=>pu k (au κ) l (fun out5 i6=>iV k (au κ) l k out5 i6) own) rfl (fun _=>rfl) fun r i4=>Eq.trans (b:=pu k (au κ) l (fun out5 i6=>(kK k).lp κ 8 [] k (rL l out5 i6)) (fun i4=>r (BZ l i4)) i4) (by kernel_rfl) (by simp only [Ts])
end
theorem ld {S:Type} (o:Obj) (ho:af o) (k:Nat):Tl o 239 (ko k:Rw S):=ah (kK k) ⟨Gp o ho k,WG o ho k,WH o ho k,trivial⟩ Tryz.func239 (by kernel_rfl) fun l κ x h=>Eq.trans (b:=Ed k (au κ) (fun i4=>(kK k).lp κ 2 [] k (BZ l i4)) l) (by kernel_rfl) (Eq.trans (by simp only [Tr];rfl) (aj h))
def gZ {S:Type} (k:Nat):Rw S:=ag dK xn fun f κ=>aa k (dJ k f) (av κ)
def QZ {S:Type} (k:Nat):Fx S:=fp 17 [(72,xo k),(239,ko k)] [] k Tryz.f212 0
theorem iG {S:Type} (o:Obj) (ho:af o) (k:Nat):Tl o 212 (gZ k:Rw S):=ah (QZ k) ⟨AE o ho k,ld o ho k,trivial⟩ Tryz.func212 (by kernel_rfl) fun f κ x h=>Eq.trans (by kernel_rfl) (aj h)
def kq {S:Type} (k:Nat):Rw S:=ag jR xn fun s i κ=>aa k (dl k s i) (av κ)
def Q0 {S:Type} (k:Nat):Fx S:=fp 20 [(376,xp k)] [] k Tryz.f350 0
theorem lf {S:Type} (o:Obj) (ho:af o) (k:Nat):Tl o 350 (kq k:Rw S):=ah (Q0 k) ⟨AF o ho k,trivial⟩ Tryz.func350 (by kernel_rfl) fun s i κ x h=>Eq.trans (by kernel_rfl) (aj h)
def l_ {S:Type} (k:Nat):Rw S:=ag Zz xn fun l κ=>aa k (gC k l) (bG κ)
def yP {S:Type} (k:Nat):Fx S:=fp 20 [(376,xp k)] [(3,aI [0,3,4] [],ao 5 11)] k Tryz.f351 0
def Iw (l:List Int) (v3 i4:Int):St UU:=⟨[(0,(gj l .none)),(3,(iI v3)),(4,(iI i4))],[],[],[]⟩
section
variable {S:Type} (k:Nat) (l:List Int) (κ:Out UU→Option S)
theorem Tu: ∀n v3 i4,(yP k).lp κ 3 [] n (Iw l v3 i4)=nF k (bG κ) l n v3 i4:=aE (tN k (bG κ) l) rfl (fun _=>rfl) fun r v3 i4=>by kernel_rfl
end
theorem m8 {S:Type} (o:Obj) (ho:af o) (k:Nat):Tl o 351 (l_ k:Rw S):=ah (yP k) ⟨AF o ho k,trivial⟩ Tryz.func351 (by kernel_rfl) fun l κ x h=>Eq.trans (b:=D_ k (bG κ) (fun v3 i4=>(yP k).lp κ 3 [] k (Iw l v3 i4)) l) (by kernel_rfl) (Eq.trans (by simp only [Tu];rfl) (aj h))
def CG {S:Type} (k:Nat):Rw S:=ag dK xn fun f κ=>aa k (qy k f) (bG κ)
def oZ {S:Type} (k:Nat):Fx S:=fp 43 [(350,kq k),(351,l_ k)] [(3,⟨[(0,.none),(3,some (100003,true)),(4,.none)],[]⟩,ao 5 11),(7,⟨[(0,.none),(3,some (100003,true)),(4,.none),(5,.none),(6,.none)],[]⟩,ao 13 2635)] k Tryz.f297 0
def rM (f:List Cl) (l3:List Int) (i4:Int):St UU:=⟨[(0,(sC f)),(3,(.own 100003 0)),(4,(iI i4))],[],[(100003,⟨0,ET.I,l3⟩)],[(100003,.wr)]⟩
def Ix (f:List Cl) (l3:List Int) (i4:Int) (v5:Bool) (v6:Int):St UU:=⟨[(0,(sC f)),(3,(.own 100003 0)),(4,(iI i4)),(5,(.bool v5)),(6,(iI v6))],[],[(100003,⟨0,ET.I,l3⟩)],[(100003,.wr)]⟩
section
variable {S:Type} (k:Nat) (f:List Cl) (κ:Out UU→Option S)
theorem Tw (l3 i4 κ0): ∀n v5 v6,(oZ k).lp κ 7 [κ0] n (Ix f l3 i4 v5 v6)=lA k (bG κ) (fun l3 i4=>κ0 (rM f l3 i4)) f l3 i4 n v5 v6:=aE (tV k (bG κ) f l3 i4 (fun l3 i4=>κ0 (rM f l3 i4))) rfl (fun _=>rfl) fun r v5 v6=>by kernel_rfl
theorem Tv: ∀n l3 i4,(oZ k).lp κ 3 [] n (rM f l3 i4)=j4 k (bG κ) f n l3 i4:=aE (fun own=>px k (bG κ) f (fun l3 i4 v5 v6=>lA k (bG κ) own f l3 i4 k v5 v6) own) rfl (fun _=>rfl) fun r l3 i4=>Eq.trans (b:=px k (bG κ) f (fun l3 i4 v5 v6=>(oZ k).lp κ 7 [r] k (Ix f l3 i4 v5 v6)) (fun l3 i4=>r (rM f l3 i4)) l3 i4) (by kernel_rfl) (by simp only [Tw])
end
theorem Gq {S:Type} (o:Obj) (ho:af o) (k:Nat):Tl o 297 (CG k:Rw S):=ah (oZ k) ⟨lf o ho k,m8 o ho k,trivial⟩ Tryz.func297 (by kernel_rfl) fun f κ x h=>Eq.trans (b:=Eg k (bG κ) (fun l3 i4=>(oZ k).lp κ 3 [] k (rM f l3 i4)) f) (by kernel_rfl) (Eq.trans (by simp only [Tv];rfl) (aj h))
def ma {S:Type} (k:Nat):Rw S:=ag re xn fun s κ=>aa k (gA k s) (xj κ)
def yQ {S:Type} (k:Nat):Fx S:=fx 17 (fun _=>[]) (fun _=>false) [(350,kq k)] [(3,⟨[(0,.none),(3,some (100003,true)),(4,.none)],[]⟩,ao 5 11)] k Tryz.f296 false [true] 0
def Iy (s:Int) (out3:List Int) (i4:Int):St UU:=⟨[(0,(iU s)),(3,(.own 100003 0)),(4,(iI i4))],[],[(100003,⟨0,ET.I,out3⟩)],[(100003,.wr)]⟩
section
variable {S:Type} (k:Nat) (s:Int) (κ:Out UU→Option S)
theorem Tx: ∀n out3 i4,(yQ k).lp κ 3 [] n (Iy s out3 i4)=rj k (xj κ) s n out3 i4:=aE (zD k (xj κ) s) rfl (fun _=>rfl) fun r out3 i4=>by kernel_rfl
end
theorem m9 {S:Type} (o:Obj) (ho:af o) (k:Nat):Tl o 296 (ma k:Rw S):=ah (yQ k) ⟨lf o ho k,trivial⟩ Tryz.func296 (by kernel_rfl) fun s κ x h=>Eq.trans (b:=D9 k (xj κ) (fun out3 i4=>(yQ k).lp κ 3 [] k (Iy s out3 i4)) s) (by kernel_rfl) (Eq.trans (by simp only [Tx];rfl) (aj h))
def K3 {S:Type} (k:Nat):Rw S:=ag Bf xn fun f dims κ=>aa k (qC k f dims) (av κ)
def Q2 {S:Type} (k:Nat):Fx S:=fp 22 [(296,ma k),(297,CG k)] [] k Tryz.f214 0
theorem WI {S:Type} (o:Obj) (ho:af o) (k:Nat):Tl o 214 (K3 k:Rw S):=ah (Q2 k) ⟨m9 o ho k,Gq o ho k,trivial⟩ Tryz.func214 (by kernel_rfl) fun f dims κ x h=>Eq.trans (by kernel_rfl) (aj h)
def xt {S:Type} (k:Nat):Rw S:=ag Hr xn fun kind kid κ=>aa k (mT k kind kid) (jh κ)
def o0 {S:Type} (k:Nat):Fx S:=fp 44 [] [(1000003,aI [0,1] [],ao 2 3),(1000005,aI [0,1] [],ao 3 7)] k Tryz.f215 0
def Iz (kind kid:Int):St UU:=⟨[(0,(iI kind)),(1,(iI kid))],[],[],[]⟩
def IA (kind kid:Int):St UU:=⟨[(0,(iI kind)),(1,(iI kid))],[],[],[]⟩
section
variable {S:Type} (k:Nat) (kind kid:Int) (κ:Out UU→Option S)
theorem TB: ∀n,(o0 k).jn κ 1000005 [] n (IA kind kid)=wC k (jh κ) kind kid n:=gO (zF k (jh κ) kind kid) rfl (fun _=>rfl) (by kernel_rfl)
theorem Tz: ∀n,(o0 k).jn κ 1000003 [] n (Iz kind kid)=BA k (jh κ) kind kid n:=gO (ue k (jh κ) kind kid (wC k (jh κ) kind kid k)) rfl (fun _=>rfl) (Eq.trans (b:=ue k (jh κ) kind kid ((o0 k).jn κ 1000005 [] k (IA kind kid))) (by kernel_rfl) (by simp only [TB]))
end
theorem AH {S:Type} (o:Obj) (ho:af o) (k:Nat):Tl o 215 (xt k:Rw S):=ah (o0 k) trivial Tryz.func215 (by kernel_rfl) fun kind kid κ x h=>Eq.trans (b:=Eu k (jh κ) ((o0 k).jn κ 1000003 [] k (Iz kind kid)) kind kid) (by kernel_rfl) (Eq.trans (by simp only [Tz];rfl) (aj h))
def CH {S:Type} (k:Nat):Rw S:=ag lm xn fun c κ=>aa k (qu k c) (av κ)
def yR {S:Type} (k:Nat):Fx S:=fp 18 [(350,kq k)] [(2,aI [1,3] [(1,2)],ao 4 5)] k Tryz.f295 0
def IB (c:Cl) (i3:Int):St UU:=⟨[(1,(pt 1)),(3,(iI i3))],[(1,bC c)],[],[]⟩
section
variable {S:Type} (k:Nat) (c:Cl) (κ:Out UU→Option S)
theorem TC: ∀n i3,(yR k).lp κ 2 [] n (IB c i3)=nI k (av κ) c n i3:=ca (tQ k (av κ) c) rfl (fun _=>rfl) fun r i3=>by kernel_rfl
end
theorem Gr {S:Type} (o:Obj) (ho:af o) (k:Nat):Tl o 295 (CH k:Rw S):=ah (yR k) ⟨lf o ho k,trivial⟩ Tryz.func295 (by kernel_rfl) fun c κ x h=>Eq.trans (b:=Ec k (av κ) (fun i3=>(yR k).lp κ 2 [] k (IB c i3)) c) (by kernel_rfl) (Eq.trans (by simp only [TC];rfl) (aj h))
def su {S:Type} (k:Nat):Rw S:=ag dK xn fun f κ=>aa k (gE k f) (av κ)
def yS {S:Type} (k:Nat):Fx S:=fp 18 [(212,gZ k),(295,CH k)] [(4,aI [0,3] [],ao 5 11)] k Tryz.f213 0
def IC (f:List Cl) (i3:Int):St UU:=⟨[(0,(sC f)),(3,(iI i3))],[],[],[]⟩
section
variable {S:Type} (k:Nat) (f:List Cl) (κ:Out UU→Option S)
theorem TD: ∀n i3,(yS k).lp κ 4 [] n (IC f i3)=nR k (av κ) f n i3:=ca (t8 k (av κ) f) rfl (fun _=>rfl) fun r i3=>by kernel_rfl
end
theorem vN {S:Type} (o:Obj) (ho:af o) (k:Nat):Tl o 213 (su k:Rw S):=ah (yS k) ⟨iG o ho k,Gr o ho k,trivial⟩ Tryz.func213 (by kernel_rfl) fun f κ x h=>Eq.trans (b:=Er k (av κ) (fun i3=>(yS k).lp κ 4 [] k (IC f i3)) f) (by kernel_rfl) (Eq.trans (by simp only [TD];rfl) (aj h))
def xu {S:Type} (k:Nat):Rw S:=ag eS xn fun kind κ=>aa k (mV k kind) (aA κ)
def Q3 {S:Type} (k:Nat):Fx S:=fp 5 [] [] k Tryz.f216 0
theorem AI {S:Type} (o:Obj) (ho:af o) (k:Nat):Tl o 216 (xu k:Rw S):=ah (Q3 k) trivial Tryz.func216 (by kernel_rfl) fun kind κ x h=>Eq.trans (by kernel_rfl) (aj h)
def CI {S:Type} (hd:dg S):Rw S:=ag Hq xn fun t vars dims bound κ=>hd t vars dims bound (av κ)
def d3 {S:Type} (hd:dg S) (k:Nat):Fx S:=fp 187 [(97,KU k),(130,CI hd),(210,KV k),(211,KW k),(212,gZ k),(213,su k),(214,K3 k),(215,xt k),(216,xu k)] [(1000003,aI [1,2,3,4] [(4,6)],ao 2 3),(1000008,aI [1,2,3,4] [(4,6)],ao 3 7),(1000010,aI [1,2,3,4] [(4,6)],ao 4 15),(1000021,aI [1,2,3,4] [(4,6)],ao 5 31),(24,aI [1,2,3,4,9] [(4,6)],ao 9 191),(32,aI [1,2,3,4,12] [(4,6)],ao 10 383),(38,aI [1,2,3,4,12,13,14] [(4,6),(13,2)],ao 18 117119)] k Tryz.f130 0
def ID (t:Tm) (vars dims:Int) (bound:Bool):St UU:=⟨[(1,(iI vars)),(2,(iI dims)),(3,(.bool bound)),(4,(pt 4))],[(4,bT t)],[],[]⟩
def IE (t:Tm) (vars dims:Int) (bound:Bool):St UU:=⟨[(1,(iI vars)),(2,(iI dims)),(3,(.bool bound)),(4,(pt 4))],[(4,bT t)],[],[]⟩
def IF (t:Tm) (vars dims:Int) (bound:Bool):St UU:=⟨[(1,(iI vars)),(2,(iI dims)),(3,(.bool bound)),(4,(pt 4))],[(4,bT t)],[],[]⟩
def IG (t:Tm) (vars dims:Int) (bound:Bool):St UU:=⟨[(1,(iI vars)),(2,(iI dims)),(3,(.bool bound)),(4,(pt 4))],[(4,bT t)],[],[]⟩
def B0 (t:Tm) (vars dims:Int) (bound:Bool) (i9:Int):St UU:=⟨[(1,(iI vars)),(2,(iI dims)),(3,(.bool bound)),(4,(pt 4)),(9,(iI i9))],[(4,bT t)],[],[]⟩
def rN (t:Tm) (vars dims:Int) (bound:Bool) (i12:Int):St UU:=⟨[(1,(iI vars)),(2,(iI dims)),(3,(.bool bound)),(4,(pt 4)),(12,(iI i12))],[(4,bT t)],[],[]⟩
def IH (x11:(Br Tm)) (t:Tm) (vars i12 dims:Int) (bound:Bool) (v14:Int):St UU:=⟨[(1,(iI vars)),(2,(iI dims)),(3,(.bool bound)),(4,(pt 4)),(12,(iI i12)),(13,(pt 13)),(14,(iI v14))],[(4,bT t),(13,bB x11)],[],[]⟩
section
variable {S:Type} (hd:dg S) (k:Nat) (t:Tm) (vars dims:Int) (bound:Bool) (κ:Out UU→Option S)
theorem TK (x11 i12 κ5): ∀n v14,(d3 hd k).lp κ 38 [κ5] n (IH x11 t vars i12 dims bound v14)=j8 hd k (av κ) (fun i12=>κ5 (rN t vars dims bound i12)) x11 t vars i12 dims bound n v14:=ca (uc hd k (av κ) x11 t vars i12 dims bound (fun i12=>κ5 (rN t vars dims bound i12))) rfl (fun _=>rfl) fun r v14=>by kernel_rfl
theorem TJ: ∀n i12,(d3 hd k).lp κ 32 [] n (rN t vars dims bound i12)=fY hd k (av κ) t vars dims bound n i12:=ca (fun own=>pF hd k (av κ) t vars dims bound (fun x11 i12 v14=>j8 hd k (av κ) own x11 t vars i12 dims bound k v14) own) rfl (fun _=>rfl) fun r i12=>Eq.trans (b:=pF hd k (av κ) t vars dims bound (fun x11 i12 v14=>(d3 hd k).lp κ 38 [r] k (IH x11 t vars i12 dims bound v14)) (fun i12=>r (rN t vars dims bound i12)) i12) (by kernel_rfl) (by simp only [TK])
theorem TI: ∀n i9,(d3 hd k).lp κ 24 [] n (B0 t vars dims bound i9)=iX hd k (av κ) t vars dims bound n i9:=ca (fun own=>pD hd k (av κ) t vars dims bound (fun i12=>fY hd k (av κ) t vars dims bound k i12) own) rfl (fun _=>rfl) fun r i9=>Eq.trans (b:=pD hd k (av κ) t vars dims bound (fun i12=>(d3 hd k).lp κ 32 [] k (rN t vars dims bound i12)) (fun i9=>r (B0 t vars dims bound i9)) i9) (by kernel_rfl) (by simp only [TJ])
theorem TH: ∀n,(d3 hd k).jn κ 1000021 [] n (IG t vars dims bound)=nU hd k (av κ) t vars dims bound n:=gO (ub hd k (av κ) t vars dims bound (fun i9=>iX hd k (av κ) t vars dims bound k i9)) rfl (fun _=>rfl) (Eq.trans (b:=ub hd k (av κ) t vars dims bound (fun i9=>(d3 hd k).lp κ 24 [] k (B0 t vars dims bound i9))) (by kernel_rfl) (by simp only [TI]))
theorem TG: ∀n,(d3 hd k).jn κ 1000010 [] n (IF t vars dims bound)=nT hd k (av κ) t vars dims bound n:=gO (pC hd k (av κ) t vars dims bound (nU hd k (av κ) t vars dims bound k)) rfl (fun _=>rfl) (Eq.trans (b:=pC hd k (av κ) t vars dims bound ((d3 hd k).jn κ 1000021 [] k (IG t vars dims bound))) (by kernel_rfl) (by simp only [TH]))
theorem TF: ∀n,(d3 hd k).jn κ 1000008 [] n (IE t vars dims bound)=rk hd k (av κ) t vars dims bound n:=gO (pB hd k (av κ) t vars dims bound (nT hd k (av κ) t vars dims bound k)) rfl (fun _=>rfl) (Eq.trans (b:=pB hd k (av κ) t vars dims bound ((d3 hd k).jn κ 1000010 [] k (IF t vars dims bound))) (by kernel_rfl) (by simp only [TG]))
theorem TE: ∀n,(d3 hd k).jn κ 1000003 [] n (ID t vars dims bound)=wB hd k (av κ) t vars dims bound n:=gO (ua hd k (av κ) t vars dims bound (rk hd k (av κ) t vars dims bound k)) rfl (fun _=>rfl) (Eq.trans (b:=ua hd k (av κ) t vars dims bound ((d3 hd k).jn κ 1000008 [] k (IE t vars dims bound))) (by kernel_rfl) (by simp only [TF]))
end
theorem Ha {S:Type} (o:Obj) (ho:af o): ∀k:Nat,Tl o 130 (CI (cq k:dg S))
 |0=>dv fun t vars dims bound κ x h=>by cases h
 |k+1=>ah (d3 (cq k) k) ⟨WB o ho k,Ha o ho k,WC o ho k,WD o ho k,iG o ho k,vN o ho k,WI o ho k,AH o ho k,AI o ho k,trivial⟩ Tryz.func130 (by kernel_rfl) fun t vars dims bound κ x h=>Eq.trans (b:=Et (cq k) k (av κ) ((d3 (cq k) k).jn κ 1000003 [] k (ID t vars dims bound)) t vars dims bound) (by kernel_rfl) (Eq.trans (by simp only [TE];rfl) h)
def xv {S:Type} (k:Nat):Rw S:=ag dp xn fun t κ=>aa k (mU k t) (aA κ)
def Q4 {S:Type} (k:Nat):Fx S:=fp 14 [(129,KT k),(130,CI (cq k))] [] k Tryz.f69 0
theorem AJ {S:Type} (o:Obj) (ho:af o) (k:Nat):Tl o 69 (xv k:Rw S):=ah (Q4 k) ⟨WA o ho k,Ha o ho k,trivial⟩ Tryz.func69 (by kernel_rfl) fun t κ x h=>Eq.trans (by kernel_rfl) (aj h)
section
variable {S:Type} (k:Nat) (kind:Int) (l:List (Br Tm)) (κ:Out UU→Option S)
end
section
variable {S:Type} (k:Nat) (l:List Tm) (κ:Out UU→Option S)
end
def oB {S:Type} (k:Nat):Rw S:=ag eS xn fun a_e κ=>aa k (ei k a_e) (ac6 κ)
def Q6 {S:Type} (k:Nat):Fx S:=fx 6 (fun _=>[]) (fun _=>false) [] [] k Tryz.f139 true [] 0
theorem qQ {S:Type} (o:Obj) (ho:af o) (k:Nat):Tl o 139 (oB k:Rw S):=ah (Q6 k) trivial Tryz.func139 (by kernel_rfl) fun a_e κ x h=>Eq.trans (by kernel_rfl) (aj h)
def K5 {S:Type} (k:Nat):Rw S:=ag Ht xn fun s a_from a_by κ=>aa k (jF k s a_from a_by) (si κ)
def yT {S:Type} (k:Nat):Fx S:=fp 48 [(296,ma k),(351,l_ k)] [(5,⟨[(1,.none),(2,.none),(8,some (100008,true)),(9,.none)],[]⟩,ao 6 23)] k Tryz.f315 0
def II (a_from a_by:Int) (l8:List Int) (v9:Int):St UU:=⟨[(1,(iI a_from)),(2,(iI a_by)),(8,(.own 100008 0)),(9,(iI v9))],[],[(100008,⟨0,ET.I,l8⟩)],[(100008,.wr)]⟩
section
variable {S:Type} (k:Nat) (s a_from a_by:Int) (κ:Out UU→Option S)
theorem TL: ∀n l8 v9,(yT k).lp κ 5 [] n (II a_from a_by l8 v9)=ly k (si κ) a_from a_by n l8 v9:=aE (tM k (si κ) a_from a_by) rfl (fun _=>rfl) fun r l8 v9=>by kernel_rfl
end
theorem WK {S:Type} (o:Obj) (ho:af o) (k:Nat):Tl o 315 (K5 k:Rw S):=ah (yT k) ⟨m9 o ho k,m8 o ho k,trivial⟩ Tryz.func315 (by kernel_rfl) fun s a_from a_by κ x h=>Eq.trans (b:=sZ k (si κ) (fun l8 v9=>(yT k).lp κ 5 [] k (II a_from a_by l8 v9)) s a_from a_by) (by kernel_rfl) (Eq.trans (by simp only [TL];rfl) (aj h))
def K6 {S:Type} (k:Nat):Rw S:=ag Hu xn fun c a_from a_by κ=>aa k (vk k c a_from a_by) (JZ κ)
def Q7 {S:Type} (k:Nat):Fx S:=fp 42 [(314,CF k),(315,K5 k)] [] k Tryz.f238 0
theorem WL {S:Type} (o:Obj) (ho:af o) (k:Nat):Tl o 238 (K6 k:Rw S):=ah (Q7 k) ⟨Gp o ho k,WK o ho k,trivial⟩ Tryz.func238 (by kernel_rfl) fun c a_from a_by κ x h=>Eq.trans (by kernel_rfl) (aj h)
end
end Go.Proofs.YtehekgbehghgdaaGreatDoor
namespace Go.Proofs.YtehekgbehghgdaaGreatDoor
open Go PI
set_option linter.unusedVariables false
set_option maxRecDepth 100000
noncomputable section
def sx {S:Type} (k:Nat):Rw S:=ag Bh xn fun f a_from a_by κ=>aa k (jG k f a_from a_by) (au κ)
def yU {S:Type} (k:Nat):Fx S:=fp 42 [(212,gZ k),(238,K6 k),(239,ko k)] [(5,⟨[(0,.none),(1,.none),(2,.none),(8,some (100008,true)),(9,.none)],[]⟩,ao 6 23)] k Tryz.f154 0
def IJ (f:List Cl) (a_from a_by:Int) (out8:List Cl) (i9:Int):St UU:=⟨[(0,(sC f)),(1,(iI a_from)),(2,(iI a_by)),(8,(.own 100008 0)),(9,(iI i9))],[],[(100008,⟨0,ET.C,out8⟩)],[(100008,.wr)]⟩
section
variable {S:Type} (k:Nat) (f:List Cl) (a_from a_by:Int) (κ:Out UU→Option S)
theorem TM: ∀n out8 i9,(yU k).lp κ 5 [] n (IJ f a_from a_by out8 i9)=nN k (au κ) f a_from a_by n out8 i9:=aE (tW k (au κ) f a_from a_by) rfl (fun _=>rfl) fun r out8 i9=>by kernel_rfl
end
theorem vO {S:Type} (o:Obj) (ho:af o) (k:Nat):Tl o 154 (sx k:Rw S):=ah (yU k) ⟨iG o ho k,WL o ho k,ld o ho k,trivial⟩ Tryz.func154 (by kernel_rfl) fun f a_from a_by κ x h=>Eq.trans (b:=Eh k (au κ) (fun out8 i9=>(yU k).lp κ 5 [] k (IJ f a_from a_by out8 i9)) f a_from a_by) (by kernel_rfl) (Eq.trans (by simp only [TM];rfl) (aj h))
def K7 {S:Type} (k:Nat):Rw S:=ag Bh xn fun f a_from a_by κ=>aa k (qD k f a_from a_by) (au κ)
def Q8 {S:Type} (k:Nat):Fx S:=fp 17 [(154,sx k)] [] k Tryz.f298 0
theorem WM {S:Type} (o:Obj) (ho:af o) (k:Nat):Tl o 298 (K7 k:Rw S):=ah (Q8 k) ⟨vO o ho k,trivial⟩ Tryz.func298 (by kernel_rfl) fun f a_from a_by κ x h=>Eq.trans (by kernel_rfl) (aj h)
def CJ {S:Type} (hd:eM S):Rw S:=ag ZA xn fun t v vby d dby κ=>hd t v vby d dby (aQ κ)
def ig {S:Type} (hd:eM S) (k:Nat):Fx S:=fp 174 [(139,oB k),(215,xt k),(216,xu k),(217,CJ hd),(298,K7 k)] [(1000006,⟨[(1,.none),(2,.none),(3,.none),(4,.none),(5,.none),(10,.none),(11,.none)],[(5,[.none,.none,.none,.none,.none,.none]),(10,[.none,.none,.none,some (200643,true),some (200644,true),some (200645,true)]),(11,[.none,.none,.none,some (200707,true),some (200708,true),some (200709,true)])]⟩,ao 3 7),(11,⟨[(1,.none),(2,.none),(3,.none),(4,.none),(5,.none),(10,.none),(11,.none),(14,.none)],[(5,[.none,.none,.none,.none,.none,.none]),(10,[.none,.none,.none,some (200643,true),some (200644,true),some (200645,true)]),(11,[.none,.none,.none,.none,some (200708,true),some (200709,true)])]⟩,ao 9 191),(19,⟨[(1,.none),(2,.none),(3,.none),(4,.none),(5,.none),(10,.none),(11,.none),(18,.none)],[(5,[.none,.none,.none,.none,.none,.none]),(10,[.none,.none,.none,some (200643,true),some (200644,true),some (200645,true)]),(11,[.none,.none,.none,.none,some (200708,true),some (200709,true)])]⟩,ao 10 383),(26,⟨[(1,.none),(2,.none),(3,.none),(4,.none),(5,.none),(10,.none),(11,.none),(18,.none),(21,.none),(22,.none)],[(5,[.none,.none,.none,.none,.none,.none]),(10,[.none,.none,.none,some (200643,true),some (200644,true),some (200645,true)]),(11,[.none,.none,.none,.none,some (200708,true),some (200709,true)]),(21,[.none,some (201345,true)])]⟩,ao 20 379263)] k Tryz.f217 0
def IK (t:Tm) (v vby d dby:Int) (b11_1:Int):St UU:=⟨[(1,(iI v)),(2,(iI vby)),(3,(iI d)),(4,(iI dby)),(5,(pt 5)),(10,(pt 10)),(11,(pt 11))],[(5,bT t),(10,.cells [(iI 0),(iI 0),(.str ByteArray.empty),(.own 200643 0),(.own 200644 0),(.own 200645 0)]),(11,.cells [(iI t.kind),(iI b11_1),(.str t.name),(.own 200707 0),(.own 200708 0),(.own 200709 0)])],[(200709,⟨0,ET.B,([]:List (Br Tm))⟩),(200708,⟨0,ET.T,([]:List Tm)⟩),(200707,⟨0,ET.C,([]:List Cl)⟩),(200645,⟨0,ET.B,([]:List (Br Tm))⟩),(200644,⟨0,ET.T,([]:List Tm)⟩),(200643,⟨0,ET.C,([]:List Cl)⟩)],[(200709,.wr),(200708,.wr),(200707,.wr),(200645,.wr),(200644,.wr),(200643,.wr)]⟩
def B1 (t:Tm) (b11_1:Int) (r2:List Cl×Int) (v vby d dby:Int) (b11_4:List Tm) (i14:Int):St UU:=⟨[(1,(iI v)),(2,(iI vby)),(3,(iI d)),(4,(iI dby)),(5,(pt 5)),(10,(pt 10)),(11,(pt 11)),(14,(iI i14))],[(5,bT t),(10,.cells [(iI 0),(iI 0),(.str ByteArray.empty),(.own 200643 0),(.own 200644 0),(.own 200645 0)]),(11,.cells [(iI t.kind),(iI b11_1),(.str t.name),(sC r2.1),(.own 200708 0),(.own 200709 0)])],[(200709,⟨0,ET.B,([]:List (Br Tm))⟩),(200708,⟨0,ET.T,b11_4⟩),(200645,⟨0,ET.B,([]:List (Br Tm))⟩),(200644,⟨0,ET.T,([]:List Tm)⟩),(200643,⟨0,ET.C,([]:List Cl)⟩)],[(200709,.wr),(200708,.wr),(200645,.wr),(200644,.wr),(200643,.wr)]⟩
def rO (t:Tm) (b11_1:Int) (r2:List Cl×Int) (b11_4:List Tm) (v vby d dby:Int) (b11_5:List (Br Tm)) (i18:Int):St UU:=⟨[(1,(iI v)),(2,(iI vby)),(3,(iI d)),(4,(iI dby)),(5,(pt 5)),(10,(pt 10)),(11,(pt 11)),(18,(iI i18))],[(5,bT t),(10,.cells [(iI 0),(iI 0),(.str ByteArray.empty),(.own 200643 0),(.own 200644 0),(.own 200645 0)]),(11,.cells [(iI t.kind),(iI b11_1),(.str t.name),(sC r2.1),(.own 200708 0),(.own 200709 0)])],[(200709,⟨0,ET.B,b11_5⟩),(200708,⟨0,ET.T,b11_4⟩),(200645,⟨0,ET.B,([]:List (Br Tm))⟩),(200644,⟨0,ET.T,([]:List Tm)⟩),(200643,⟨0,ET.C,([]:List Cl)⟩)],[(200709,.wr),(200708,.wr),(200645,.wr),(200644,.wr),(200643,.wr)]⟩
def IL (t:Tm) (b11_1:Int) (r2:List Cl×Int) (b11_4:List Tm) (b11_5:List (Br Tm)) (r9:List Cl×Int) (v i18 vby d dby:Int) (b21_1:List Tm) (v22:Int):St UU:=⟨[(1,(iI v)),(2,(iI vby)),(3,(iI d)),(4,(iI dby)),(5,(pt 5)),(10,(pt 10)),(11,(pt 11)),(18,(iI i18)),(21,(pt 21)),(22,(iI v22))],[(5,bT t),(10,.cells [(iI 0),(iI 0),(.str ByteArray.empty),(.own 200643 0),(.own 200644 0),(.own 200645 0)]),(11,.cells [(iI t.kind),(iI b11_1),(.str t.name),(sC r2.1),(.own 200708 0),(.own 200709 0)]),(21,.cells [(sC r9.1),(.own 201345 0)])],[(201345,⟨0,ET.T,b21_1⟩),(200709,⟨0,ET.B,b11_5⟩),(200708,⟨0,ET.T,b11_4⟩),(200645,⟨0,ET.B,([]:List (Br Tm))⟩),(200644,⟨0,ET.T,([]:List Tm)⟩),(200643,⟨0,ET.C,([]:List Cl)⟩)],[(201345,.wr),(200709,.wr),(200708,.wr),(200645,.wr),(200644,.wr),(200643,.wr)]⟩
section
variable {S:Type} (hd:eM S) (k:Nat) (t:Tm) (v vby d dby:Int) (κ:Out UU→Option S)
theorem TQ (b11_1 r2 b11_4 b11_5 r9 i18 κ2): ∀n b21_1 v22,(ig hd k).lp κ 26 [κ2] n (IL t b11_1 r2 b11_4 b11_5 r9 v i18 vby d dby b21_1 v22)=gR hd k (aQ κ) (fun b11_5 i18=>κ2 (rO t b11_1 r2 b11_4 v vby d dby b11_5 i18)) t b11_1 r2 b11_4 b11_5 r9 v i18 vby d dby n b21_1 v22:=aE (ul hd k (aQ κ) t b11_1 r2 b11_4 b11_5 r9 v i18 vby d dby (fun b11_5 i18=>κ2 (rO t b11_1 r2 b11_4 v vby d dby b11_5 i18))) rfl (fun _=>rfl) fun r b21_1 v22=>by kernel_rfl
theorem TP (b11_1 r2 b11_4): ∀n b11_5 i18,(ig hd k).lp κ 19 [] n (rO t b11_1 r2 b11_4 v vby d dby b11_5 i18)=d9 hd k (aQ κ) t b11_1 r2 b11_4 v vby d dby n b11_5 i18:=aE (fun own=>pR hd k (aQ κ) t b11_1 r2 b11_4 v vby d dby (fun b11_5 r9 i18 b21_1 v22=>gR hd k (aQ κ) own t b11_1 r2 b11_4 b11_5 r9 v i18 vby d dby k b21_1 v22) own) rfl (fun _=>rfl) fun r b11_5 i18=>Eq.trans (b:=pR hd k (aQ κ) t b11_1 r2 b11_4 v vby d dby (fun b11_5 r9 i18 b21_1 v22=>(ig hd k).lp κ 26 [r] k (IL t b11_1 r2 b11_4 b11_5 r9 v i18 vby d dby b21_1 v22)) (fun b11_5 i18=>r (rO t b11_1 r2 b11_4 v vby d dby b11_5 i18)) b11_5 i18) (by kernel_rfl) (by simp only [TQ])
theorem TO (b11_1 r2): ∀n b11_4 i14,(ig hd k).lp κ 11 [] n (B1 t b11_1 r2 v vby d dby b11_4 i14)=fZ hd k (aQ κ) t b11_1 r2 v vby d dby n b11_4 i14:=aE (fun own=>pQ hd k (aQ κ) t b11_1 r2 v vby d dby (fun b11_4 b11_5 i18=>d9 hd k (aQ κ) t b11_1 r2 b11_4 v vby d dby k b11_5 i18) own) rfl (fun _=>rfl) fun r b11_4 i14=>Eq.trans (b:=pQ hd k (aQ κ) t b11_1 r2 v vby d dby (fun b11_4 b11_5 i18=>(ig hd k).lp κ 19 [] k (rO t b11_1 r2 b11_4 v vby d dby b11_5 i18)) (fun b11_4 i14=>r (B1 t b11_1 r2 v vby d dby b11_4 i14)) b11_4 i14) (by kernel_rfl) (by simp only [TP])
theorem TN: ∀n b11_1,(ig hd k).jn κ 1000006 [] n (IK t v vby d dby b11_1)=wE hd k (aQ κ) t v vby d dby n b11_1:=Ba (pP hd k (aQ κ) t v vby d dby (fun b11_1 r2 b11_4 i14=>fZ hd k (aQ κ) t b11_1 r2 v vby d dby k b11_4 i14)) rfl (fun _=>rfl) (fun b11_1=>Eq.trans (b:=pP hd k (aQ κ) t v vby d dby (fun b11_1 r2 b11_4 i14=>(ig hd k).lp κ 11 [] k (B1 t b11_1 r2 v vby d dby b11_4 i14)) b11_1) (by kernel_rfl) (by simp only [TO]))
end
theorem Hb {S:Type} (o:Obj) (ho:af o): ∀k:Nat,Tl o 217 (CJ (dm k:eM S))
 |0=>dv fun t v vby d dby κ x h=>by cases h
 |k+1=>ah (ig (dm k) k) ⟨qQ o ho k,AH o ho k,AI o ho k,Hb o ho k,WM o ho k,trivial⟩ Tryz.func217 (by kernel_rfl) fun t v vby d dby κ x h=>Eq.trans (b:=ED (dm k) k (aQ κ) (fun b11_1=>(ig (dm k) k).jn κ 1000006 [] k (IK t v vby d dby b11_1)) t v vby d dby) (by kernel_rfl) (Eq.trans (by simp only [TN];rfl) h)
def CK {S:Type} (k:Nat):Rw S:=ag ws xn fun kind kids κ=>aa k (qH k kind kids) (aQ κ)
def yV {S:Type} (k:Nat):Fx S:=fp 25 [] [(2,⟨[(0,.none),(1,.none),(4,.none),(5,.none)],[(4,[.none,.none,.none,some (200259,true),some (200260,true),some (200261,true)])]⟩,ao 4 5)] k Tryz.f147 0
def IM (kind:Int) (kids:List Tm) (i5:Int):St UU:=⟨[(0,(iI kind)),(1,(sT kids)),(4,(pt 4)),(5,(iI i5))],[(4,.cells [(iI 0),(iI 0),(.str ByteArray.empty),(.own 200259 0),(.own 200260 0),(.own 200261 0)])],[(200261,⟨0,ET.B,([]:List (Br Tm))⟩),(200260,⟨0,ET.T,([]:List Tm)⟩),(200259,⟨0,ET.C,([]:List Cl)⟩)],[(200261,.wr),(200260,.wr),(200259,.wr)]⟩
section
variable {S:Type} (k:Nat) (kind:Int) (kids:List Tm) (κ:Out UU→Option S)
theorem TR: ∀n i5,(yV k).lp κ 2 [] n (IM kind kids i5)=n1 k (aQ κ) kind kids n i5:=ca (up k (aQ κ) kind kids) rfl (fun _=>rfl) fun r i5=>by kernel_rfl
end
theorem Gs {S:Type} (o:Obj) (ho:af o) (k:Nat):Tl o 147 (CK k:Rw S):=ah (yV k) trivial Tryz.func147 (by kernel_rfl) fun kind kids κ x h=>Eq.trans (b:=yh k (aQ κ) (fun i5=>(yV k).lp κ 2 [] k (IM kind kids i5)) kind kids) (by kernel_rfl) (Eq.trans (by simp only [TR];rfl) (aj h))
def CL {S:Type} (k:Nat):Rw S:=ag YS xn fun kind a b κ=>aa k (la k kind a b) (aQ κ)
def Q9 {S:Type} (k:Nat):Fx S:=fp 12 [(147,CK k)] [] k Tryz.f133 0
theorem Gt {S:Type} (o:Obj) (ho:af o) (k:Nat):Tl o 133 (CL k:Rw S):=ah (Q9 k) ⟨Gs o ho k,trivial⟩ Tryz.func133 (by kernel_rfl) fun kind a b κ x h=>Eq.trans (by kernel_rfl) (aj h)
def K9 {S:Type} (k:Nat):Rw S:=ag nn xn fun t a b κ=>aa k (An k t a b) (aA κ)
def Ra {S:Type} (k:Nat):Fx S:=fp 21 [(69,xv k)] [] k Tryz.f271 0
theorem WO {S:Type} (o:Obj) (ho:af o) (k:Nat):Tl o 271 (K9 k:Rw S):=ah (Ra k) ⟨AJ o ho k,trivial⟩ Tryz.func271 (by kernel_rfl) fun t a b κ x h=>Eq.trans (by kernel_rfl) (aj h)
def K_ {S:Type} (k:Nat):Rw S:=ag dp xn fun t κ=>aa k (vw k t) (dY κ)
def Rc {S:Type} (k:Nat):Fx S:=fp 12 [] [] k Tryz.f272 0
theorem WP {S:Type} (o:Obj) (ho:af o) (k:Nat):Tl o 272 (K_ k:Rw S):=ah (Rc k) trivial Tryz.func272 (by kernel_rfl) fun t κ x h=>Eq.trans (by kernel_rfl) (aj h)
def La {S:Type} (k:Nat):Rw S:=ag nn xn fun t a_from a_by κ=>aa k (vv k t a_from a_by) (dY κ)
def Rd {S:Type} (k:Nat):Fx S:=fp 26 [(217,CJ (dm k)),(271,K9 k),(272,K_ k)] [] k Tryz.f178 0
theorem WQ {S:Type} (o:Obj) (ho:af o) (k:Nat):Tl o 178 (La k:Rw S):=ah (Rd k) ⟨Hb o ho k,WO o ho k,WP o ho k,trivial⟩ Tryz.func178 (by kernel_rfl) fun t a_from a_by κ x h=>Eq.trans (by kernel_rfl) (aj h)
def sz {S:Type} (k:Nat):Rw S:=ag jR xn fun s i κ=>aa k (fg k s i) (bG κ)
def yW {S:Type} (k:Nat):Fx S:=fp 31 [(296,ma k),(351,l_ k)] [(4,⟨[(1,.none),(5,some (100005,true)),(6,some (100006,true)),(7,.none)],[]⟩,ao 6 23)] k Tryz.f388 0
def IN (i:Int) (r1:List Int) (out6:List Int) (v7:Int):St UU:=⟨[(1,(iI i)),(5,(.own 100005 0)),(6,(.own 100006 0)),(7,(iI v7))],[],[(100006,⟨0,ET.I,out6⟩),(100005,⟨0,ET.I,r1⟩)],[(100006,.wr),(100005,.wr)]⟩
section
variable {S:Type} (k:Nat) (s i:Int) (κ:Out UU→Option S)
theorem TS (r1): ∀n out6 v7,(yW k).lp κ 4 [] n (IN i r1 out6 v7)=nG k (bG κ) i r1 n out6 v7:=aE (tO k (bG κ) i r1) rfl (fun _=>rfl) fun r out6 v7=>by kernel_rfl
end
theorem vP {S:Type} (o:Obj) (ho:af o) (k:Nat):Tl o 388 (sz k:Rw S):=ah (yW k) ⟨m9 o ho k,m8 o ho k,trivial⟩ Tryz.func388 (by kernel_rfl) fun s i κ x h=>Eq.trans (b:=Ea k (bG κ) (fun r1 out6 v7=>(yW k).lp κ 4 [] k (IN i r1 out6 v7)) s i) (by kernel_rfl) (Eq.trans (by simp only [TS];rfl) (aj h))
def sA {S:Type} (k:Nat):Rw S:=ag dK xn fun l κ=>aa k (k_ k l) (au κ)
def yX {S:Type} (k:Nat):Fx S:=fp 29 [(239,ko k),(295,CH k)] [(3,⟨[(0,.none),(4,some (100004,true)),(5,.none)],[]⟩,ao 5 11)] k Tryz.f403 0
def IP (l:List Cl) (out4:List Cl) (i5:Int):St UU:=⟨[(0,(sC l)),(4,(.own 100004 0)),(5,(iI i5))],[],[(100004,⟨0,ET.C,out4⟩)],[(100004,.wr)]⟩
section
variable {S:Type} (k:Nat) (l:List Cl) (κ:Out UU→Option S)
theorem TT: ∀n out4 i5,(yX k).lp κ 3 [] n (IP l out4 i5)=nS k (au κ) l n out4 i5:=aE (t_ k (au κ) l) rfl (fun _=>rfl) fun r out4 i5=>by kernel_rfl
end
theorem vQ {S:Type} (o:Obj) (ho:af o) (k:Nat):Tl o 403 (sA k:Rw S):=ah (yX k) ⟨ld o ho k,Gr o ho k,trivial⟩ Tryz.func403 (by kernel_rfl) fun l κ x h=>Eq.trans (b:=Es k (au κ) (fun out4 i5=>(yX k).lp κ 3 [] k (IP l out4 i5)) l) (by kernel_rfl) (Eq.trans (by simp only [TT];rfl) (aj h))
def Lb {S:Type} (k:Nat):Rw S:=ag dK xn fun f κ=>aa k (vq k f) (au κ)
def Re {S:Type} (k:Nat):Fx S:=fp 11 [(212,gZ k),(403,sA k)] [] k Tryz.f389 0
theorem WR {S:Type} (o:Obj) (ho:af o) (k:Nat):Tl o 389 (Lb k:Rw S):=ah (Re k) ⟨iG o ho k,vQ o ho k,trivial⟩ Tryz.func389 (by kernel_rfl) fun f κ x h=>Eq.trans (by kernel_rfl) (aj h)
def Lc {S:Type} (k:Nat):Rw S:=ag lm xn fun c κ=>aa k (vo k c) (eF κ)
def yY {S:Type} (k:Nat):Fx S:=fp 37 [(239,ko k),(350,kq k),(351,l_ k)] [(3,⟨[(1,.none),(3,some (100003,true)),(4,.none)],[(1,[.none,.none])]⟩,ao 5 11)] k Tryz.f405 0
def IQ (c:Cl) (out3:List Cl) (i4:Int):St UU:=⟨[(1,(pt 1)),(3,(.own 100003 0)),(4,(iI i4))],[(1,bC c)],[(100003,⟨0,ET.C,out3⟩)],[(100003,.wr)]⟩
section
variable {S:Type} (k:Nat) (c:Cl) (κ:Out UU→Option S)
theorem TU: ∀n out3 i4,(yY k).lp κ 3 [] n (IQ c out3 i4)=nQ k (eF κ) c n out3 i4:=aE (tZ k (eF κ) c) rfl (fun _=>rfl) fun r out3 i4=>by kernel_rfl
end
theorem WS {S:Type} (o:Obj) (ho:af o) (k:Nat):Tl o 405 (Lc k:Rw S):=ah (yY k) ⟨ld o ho k,lf o ho k,m8 o ho k,trivial⟩ Tryz.func405 (by kernel_rfl) fun c κ x h=>Eq.trans (b:=Em k (eF κ) (fun out3 i4=>(yY k).lp κ 3 [] k (IQ c out3 i4)) c) (by kernel_rfl) (Eq.trans (by simp only [TU];rfl) (aj h))
def Ld {S:Type} (k:Nat):Rw S:=ag jR xn fun s i κ=>aa k (qr k s i) (bG κ)
def Rf {S:Type} (k:Nat):Fx S:=fp 21 [(296,ma k),(351,l_ k),(388,sz k)] [] k Tryz.f412 0
theorem WT {S:Type} (o:Obj) (ho:af o) (k:Nat):Tl o 412 (Ld k:Rw S):=ah (Rf k) ⟨m9 o ho k,m8 o ho k,vP o ho k,trivial⟩ Tryz.func412 (by kernel_rfl) fun s i κ x h=>Eq.trans (by kernel_rfl) (aj h)
def Le {S:Type} (k:Nat):Rw S:=ag YT xn fun a b κ=>aa k (qx k a b) (bG κ)
def yZ {S:Type} (k:Nat):Fx S:=fp 22 [(296,ma k),(412,Ld k)] [(3,⟨[(0,.none),(5,some (100005,true)),(6,.none)],[]⟩,ao 5 11)] k Tryz.f409 0
def IR (r1:List Int) (a0 i6:Int):St UU:=⟨[(0,(iU a0)),(5,(.own 100005 0)),(6,(iI i6))],[],[(100005,⟨0,ET.I,r1⟩)],[(100005,.wr)]⟩
section
variable {S:Type} (k:Nat) (a b:Int) (κ:Out UU→Option S)
theorem TV (r1): ∀n a0 i6,(yZ k).lp κ 3 [] n (IR r1 a0 i6)=nM k (bG κ) r1 n a0 i6:=aE (tU k (bG κ) r1) rfl (fun _=>rfl) fun r a0 i6=>by kernel_rfl
end
theorem WU {S:Type} (o:Obj) (ho:af o) (k:Nat):Tl o 409 (Le k:Rw S):=ah (yZ k) ⟨m9 o ho k,WT o ho k,trivial⟩ Tryz.func409 (by kernel_rfl) fun a b κ x h=>Eq.trans (b:=Ef k (bG κ) (fun r1 a0 i6=>(yZ k).lp κ 3 [] k (IR r1 a0 i6)) a b) (by kernel_rfl) (Eq.trans (by simp only [TV];rfl) (aj h))
def CM {S:Type} (k:Nat):Rw S:=ag rf xn fun a b κ=>aa k (qv k a b) (J9 κ)
def Rg {S:Type} (k:Nat):Fx S:=fp 16 [(409,Le k)] [] k Tryz.f404 0
theorem Gu {S:Type} (o:Obj) (ho:af o) (k:Nat):Tl o 404 (CM k:Rw S):=ah (Rg k) ⟨WU o ho k,trivial⟩ Tryz.func404 (by kernel_rfl) fun a b κ x h=>Eq.trans (by kernel_rfl) (aj h)
def CN {S:Type} (k:Nat):Rw S:=ag gP xn fun f g κ=>aa k (iC k f g) (au κ)
def o8 {S:Type} (k:Nat):Fx S:=fp 45 [(212,gZ k),(239,ko k),(404,CM k)] [(5,⟨[(0,.none),(1,.none),(6,some (100006,true)),(7,.none)],[]⟩,ao 6 23),(8,⟨[(0,.none),(1,.none),(6,some (100006,true)),(7,.none),(8,.none)],[]⟩,ao 12 1175)] k Tryz.f393 0
def rP (f g:List Cl) (out6:List Cl) (i7:Int):St UU:=⟨[(0,(sC f)),(1,(sC g)),(6,(.own 100006 0)),(7,(iI i7))],[],[(100006,⟨0,ET.C,out6⟩)],[(100006,.wr)]⟩
def IS (f g:List Cl) (i7:Int) (out6':List Cl) (v8:Int):St UU:=⟨[(0,(sC f)),(1,(sC g)),(6,(.own 100006 0)),(7,(iI i7)),(8,(iI v8))],[],[(100006,⟨0,ET.C,out6'⟩)],[(100006,.wr)]⟩
section
variable {S:Type} (k:Nat) (f g:List Cl) (κ:Out UU→Option S)
theorem TX (i7 κ0): ∀n out6' v8,(o8 k).lp κ 8 [κ0] n (IS f g i7 out6' v8)=lD k (au κ) (fun out6 i7=>κ0 (rP f g out6 i7)) f g i7 n out6' v8:=aE (tX k (au κ) f g i7 (fun out6 i7=>κ0 (rP f g out6 i7))) rfl (fun _=>rfl) fun r out6' v8=>by kernel_rfl
theorem TW: ∀n out6 i7,(o8 k).lp κ 5 [] n (rP f g out6 i7)=j5 k (au κ) f g n out6 i7:=aE (fun own=>py k (au κ) f g (fun i7 out6' v8=>lD k (au κ) own f g i7 k out6' v8) own) rfl (fun _=>rfl) fun r out6 i7=>Eq.trans (b:=py k (au κ) f g (fun i7 out6' v8=>(o8 k).lp κ 8 [r] k (IS f g i7 out6' v8)) (fun out6 i7=>r (rP f g out6 i7)) out6 i7) (by kernel_rfl) (by simp only [TX])
end
theorem Gv {S:Type} (o:Obj) (ho:af o) (k:Nat):Tl o 393 (CN k:Rw S):=ah (o8 k) ⟨iG o ho k,ld o ho k,Gu o ho k,trivial⟩ Tryz.func393 (by kernel_rfl) fun f g κ x h=>Eq.trans (b:=Ei k (au κ) (fun out6 i7=>(o8 k).lp κ 5 [] k (rP f g out6 i7)) f g) (by kernel_rfl) (Eq.trans (by simp only [TW];rfl) (aj h))
def CO {S:Type} (k:Nat):Rw S:=ag dK xn fun f κ=>aa k (mS k f) (au κ)
def y7 {S:Type} (k:Nat):Fx S:=fp 34 [(212,gZ k),(393,CN k),(405,Lc k)] [(6,aI [0,4,5,6] [],ao 7 47)] k Tryz.f394 0
def IT (f:List Cl) (v4:List Cl) (v5 i6:Int):St UU:=⟨[(0,(sC f)),(4,(sC v4)),(5,(iI v5)),(6,(iI i6))],[],[],[]⟩
section
variable {S:Type} (k:Nat) (f:List Cl) (κ:Out UU→Option S)
theorem TY: ∀n v4 v5 i6,(y7 k).lp κ 6 [] n (IT f v4 v5 i6)=nO k (au κ) f n v4 v5 i6:=d_ (tY k (au κ) f) rfl (fun _=>rfl) fun r v4 v5 i6=>by kernel_rfl
end
theorem Gw {S:Type} (o:Obj) (ho:af o) (k:Nat):Tl o 394 (CO k:Rw S):=ah (y7 k) ⟨iG o ho k,Gv o ho k,WS o ho k,trivial⟩ Tryz.func394 (by kernel_rfl) fun f κ x h=>Eq.trans (b:=Ej k (au κ) (fun v4 v5 i6=>(y7 k).lp κ 6 [] k (IT f v4 v5 i6)) f) (by kernel_rfl) (Eq.trans (by simp only [TY];rfl) (aj h))
def Lh {S:Type} (k:Nat):Rw S:=ag dK xn fun f κ=>aa k (qz k f) (au κ)
def Ri {S:Type} (k:Nat):Fx S:=fp 18 [(394,CO k),(403,sA k)] [] k Tryz.f390 0
theorem WX {S:Type} (o:Obj) (ho:af o) (k:Nat):Tl o 390 (Lh k:Rw S):=ah (Ri k) ⟨Gw o ho k,vQ o ho k,trivial⟩ Tryz.func390 (by kernel_rfl) fun f κ x h=>Eq.trans (by kernel_rfl) (aj h)
def Li {S:Type} (k:Nat):Rw S:=ag gP xn fun f g κ=>aa k (jH k f g) (au κ)
def o9 {S:Type} (k:Nat):Fx S:=fp 45 [(213,su k),(403,sA k),(404,CM k)] [(5,⟨[(0,.none),(1,.none),(6,some (100006,true)),(7,.none)],[]⟩,ao 6 23),(8,⟨[(0,.none),(1,.none),(6,some (100006,true)),(7,.none),(8,.none)],[]⟩,ao 12 1175)] k Tryz.f391 0
def rQ (f g:List Cl) (out6:List Cl) (i7:Int):St UU:=⟨[(0,(sC f)),(1,(sC g)),(6,(.own 100006 0)),(7,(iI i7))],[],[(100006,⟨0,ET.C,out6⟩)],[(100006,.wr)]⟩
def IU (f g:List Cl) (i7:Int) (out6':List Cl) (v8:Int):St UU:=⟨[(0,(sC f)),(1,(sC g)),(6,(.own 100006 0)),(7,(iI i7)),(8,(iI v8))],[],[(100006,⟨0,ET.C,out6'⟩)],[(100006,.wr)]⟩
section
variable {S:Type} (k:Nat) (f g:List Cl) (κ:Out UU→Option S)
theorem T0 (i7 κ0): ∀n out6' v8,(o9 k).lp κ 8 [κ0] n (IU f g i7 out6' v8)=lE k (au κ) (fun out6 i7=>κ0 (rQ f g out6 i7)) f g i7 n out6' v8:=aE (t6 k (au κ) f g i7 (fun out6 i7=>κ0 (rQ f g out6 i7))) rfl (fun _=>rfl) fun r out6' v8=>by kernel_rfl
theorem TZ: ∀n out6 i7,(o9 k).lp κ 5 [] n (rQ f g out6 i7)=j7 k (au κ) f g n out6 i7:=aE (fun own=>pA k (au κ) f g (fun i7 out6' v8=>lE k (au κ) own f g i7 k out6' v8) own) rfl (fun _=>rfl) fun r out6 i7=>Eq.trans (b:=pA k (au κ) f g (fun i7 out6' v8=>(o9 k).lp κ 8 [r] k (IU f g i7 out6' v8)) (fun out6 i7=>r (rQ f g out6 i7)) out6 i7) (by kernel_rfl) (by simp only [T0])
end
theorem WY {S:Type} (o:Obj) (ho:af o) (k:Nat):Tl o 391 (Li k:Rw S):=ah (o9 k) ⟨vN o ho k,vQ o ho k,Gu o ho k,trivial⟩ Tryz.func391 (by kernel_rfl) fun f g κ x h=>Eq.trans (b:=Eo k (au κ) (fun out6 i7=>(o9 k).lp κ 5 [] k (rQ f g out6 i7)) f g) (by kernel_rfl) (Eq.trans (by simp only [TZ];rfl) (aj h))
def Lj {S:Type} (k:Nat):Rw S:=ag gP xn fun f g κ=>aa k (fh k f g) (au κ)
def Rj {S:Type} (k:Nat):Fx S:=fp 22 [(213,su k),(403,sA k)] [] k Tryz.f392 0
theorem WZ {S:Type} (o:Obj) (ho:af o) (k:Nat):Tl o 392 (Lj k:Rw S):=ah (Rj k) ⟨vN o ho k,vQ o ho k,trivial⟩ Tryz.func392 (by kernel_rfl) fun f g κ x h=>Eq.trans (by kernel_rfl) (aj h)
def Lk {S:Type} (k:Nat):Rw S:=ag ww xn fun f i a_r κ=>aa k (vr k f i a_r) (au κ)
def y8 {S:Type} (k:Nat):Fx S:=fp 90 [(212,gZ k),(213,su k),(350,kq k),(388,sz k),(389,Lb k),(390,Lh k),(391,Li k),(392,Lj k)] [(5,aI [0,1,2,8,9] [],ao 6 23)] k Tryz.f359 0
def IV (f:List Cl) (i:Int) (a_r:List Cl) (v8:List Cl) (v9:Int):St UU:=⟨[(0,(sC f)),(1,(iI i)),(2,(sC a_r)),(8,(sC v8)),(9,(iI v9))],[],[],[]⟩
section
variable {S:Type} (k:Nat) (f:List Cl) (i:Int) (a_r:List Cl) (κ:Out UU→Option S)
theorem T1: ∀n v8 v9,(y8 k).lp κ 5 [] n (IV f i a_r v8 v9)=lG k (au κ) f i a_r n v8 v9:=aE (t7 k (au κ) f i a_r) rfl (fun _=>rfl) fun r v8 v9=>by kernel_rfl
end
theorem W4 {S:Type} (o:Obj) (ho:af o) (k:Nat):Tl o 359 (Lk k:Rw S):=ah (y8 k) ⟨iG o ho k,vN o ho k,lf o ho k,vP o ho k,WR o ho k,WX o ho k,WY o ho k,WZ o ho k,trivial⟩ Tryz.func359 (by kernel_rfl) fun f i a_r κ x h=>Eq.trans (b:=Ep k (au κ) (fun v8 v9=>(y8 k).lp κ 5 [] k (IV f i a_r v8 v9)) f i a_r) (by kernel_rfl) (Eq.trans (by simp only [T1];rfl) (aj h))
def Ll {S:Type} (k:Nat):Rw S:=ag gP xn fun f g κ=>aa k (vm k f g) (au κ)
def Rk {S:Type} (k:Nat):Fx S:=fp 22 [(212,gZ k),(239,ko k)] [] k Tryz.f395 0
theorem W5 {S:Type} (o:Obj) (ho:af o) (k:Nat):Tl o 395 (Ll k:Rw S):=ah (Rk k) ⟨iG o ho k,ld o ho k,trivial⟩ Tryz.func395 (by kernel_rfl) fun f g κ x h=>Eq.trans (by kernel_rfl) (aj h)
def Lm {S:Type} (k:Nat):Rw S:=ag ww xn fun f i a_r κ=>aa k (vn k f i a_r) (au κ)
def o_ {S:Type} (k:Nat):Fx S:=fp 93 [(212,gZ k),(350,kq k),(388,sz k),(393,CN k),(394,CO k),(395,Ll k)] [(5,aI [0,1,2,8,9] [],ao 6 23),(1000017,aI [0,1,2,8,9,11,12] [],ao 15 31895)] k Tryz.f360 0
def rR (f:List Cl) (i:Int) (a_r:List Cl) (v8:List Cl) (v9:Int):St UU:=⟨[(0,(sC f)),(1,(iI i)),(2,(sC a_r)),(8,(sC v8)),(9,(iI v9))],[],[],[]⟩
def IW (f:List Cl) (i:Int) (a_r v8:List Cl) (v9:Int) (g11:List Cl) (v12:Int):St UU:=⟨[(0,(sC f)),(1,(iI i)),(2,(sC a_r)),(8,(sC v8)),(9,(iI v9)),(11,(sC g11)),(12,(iI v12))],[],[],[]⟩
section
variable {S:Type} (k:Nat) (f:List Cl) (i:Int) (a_r:List Cl) (κ:Out UU→Option S)
theorem T3 (v8 v9 κ0): ∀n g11 v12,(o_ k).jn κ 1000017 [κ0] n (IW f i a_r v8 v9 g11 v12)=nP k (au κ) (fun v8 v9=>κ0 (rR f i a_r v8 v9)) f i a_r v8 v9 n g11 v12:=Hl (zE k (au κ) f i a_r v8 v9 (fun v8 v9=>κ0 (rR f i a_r v8 v9))) rfl (fun _=>rfl) (fun g11 v12=>by kernel_rfl)
theorem T2: ∀n v8 v9,(o_ k).lp κ 5 [] n (rR f i a_r v8 v9)=j6 k (au κ) f i a_r n v8 v9:=aE (fun own=>pz k (au κ) f i a_r (fun v8 v9 g11 v12=>nP k (au κ) own f i a_r v8 v9 k g11 v12) own) rfl (fun _=>rfl) fun r v8 v9=>Eq.trans (b:=pz k (au κ) f i a_r (fun v8 v9 g11 v12=>(o_ k).jn κ 1000017 [r] k (IW f i a_r v8 v9 g11 v12)) (fun v8 v9=>r (rR f i a_r v8 v9)) v8 v9) (by kernel_rfl) (by simp only [T3])
end
theorem W6 {S:Type} (o:Obj) (ho:af o) (k:Nat):Tl o 360 (Lm k:Rw S):=ah (o_ k) ⟨iG o ho k,lf o ho k,vP o ho k,Gv o ho k,Gw o ho k,W5 o ho k,trivial⟩ Tryz.func360 (by kernel_rfl) fun f i a_r κ x h=>Eq.trans (b:=Ek k (au κ) (fun v8 v9=>(o_ k).lp κ 5 [] k (rR f i a_r v8 v9)) f i a_r) (by kernel_rfl) (Eq.trans (by simp only [T2];rfl) (aj h))
def Ln {S:Type} (k:Nat):Rw S:=ag YU xn fun f isFace i a_r depth κ=>aa k (qF k f isFace i a_r depth) (au κ)
def Rl {S:Type} (k:Nat):Fx S:=fp 48 [(154,sx k),(297,CG k),(350,kq k),(359,Lk k),(360,Lm k)] [] k Tryz.f312 0
theorem W7 {S:Type} (o:Obj) (ho:af o) (k:Nat):Tl o 312 (Ln k:Rw S):=ah (Rl k) ⟨vO o ho k,Gq o ho k,lf o ho k,W4 o ho k,W6 o ho k,trivial⟩ Tryz.func312 (by kernel_rfl) fun f isFace i a_r depth κ x h=>Eq.trans (by kernel_rfl) (aj h)
def Lo {S:Type} (k:Nat):Rw S:=ag jR xn fun s i κ=>aa k (mP k s i) (bG κ)
def y9 {S:Type} (k:Nat):Fx S:=fp 35 [(296,ma k),(351,l_ k),(388,sz k)] [(3,⟨[(1,.none),(5,some (100005,true)),(6,.none)],[]⟩,ao 5 11)] k Tryz.f361 0
def IX (i:Int) (l5:List Int) (v6:Int):St UU:=⟨[(1,(iI i)),(5,(.own 100005 0)),(6,(iI v6))],[],[(100005,⟨0,ET.I,l5⟩)],[(100005,.wr)]⟩
section
variable {S:Type} (k:Nat) (s i:Int) (κ:Out UU→Option S)
theorem T4: ∀n l5 v6,(y9 k).lp κ 3 [] n (IX i l5 v6)=lx k (bG κ) i n l5 v6:=aE (tL k (bG κ) i) rfl (fun _=>rfl) fun r l5 v6=>by kernel_rfl
end
theorem W8 {S:Type} (o:Obj) (ho:af o) (k:Nat):Tl o 361 (Lo k:Rw S):=ah (y9 k) ⟨m9 o ho k,m8 o ho k,vP o ho k,trivial⟩ Tryz.func361 (by kernel_rfl) fun s i κ x h=>Eq.trans (b:=D8 k (bG κ) (fun l5 v6=>(y9 k).lp κ 3 [] k (IX i l5 v6)) s i) (by kernel_rfl) (Eq.trans (by simp only [T4];rfl) (aj h))
def Lq {S:Type} (k:Nat):Rw S:=ag Bf xn fun f i κ=>aa k (qE k f i) (eF κ)
def y_ {S:Type} (k:Nat):Fx S:=fp 37 [(239,ko k),(361,Lo k)] [(3,⟨[(0,.none),(1,.none),(5,some (100005,true)),(6,.none)],[]⟩,ao 5 11)] k Tryz.f313 0
def IZ (f:List Cl) (i:Int) (out5:List Cl) (v6:Int):St UU:=⟨[(0,(sC f)),(1,(iI i)),(5,(.own 100005 0)),(6,(iI v6))],[],[(100005,⟨0,ET.C,out5⟩)],[(100005,.wr)]⟩
section
variable {S:Type} (k:Nat) (f:List Cl) (i:Int) (κ:Out UU→Option S)
theorem T6: ∀n out5 v6,(y_ k).lp κ 3 [] n (IZ f i out5 v6)=nZ k (eF κ) f i n out5 v6:=aE (um k (eF κ) f i) rfl (fun _=>rfl) fun r out5 v6=>by kernel_rfl
end
theorem W_ {S:Type} (o:Obj) (ho:af o) (k:Nat):Tl o 313 (Lq k:Rw S):=ah (y_ k) ⟨ld o ho k,W8 o ho k,trivial⟩ Tryz.func313 (by kernel_rfl) fun f i κ x h=>Eq.trans (b:=EE k (eF κ) (fun out5 v6=>(y_ k).lp κ 3 [] k (IZ f i out5 v6)) f i) (by kernel_rfl) (Eq.trans (by simp only [T6];rfl) (aj h))
def CQ {S:Type} (hd:fM S):Rw S:=ag YV xn fun t i a_r depth drop κ=>hd t i a_r depth drop (aQ κ)
def kL {S:Type} (hd:fM S) (k:Nat):Fx S:=fp 174 [(139,oB k),(215,xt k),(216,xu k),(237,CQ hd),(312,Ln k),(313,Lq k)] [(9,⟨[(1,.none),(2,.none),(3,.none),(4,.none),(5,.none),(10,.none),(11,.none),(14,.none)],[(5,[.none,.none,.none,.none,.none,.none]),(10,[.none,.none,.none,some (200643,true),some (200644,true),some (200645,true)]),(11,[.none,.none,.none,.none,some (200708,true),some (200709,true)])]⟩,ao 9 191),(17,⟨[(1,.none),(2,.none),(3,.none),(4,.none),(5,.none),(10,.none),(11,.none),(18,.none)],[(5,[.none,.none,.none,.none,.none,.none]),(10,[.none,.none,.none,some (200643,true),some (200644,true),some (200645,true)]),(11,[.none,.none,.none,.none,some (200708,true),some (200709,true)])]⟩,ao 10 383),(27,⟨[(1,.none),(2,.none),(3,.none),(4,.none),(5,.none),(10,.none),(11,.none),(18,.none),(21,.none),(22,.none)],[(5,[.none,.none,.none,.none,.none,.none]),(10,[.none,.none,.none,some (200643,true),some (200644,true),some (200645,true)]),(11,[.none,.none,.none,.none,some (200708,true),some (200709,true)]),(21,[.none,some (201345,true)])]⟩,ao 22 1558911)] k Tryz.f237 0
def B2 (t:Tm) (i:Int) (a_r:List Cl) (depth:Int) (drop:Bool) (b11_3:List Cl) (b11_4:List Tm) (v14:Int):St UU:=⟨[(1,(iI i)),(2,(sC a_r)),(3,(iI depth)),(4,(.bool drop)),(5,(pt 5)),(10,(pt 10)),(11,(pt 11)),(14,(iI v14))],[(5,bT t),(10,.cells [(iI 0),(iI 0),(.str ByteArray.empty),(.own 200643 0),(.own 200644 0),(.own 200645 0)]),(11,.cells [(iI t.kind),(iI t.n),(.str t.name),(sC b11_3),(.own 200708 0),(.own 200709 0)])],[(200709,⟨0,ET.B,([]:List (Br Tm))⟩),(200708,⟨0,ET.T,b11_4⟩),(200645,⟨0,ET.B,([]:List (Br Tm))⟩),(200644,⟨0,ET.T,([]:List Tm)⟩),(200643,⟨0,ET.C,([]:List Cl)⟩)],[(200709,.wr),(200708,.wr),(200645,.wr),(200644,.wr),(200643,.wr)]⟩
def rS (t:Tm) (b11_3:List Cl) (b11_4:List Tm) (i:Int) (a_r:List Cl) (depth:Int) (drop:Bool) (b11_5:List (Br Tm)) (v18:Int):St UU:=⟨[(1,(iI i)),(2,(sC a_r)),(3,(iI depth)),(4,(.bool drop)),(5,(pt 5)),(10,(pt 10)),(11,(pt 11)),(18,(iI v18))],[(5,bT t),(10,.cells [(iI 0),(iI 0),(.str ByteArray.empty),(.own 200643 0),(.own 200644 0),(.own 200645 0)]),(11,.cells [(iI t.kind),(iI t.n),(.str t.name),(sC b11_3),(.own 200708 0),(.own 200709 0)])],[(200709,⟨0,ET.B,b11_5⟩),(200708,⟨0,ET.T,b11_4⟩),(200645,⟨0,ET.B,([]:List (Br Tm))⟩),(200644,⟨0,ET.T,([]:List Tm)⟩),(200643,⟨0,ET.C,([]:List Cl)⟩)],[(200709,.wr),(200708,.wr),(200645,.wr),(200644,.wr),(200643,.wr)]⟩
def I0 (t:Tm) (b11_3:List Cl) (b11_4:List Tm) (b11_5:List (Br Tm)) (i v18:Int) (a_r:List Cl) (depth:Int) (drop:Bool) (b21_0:List Cl) (b21_1:List Tm) (v22:Int):St UU:=⟨[(1,(iI i)),(2,(sC a_r)),(3,(iI depth)),(4,(.bool drop)),(5,(pt 5)),(10,(pt 10)),(11,(pt 11)),(18,(iI v18)),(21,(pt 21)),(22,(iI v22))],[(5,bT t),(10,.cells [(iI 0),(iI 0),(.str ByteArray.empty),(.own 200643 0),(.own 200644 0),(.own 200645 0)]),(11,.cells [(iI t.kind),(iI t.n),(.str t.name),(sC b11_3),(.own 200708 0),(.own 200709 0)]),(21,.cells [(sC b21_0),(.own 201345 0)])],[(201345,⟨0,ET.T,b21_1⟩),(200709,⟨0,ET.B,b11_5⟩),(200708,⟨0,ET.T,b11_4⟩),(200645,⟨0,ET.B,([]:List (Br Tm))⟩),(200644,⟨0,ET.T,([]:List Tm)⟩),(200643,⟨0,ET.C,([]:List Cl)⟩)],[(201345,.wr),(200709,.wr),(200708,.wr),(200645,.wr),(200644,.wr),(200643,.wr)]⟩
section
variable {S:Type} (hd:fM S) (k:Nat) (t:Tm) (i:Int) (a_r:List Cl) (depth:Int) (drop:Bool) (κ:Out UU→Option S)
theorem T9 (b11_3 b11_4 b11_5 v18 κ1): ∀n b21_0 b21_1 v22,(kL hd k).lp κ 27 [κ1] n (I0 t b11_3 b11_4 b11_5 i v18 a_r depth drop b21_0 b21_1 v22)=ja hd k (aQ κ) (fun b11_5 v18=>κ1 (rS t b11_3 b11_4 i a_r depth drop b11_5 v18)) t b11_3 b11_4 b11_5 i v18 a_r depth drop n b21_0 b21_1 v22:=d_ (uo hd k (aQ κ) t b11_3 b11_4 b11_5 i v18 a_r depth drop (fun b11_5 v18=>κ1 (rS t b11_3 b11_4 i a_r depth drop b11_5 v18))) rfl (fun _=>rfl) fun r b21_0 b21_1 v22=>by kernel_rfl
theorem T8 (b11_3 b11_4): ∀n b11_5 v18,(kL hd k).lp κ 17 [] n (rS t b11_3 b11_4 i a_r depth drop b11_5 v18)=f0 hd k (aQ κ) t b11_3 b11_4 i a_r depth drop n b11_5 v18:=aE (fun own=>pT hd k (aQ κ) t b11_3 b11_4 i a_r depth drop (fun b11_5 v18 b21_0 b21_1 v22=>ja hd k (aQ κ) own t b11_3 b11_4 b11_5 i v18 a_r depth drop k b21_0 b21_1 v22) own) rfl (fun _=>rfl) fun r b11_5 v18=>Eq.trans (b:=pT hd k (aQ κ) t b11_3 b11_4 i a_r depth drop (fun b11_5 v18 b21_0 b21_1 v22=>(kL hd k).lp κ 27 [r] k (I0 t b11_3 b11_4 b11_5 i v18 a_r depth drop b21_0 b21_1 v22)) (fun b11_5 v18=>r (rS t b11_3 b11_4 i a_r depth drop b11_5 v18)) b11_5 v18) (by kernel_rfl) (by simp only [T9])
theorem T7: ∀n b11_3 b11_4 v14,(kL hd k).lp κ 9 [] n (B2 t i a_r depth drop b11_3 b11_4 v14)=j_ hd k (aQ κ) t i a_r depth drop n b11_3 b11_4 v14:=d_ (fun own=>pS hd k (aQ κ) t i a_r depth drop (fun b11_3 b11_4 b11_5 v18=>f0 hd k (aQ κ) t b11_3 b11_4 i a_r depth drop k b11_5 v18) own) rfl (fun _=>rfl) fun r b11_3 b11_4 v14=>Eq.trans (b:=pS hd k (aQ κ) t i a_r depth drop (fun b11_3 b11_4 b11_5 v18=>(kL hd k).lp κ 17 [] k (rS t b11_3 b11_4 i a_r depth drop b11_5 v18)) (fun b11_3 b11_4 v14=>r (B2 t i a_r depth drop b11_3 b11_4 v14)) b11_3 b11_4 v14) (by kernel_rfl) (by simp only [T8])
end
theorem Hc {S:Type} (o:Obj) (ho:af o): ∀k:Nat,Tl o 237 (CQ (eP k:fM S))
 |0=>dv fun t i a_r depth drop κ x h=>by cases h
 |k+1=>ah (kL (eP k) k) ⟨qQ o ho k,AH o ho k,AI o ho k,Hc o ho k,W7 o ho k,W_ o ho k,trivial⟩ Tryz.func237 (by kernel_rfl) fun t i a_r depth drop κ x h=>Eq.trans (b:=EF (eP k) k (aQ κ) (fun b11_3 b11_4 v14=>(kL (eP k) k).lp κ 9 [] k (B2 t i a_r depth drop b11_3 b11_4 v14)) t i a_r depth drop) (by kernel_rfl) (Eq.trans (by simp only [T7];rfl) h)
def Lr {S:Type} (k:Nat):Rw S:=ag Bm xn fun t i a_r κ=>aa k (vz k t i a_r) (aQ κ)
def Rn {S:Type} (k:Nat):Fx S:=fp 27 [(139,oB k),(154,sx k),(237,CQ (eP k))] [] k Tryz.f153 0
theorem Xa {S:Type} (o:Obj) (ho:af o) (k:Nat):Tl o 153 (Lr k:Rw S):=ah (Rn k) ⟨qQ o ho k,vO o ho k,Hc o ho k,trivial⟩ Tryz.func153 (by kernel_rfl) fun t i a_r κ x h=>Eq.trans (by kernel_rfl) (aj h)
end
end Go.Proofs.YtehekgbehghgdaaGreatDoor
namespace Go.Proofs.YtehekgbehghgdaaGreatDoor
open Go PI
set_option linter.unusedVariables false
set_option maxRecDepth 100000
noncomputable section
def Ls {S:Type} (k:Nat):Rw S:=ag YW xn fun t f kid κ=>aa k (qG k t f kid) (aQ κ)
def Rp {S:Type} (k:Nat):Fx S:=fp 27 [] [] k Tryz.f136 0
theorem Xb {S:Type} (o:Obj) (ho:af o) (k:Nat):Tl o 136 (Ls k:Rw S):=ah (Rp k) trivial Tryz.func136 (by kernel_rfl) fun t f kid κ x h=>Eq.trans (by kernel_rfl) (aj h)
section
variable {S:Type} (k:Nat) (t a:Tm) (sys:List (Br Tm)) (κ:Out UU→Option S)
end
def Lt {S:Type} (k:Nat):Rw S:=ag dp xn fun t κ=>aa k (vA k t) (dY κ)
def Rq {S:Type} (k:Nat):Fx S:=fp 19 [(69,xv k)] [] k Tryz.f131 0
theorem Xc {S:Type} (o:Obj) (ho:af o) (k:Nat):Tl o 131 (Lt k:Rw S):=ah (Rq k) ⟨AJ o ho k,trivial⟩ Tryz.func131 (by kernel_rfl) fun t κ x h=>Eq.trans (by kernel_rfl) (aj h)
section
variable {S:Type} (hd:SC S) (k:Nat) (t:Tm) (a_n:Int) (κ:Out UU→Option S)
end
section
variable {S:Type} (k:Nat) (t:Tm) (a_from a_by:Int) (κ:Out UU→Option S)
end
section
variable {S:Type} (k:Nat) (t:Tm) (vars dims:Int) (κ:Out UU→Option S)
end
section
variable {S:Type} (hd:SD S) (k:Nat) (t:Tm) (a_n:Int) (u:Tm) (vars dims:Int) (κ:Out UU→Option S)
end
section
variable {S:Type} (k:Nat) (line a:Tm) (sys:List (Br Tm)) (κ:Out UU→Option S)
end
section
variable {S:Type} (k:Nat) (t:Tm) (κ:Out UU→Option S)
end
def Lv {S:Type} (k:Nat):Rw S:=ag HF xn fun t out κ=>aa k (mX k t out) (eG κ)
def Rs {S:Type} (k:Nat):Fx S:=fp 22 [(131,Lt k)] [] k Tryz.f70 0
theorem Xe {S:Type} (o:Obj) (ho:af o) (k:Nat):Tl o 70 (Lv k:Rw S):=ah (Rs k) ⟨Xc o ho k,trivial⟩ Tryz.func70 (by kernel_rfl) fun t out κ x h=>Eq.trans (by kernel_rfl) (aj h)
def Lw {S:Type} (k:Nat):Rw S:=ag YX xn fun phi line a κ=>aa k (iD k phi line a) (aQ κ)
def Rt {S:Type} (k:Nat):Fx S:=fp 17 [(133,CL k)] [] k Tryz.f152 0
theorem Xf {S:Type} (o:Obj) (ho:af o) (k:Nat):Tl o 152 (Lw k:Rw S):=ah (Rt k) ⟨Gt o ho k,trivial⟩ Tryz.func152 (by kernel_rfl) fun phi line a κ x h=>Eq.trans (by kernel_rfl) (aj h)
def Lx {S:Type} (k:Nat):Rw S:=ag YY xn fun kind a κ=>aa k (vB k kind a) (aQ κ)
def Ru {S:Type} (k:Nat):Fx S:=fp 9 [(147,CK k)] [] k Tryz.f140 0
theorem Xg {S:Type} (o:Obj) (ho:af o) (k:Nat):Tl o 140 (Lx k:Rw S):=ah (Ru k) ⟨Gs o ho k,trivial⟩ Tryz.func140 (by kernel_rfl) fun kind a κ x h=>Eq.trans (by kernel_rfl) (aj h)
def Ly {S:Type} (k:Nat):Rw S:=ag rd xn fun t a_by κ=>aa k (vE k t a_by) (aQ κ)
def Rv {S:Type} (k:Nat):Fx S:=fp 22 [(139,oB k),(178,La k)] [] k Tryz.f155 0
theorem Xh {S:Type} (o:Obj) (ho:af o) (k:Nat):Tl o 155 (Ly k:Rw S):=ah (Rv k) ⟨qQ o ho k,WQ o ho k,trivial⟩ Tryz.func155 (by kernel_rfl) fun t a_by κ x h=>Eq.trans (by kernel_rfl) (aj h)
def Lz {S:Type} (k:Nat):Rw S:=ag dp xn fun t κ=>aa k (vD k t) (aQ κ)
def za {S:Type} (k:Nat):Fx S:=fp 118 [(133,CL k),(136,Ls k),(139,oB k),(140,Lx k),(152,Lw k),(153,Lr k),(154,sx k),(155,Ly k)] [(15,⟨[(1,.none),(2,.none),(3,.none),(4,.none),(6,.none),(7,.none)],[(1,[.none,.none,.none,.none,.none,.none]),(2,[.none,.none,.none,some (200131,true),some (200132,true),some (200133,true)]),(3,[.none,.none,.none,.none,.none,.none]),(4,[.none,.none,.none,.none,.none,.none]),(6,[.none,.none,.none,.none,.none,.none])]⟩,ao 11 767)] k Tryz.f84 0
def I1 (t x2 x3:Tm) (b6:Tm) (i7:Int):St UU:=⟨[(1,(pt 1)),(2,(pt 2)),(3,(pt 3)),(4,(pt 4)),(6,(pt 6)),(7,(iI i7))],[(1,bT t),(2,.cells [(iI 0),(iI 0),(.str ByteArray.empty),(.own 200131 0),(.own 200132 0),(.own 200133 0)]),(3,bT x2),(4,bT x3),(6,bT b6)],[(200133,⟨0,ET.B,([]:List (Br Tm))⟩),(200132,⟨0,ET.T,([]:List Tm)⟩),(200131,⟨0,ET.C,([]:List Cl)⟩)],[(200133,.wr),(200132,.wr),(200131,.wr)]⟩
section
variable {S:Type} (k:Nat) (t:Tm) (κ:Out UU→Option S)
theorem T_ (x2 x3): ∀n b6 i7,(za k).lp κ 15 [] n (I1 t x2 x3 b6 i7)=kc k (aQ κ) t x2 x3 n b6 i7:=aE (pU k (aQ κ) t x2 x3) rfl (fun _=>rfl) fun r b6 i7=>by kernel_rfl
end
theorem Xi {S:Type} (o:Obj) (ho:af o) (k:Nat):Tl o 84 (Lz k:Rw S):=ah (za k) ⟨Gt o ho k,Xb o ho k,qQ o ho k,Xg o ho k,Xf o ho k,Xa o ho k,vO o ho k,Xh o ho k,trivial⟩ Tryz.func84 (by kernel_rfl) fun t κ x h=>Eq.trans (b:=EH k (aQ κ) (fun x2 x3 b6 i7=>(za k).lp κ 15 [] k (I1 t x2 x3 b6 i7)) t) (by kernel_rfl) (Eq.trans (by simp only [T_];rfl) (aj h))
def LA {S:Type} (k:Nat):Rw S:=ag dp xn fun t κ=>aa k (vC k t) (eG κ)
def Rx {S:Type} (k:Nat):Fx S:=fp 19 [(69,xv k),(70,Lv k),(84,Lz k)] [] k Tryz.f26 0
theorem Xj {S:Type} (o:Obj) (ho:af o) (k:Nat):Tl o 26 (LA k:Rw S):=ah (Rx k) ⟨AJ o ho k,Xe o ho k,Xi o ho k,trivial⟩ Tryz.func26 (by kernel_rfl) fun t κ x h=>Eq.trans (by kernel_rfl) (aj h)
def LB {S:Type} (k:Nat):Rw S:=ag dp xn fun t κ=>aa k (Ak k t) (av κ)
def Ry {S:Type} (k:Nat):Fx S:=fp 48 [(17,CB (gF k)),(20,sr (dC k)),(21,Ka k),(22,KS k),(25,CA k),(26,LA k)] [] k Tryz.f5 0
theorem Xk {S:Type} (o:Obj) (ho:af o) (k:Nat):Tl o 5 (LB k:Rw S):=ah (Ry k) ⟨G8 o ho k,A6 o ho k,VS o ho k,Wz o ho k,Gm o ho k,Xj o ho k,trivial⟩ Tryz.func5 (by kernel_rfl) fun t κ x h=>Eq.trans (by kernel_rfl) (aj h)
section
variable {S:Type} (k:Nat) (l:List (List Cl)) (κ:Out UU→Option S)
end
end
end Go.Proofs.YtehekgbehghgdaaGreatDoor
namespace Go.Proofs.YtehekgbehghgdaaGreatDoor
open Go PI
set_option linter.unusedVariables false
set_option maxRecDepth 100000
noncomputable section
theorem afP {S:Type} (o:Obj) (ho:af o) (k:Nat):Tl o 5 (LB k:Rw S):=Xk o ho k
end
end Go.Proofs.YtehekgbehghgdaaGreatDoor
namespace Go.Proofs.YtehekgbehghgdaaGreatDoor
open Go PI
set_option linter.unusedVariables false
set_option linter.unusedSimpArgs false
variable {S:Type} {k:Nat}
def bE {α β:Type} (x:Except Int α) (f:α→Except Int β):Except Int β:=match x with
 | .error e=> .error e
 | .ok a=>f a
theorem aD {α β:Type} (a:α) (f:α→Except Int β):bE (.ok a) f=f a:=rfl
theorem io {α β:Type} (e:Int) (f:α→Except Int β):bE (.error e) f= .error e:=rfl
theorem bH {α β:Type} {x:Except Int α} {f:α→Except Int β} {b:β} (h:bE x f= .ok b): ∃a,x= .ok a∧f a= .ok b:=by
 cases x with
 |error e=>cases h
 |ok a=>exact ⟨a,rfl,h⟩
theorem bV {α β:Type} {x:Except Int α} {f:α→Except Int β} {e:Int} (h:bE x f= .error e):x= .error e∨ ∃a,x= .ok a∧f a= .error e:=by
 cases x with
 |error e=>injection h with h;grind
 |ok a=>exact .inr ⟨a,rfl,h⟩
def b_ (x:List Cl×Int):Except Int (List Cl):=if x.2=0 then .ok x.1 else .error x.2
theorem g_ {x:List Cl×Int} (h:x.2=0):b_ x= .ok x.1:=if_pos h
theorem gm {x:List Cl×Int} (h:x.2≠0):b_ x= .error x.2:=if_neg h
theorem ta {x:List Cl×Int} {l:List Cl} (h:b_ x= .ok l):x.2=0∧x.1=l:=by
 grind [b_]
theorem yk {x:List Cl×Int} {e:Int} (h:b_ x= .error e):x.2≠0∧x.2=e:=by
 grind [b_]
def EN (e:Int):Prop:=0≤e∧e≤1000
theorem qS:EN 0:=by unfold EN;omega
theorem jN:EN 2:=by unfold EN;omega
theorem X_:EN 3:=by unfold EN;omega
theorem X9:EN 10:=by unfold EN;omega
theorem oe (l:List Cl):EN (aY l).2:=by
 grind [aY,X_,qS,jN]
theorem wg {step:List Cl→Cl→List Cl×Int} (hs: ∀h c,EN (step h c).2): ∀ {r h:List Cl},EN (a8 step h r).2:=by
 intro r
 induction r<;>grind [qS,a8]
theorem abq (s i b:Int):EN (cu s i b).2:=by
 grind [cu,jN,dV,qS,X9]
theorem abf (c:Cl) (i b:Int):EN (cX c i b).2:=by
 grind [cX,abq,jN]
theorem oj (f:List Cl) (i b:Int):EN (aX f i b).2:=by
 unfold aX
 split
 ·split
  ·exact oe _
  ·exact wg fun h c=>abf c i b
 ·exact jN
theorem PJ {n b x y:Nat} (h:dw n b x=dw n b y):x=y:=by
 grind [dw]
theorem af0 (n b:Nat) {l:List Nat} (h:l.Nodup):(l.map (dw n b)).Nodup:=
 List.Pairwise.map (S:=fun a b=>a≠b) (R:=fun a b=>a≠b) _ (fun x y hxy h=>hxy (PJ h)) h
theorem abo {m n b:Nat} (h:(dV m n b).2=0) (j:Nat):(dV m n b).1.testBit j=true↔ ∃x,x<24∧m.testBit x=true∧dw n b x=j:=by
 rw [BH] at h ⊢
 split<;>grind [mm,af0,mw,mem_bitsN]
theorem U3 {m:Nat} (h:m<16777216):m&&&M24=m:=by
 apply Nat.eq_of_testBit_eq
 grind [fN,my]
theorem abm {m n b:Nat} (hm:m<16777216) (h:b=0∨24≤n):dV m n b=(m,0):=by
 rw [BH,if_neg]
 ·have:(bz m).map (dw n b)=bz m:=by
   refine (List.map_congr_left fun x hx=> ?_).trans (List.map_id _)
   grind [mem_bitsN,dw]
  simp_all [Ds,U3]
 grind [mem_bitsN]
theorem abg {c:Cl} {i b:Int} (hc:RC c) (hi:0≤i) (hb:0≤b) (h:b=0∨24≤i):cX c i b=(c,0):=by
 have h1:c.pos.toNat<16777216:=by have:=hc.1;omega
 have h2:c.neg.toNat<16777216:=by have:=hc.2;omega
 have hs: ∀s:Int,0≤s→s.toNat<16777216→cu s i b=(s,0):=fun s h0 hs=>by
  grind [cu,abm]
 unfold cX
 rw [if_pos ((xL hc.ok).2 hc),hs _ hc.1.1 h1,hs _ hc.2.1 h2];rfl
theorem Ym {i b:Int}: ∀ {r h:List Cl},(a8 (da i b) h r).2=0→(∀c∈r,(cX c i b).2=0)∧(a8 (da i b) h r).1=h++r.map fun c=>(cX c i b).1:=by
 intro r
 induction r<;>grind [a8,da]
theorem Yn {i b:Int}: ∀ {r h:List Cl},(∀c∈r,cX c i b=(c,0))→a8 (da i b) h r=(h++r,0):=by
 intro r
 induction r<;>grind [a8,da]
theorem abi {f:List Cl} {i b:Int} (hf:RF f) (hi:0≤i) (hb:0≤b) (h:b=0∨24≤i):aX f i b=(f,0):=by
 unfold aX
 rw [if_pos hf.right,Yn fun c hc=>abg (hf.rc hc) hi hb h,if_pos rfl]
 exact hf.1
theorem abj {f:List Cl} {i b:Int} (h:(aX f i b).2=0): ∀c∈(aX f i b).1,∃d∈f,(cX d i b).2=0∧c=(cX d i b).1:=by
 grind [aX,Ym,aY,mem_mins]
theorem Vn {c:Cl}:bu c=false↔ ∀j,¬ (c.pos.toNat.testBit j=true∧c.neg.toNat.testBit j=true):=by
 unfold bu
 rw [Bool.not_eq_false',decide_eq_true_eq]
 constructor
 ·intro h j ⟨h1,h2⟩
  have:(c.pos.toNat&&&c.neg.toNat).testBit j=true:=by grind
  grind
 ·intro h
  apply Nat.eq_of_testBit_eq
  grind
theorem abp {s i b:Int} (h:(cu s i b).2=0) {j:Nat} (hj:(cu s i b).1.toNat.testBit j=true): ∃x,s.toNat.testBit x=true∧dw i.toNat b.toNat x=j:=by
 unfold cu at h hj
 split at h
 ·cases h
 ·next hn=>
  rw [if_neg hn] at hj
  have h':(dV s.toNat i.toNat b.toNat).2=0:=by
   omega
  obtain ⟨x,_,h2,h3⟩:=(abo h' j).1 hj
  grind
theorem abe {c:Cl} {i b:Int} (h:(cX c i b).2=0) (hc:bu c=false):bu (cX c i b).1=false:=by
 grind [Vn,cX,abp,PJ]
def co (d b:Int) (f:List Cl):Except Int (List Cl):=if b=0∨d≥24 then .ok f else b_ (aX f d b)
theorem C8 {d b:Int} {f g:List Cl} (hf:RF f) (h:co d b f= .ok g):RF g:=by
 grind [co,ta,je]
theorem xM {d b:Int} {f:List Cl} {e:Int} (h:co d b f= .error e):0<e∧e≤1000:=by
 grind [co,yk,oj,EN]
theorem adm {d b:Int} {f g:List Cl} (hf:f.all (fun c=> !bu c)=true) (h:co d b f= .ok g):g.all (fun c=> !bu c)=true:=by
 grind [co,ta,abj,abe]
theorem xN (d b:Int):co d b []= .ok []:=by
 unfold co
 split
 all_goals rfl
mutual
def a_ (vb db v d:Int):Tm→Except Int Tm
 | .mk kd n nm r ks sys=>
  if kd=1∧n≥v∧n>1000000000-vb then .error 100
  else bE (co d db r) fun r'=>bE (dU vb db v d kd 0 ks) fun ks'=>bE (dD vb db v d kd sys) fun sys'=> .ok (.mk kd (if kd=1∧n≥v then n+vb else n) nm r' ks' sys')
def dU (vb db v d kd:Int) (i:Nat):List Tm→Except Int (List Tm)
 |[]=> .ok []
 |t::l=>bE (a_ vb db (v+dy kd i) (d+bJ kd i) t) fun t'=>bE (dU vb db v d kd (i+1) l) fun l'=> .ok (t'::l')
def dD (vb db v d kd:Int):List (Br Tm)→Except Int (List (Br Tm))
 |[]=> .ok []
 |b::l=>bE (rq vb db v d kd b) fun b'=>bE (dD vb db v d kd l) fun l'=> .ok (b'::l')
def rq (vb db v d kd:Int):Br Tm→Except Int (Br Tm)
 | .mk f ks=>bE (co d db f) fun f'=>bE (dq vb db v d kd ks) fun ks'=> .ok (.mk f' ks')
def dq (vb db v d kd:Int):List Tm→Except Int (List Tm)
 |[]=> .ok []
 |t::l=>bE (a_ vb db v (d+aw kd) t) fun t'=>bE (dq vb db v d kd l) fun l'=> .ok (t'::l')
end
mutual
def RowsT:Tm→Prop
 | .mk kd n nm r ks sys=>(RF r∧(kd=1→r=[])∧0≤kd)∧dh ks∧dR sys
def dh:List Tm→Prop
 |[]=>True
 |t::l=>RowsT t∧dh l
def dR:List (Br Tm)→Prop
 |[]=>True
 |b::l=>kT b∧dR l
def kT:Br Tm→Prop
 | .mk f ks=>RF f∧dh ks
end
theorem rowsK_iff: ∀ {l:List Tm},dh l↔ ∀t∈l,RowsT t:=by
 intro l
 induction l<;>grind [dh]
theorem Da {b:Br Tm}:kT b↔RF b.face∧ ∀t∈b.kids,RowsT t:=by cases b;rw [kT,rowsK_iff]
theorem rowsS_iff: ∀ {l:List (Br Tm)},dR l↔ ∀b∈l,RF b.face∧ ∀t∈b.kids,RowsT t:=by
 intro l
 induction l<;>grind [dR,Da]
end Go.Proofs.YtehekgbehghgdaaGreatDoor
namespace Go.Proofs.YtehekgbehghgdaaGreatDoor
open Go PI
set_option linter.unusedVariables false
set_option linter.unusedSimpArgs false
variable {S:Type} {k:Nat}
inductive F2 {α β:Type} (R:α→β→Prop):List α→List β→Prop
 |nil:F2 R [] []
 |cons {a:α} {b:β} {l:List α} {m:List β}:R a b→F2 R l m→F2 R (a::l) (b::m)
theorem F2.len {α β:Type} {R:α→β→Prop} {l:List α} {m:List β} (h:F2 R l m):m.length=l.length:=by
 induction h<;>grind
theorem F2.imp {α β:Type} {R Q:α→β→Prop} {l:List α} {m:List β} (h:F2 R l m) (hq: ∀a b,R a b→Q a b):F2 Q l m:=by
 induction h<;>grind [nil,cons]
theorem abk {vb db v d kd:Int} {R:Tm→Tm→Prop}: ∀ {l:List Tm} {i:Nat} {l':List Tm},(∀x∈l,∀v d x',a_ vb db v d x= .ok x'→R x x')→dU vb db v d kd i l= .ok l'→F2 R l l':=by
 intro l
 induction l with
 |nil=>intro i l' _ h;rw [dU] at h;injection h with h;subst h;exact .nil
 |cons t l ih=>
  intro i l' hr h
  rw [dU] at h
  obtain ⟨t',h1,h⟩:=bH h
  obtain ⟨m,h2,h⟩:=bH h
  injection h with h;subst h
  exact .cons (hr t (by simp) _ _ _ h1) (ih (fun x hx=>hr x (by simp [hx])) h2)
theorem abl {vb db v d kd:Int} {R:Tm→Tm→Prop}: ∀ {l:List Tm} {l':List Tm},(∀x∈l,∀v d x',a_ vb db v d x= .ok x'→R x x')→dq vb db v d kd l= .ok l'→F2 R l l':=by
 intro l
 induction l with
 |nil=>intro l' _ h;rw [dq] at h;injection h with h;subst h;exact .nil
 |cons t l ih=>
  intro l' hr h
  rw [dq] at h
  obtain ⟨t',h1,h⟩:=bH h
  obtain ⟨m,h2,h⟩:=bH h
  injection h with h;subst h
  exact .cons (hr t (by simp) _ _ _ h1) (ih (fun x hx=>hr x (by simp [hx])) h2)
theorem abr {vb db v d kd:Int} {R:Tm→Tm→Prop}: ∀ {l l':List (Br Tm)},(∀b∈l,∀x∈b.kids,∀v d x',a_ vb db v d x= .ok x'→R x x')→dD vb db v d kd l= .ok l'→
  F2 (fun b b'=>co d db b.face= .ok b'.face∧F2 R b.kids b'.kids) l l':=by
 intro l
 induction l with
 |nil=>intro l' _ h;rw [dD] at h;injection h with h;subst h;exact .nil
 |cons b l ih=>
  intro l' hr h
  rw [dD] at h
  obtain ⟨b',h1,h⟩:=bH h
  obtain ⟨m,h2,h⟩:=bH h
  injection h with h;subst h
  cases b with
  |mk f ks=>
   rw [rq] at h1
   obtain ⟨f',h3,h1⟩:=bH h1
   obtain ⟨ks',h4,h1⟩:=bH h1
   injection h1 with h1;subst h1
   exact .cons ⟨h3,abl (hr ⟨f,ks⟩ (by simp)) h4⟩ (ih (fun b hb=>hr b (by simp [hb])) h2)
theorem wM {f:List Cl} {d:Int} (h:24≤d):cG f d=true:=by
 grind [cG,mem_bitsN]
def Up (x x':Tm):Prop:=ap x'=ap x∧aG x'=aG x∧x'.kind=x.kind∧(OkT x→OkT x'∧(RowsT x→RowsT x')∧ ∀dd dd',24≤dd→24≤dd'→bg false (-1) dd x=true→bg false (-1) dd' x'=true)
theorem PL {l l':List Tm} (h:F2 Up l l'):aK l'=aK l:=by
 induction h with
 |nil=>rfl
 |cons h1 _ ih=>rw [aK,aK,h1.1,ih]
theorem PO {l l':List Tm} (h:F2 Up l l'):aJ l'=aJ l:=by
 induction h with
 |nil=>rfl
 |cons h1 _ ih=>rw [aJ,aJ,h1.2.1,ih]
theorem af7 {l l':List (Br Tm)} (h:F2 (fun b b':Br Tm=>F2 Up b.kids b'.kids) l l'):aS l'=aS l:=by
 induction h with
 |nil=>rfl
 |cons h1 _ ih=>grind [aS,qN,PL]
theorem af8 {l l':List (Br Tm)} (h:F2 (fun b b':Br Tm=>F2 Up b.kids b'.kids) l l'):aN l'=aN l:=by
 induction h with
 |nil=>rfl
 |cons h1 _ ih=>grind [aN,sS,PO]
theorem PM {l l':List Tm} (h:F2 Up l l'):bP l→bP l':=by
 induction h with
 |nil=>exact id
 |cons h1 _ ih=>rw [bP,bP];exact fun h=>⟨(h1.2.2.2 h.1).1,ih h.2⟩
theorem PN {l l':List Tm} (h:F2 Up l l'):bP l→dh l→dh l':=by
 induction h with
 |nil=>simp
 |cons h1 _ ih=>rw [bP,dh,dh];exact fun h g=>⟨(h1.2.2.2 h.1).2.1 g.1,ih h.2 g.2⟩
theorem PQ (v:Int):dx (-1) v= -1:=by rfl
theorem af5 {kd dd dd':Int} (h1:24≤dd) (h2:24≤dd') {l l':List Tm} (h:F2 Up l l'): ∀ {i:Nat},bP l→bY false (-1) dd kd i l=true→bY false (-1) dd' kd i l'=true:=by
 induction h with
 |nil=>exact fun _ h=>h
 |cons h3 _ ih=>
  intro i
  rw [bP,bY,bY,Bool.and_eq_true,Bool.and_eq_true,PQ]
  have:=iq kd i
  exact fun h g=>⟨(h3.2.2.2 h.1).2.2 _ _ (by omega) (by omega) g.1,ih h.2 g.2⟩
theorem af6 {kd dd dd':Int} (h1:24≤dd) (h2:24≤dd') {l l':List Tm} (h:F2 Up l l'):bP l→cV false (-1) dd kd l=true→cV false (-1) dd' kd l'=true:=by
 induction h with
 |nil=>exact fun _ h=>h
 |cons h3 _ ih=>
  rw [bP,cV,cV,Bool.and_eq_true,Bool.and_eq_true]
  have:=dX kd
  exact fun h g=>⟨(h3.2.2.2 h.1).2.2 _ _ (by omega) (by omega) g.1,ih h.2 g.2⟩
def mr (d db:Int) (b b':Br Tm):Prop:=co d db b.face= .ok b'.face∧F2 Up b.kids b'.kids
theorem MB {d db:Int} {f g:List Cl} (h:co d db f= .ok g) (hf:am f) (hl:f.length<1073741824):am g∧g.length<1073741824:=by
 unfold co at h
 split at h
 ·grind
 ·obtain ⟨h1,rfl⟩:=ta h
  have:=je h1
  exact ⟨this.2,by have:=this.len;omega⟩
theorem MC {d db:Int} {f g:List Cl} (h:co d db f= .ok g) (hf:am f) (hr:be f=true):be g=true:=(C8 ((eI hf).1 hr) h).right
theorem MA {d db:Int} {f g:List Cl} (h:co d db f= .ok g) (hf:am f) (hr:cm f=true):cm g=true:=by
 grind [cm,MC,adm]
theorem adl {d db:Int} {f g:List Cl} (h:co d db f= .ok g) (hf:f.length=0):g.length=0:=by
 grind [xN]
theorem af2 {d db:Int} {l l':List (Br Tm)} (h:F2 (mr d db) l l'):bn l→bn l':=by
 induction h with
 |nil=>exact id
 |cons h1 _ ih=>
  rw [bn,bn,lW,lW]
  intro h
  have h3:=MB h1.1 h.1.1.1 h.1.1.2.1
  exact ⟨⟨⟨h3.1,h3.2,by have:=h1.2.len;omega⟩,okK_iff.1 (PM h1.2 (okK_iff.2 h.1.2))⟩,ih h.2⟩
theorem af4 {d db:Int} {l l':List (Br Tm)} (h:F2 (mr d db) l l'):bn l→dR l→dR l':=by
 induction h with
 |nil=>simp
 |cons h1 _ ih=>
  rw [bn,lW,dR,dR,Da,Da]
  intro h g
  exact ⟨⟨C8 g.1.1 h1.1,rowsK_iff.1 (PN h1.2 (okK_iff.2 h.1.2) (rowsK_iff.2 g.1.2))⟩,ih h.2 g.2⟩
theorem af1 {d db kd dd dd':Int} (h1:24≤dd) (h2:24≤dd') {l l':List (Br Tm)} (h:F2 (mr d db) l l'):bn l→c7 false (-1) dd kd l=true→c7 false (-1) dd' kd l'=true:=by
 induction h with
 |nil=>exact fun _ h=>h
 | @cons a b _ _ h3 _ ih=>
  rw [bn,lW,c7,c7,Bool.and_eq_true,Bool.and_eq_true]
  intro h g
  refine ⟨?_,ih h.2 g.2⟩
  cases a;cases b
  have g1:=g.1
  rw [pg] at g1 ⊢
  exact af6 h1 h2 h3.2 (okK_iff.2 h.1.2) g1
theorem af3 {d db kd dd dd':Int} (h1:24≤dd) (h2:24≤dd') {l l':List (Br Tm)} (h:F2 (mr d db) l l'):bn l→l.all (bZ kd dd)=true→l'.all (bZ kd dd')=true:=by
 induction h with
 |nil=>simp
 | @cons a b _ _ h3 _ ih=>
  rw [bn,lW,List.all_cons,List.all_cons,Bool.and_eq_true,Bool.and_eq_true]
  intro h g
  refine ⟨?_,ih h.2 g.2⟩
  have g1:=g.1
  unfold bZ at g1 ⊢
  rw [Bool.and_eq_true,Bool.and_eq_true,decide_eq_true_eq] at g1 ⊢
  rw [h3.2.len]
  exact ⟨g1.1,MA h3.1 h.1.1.1 g1.2.1,wM h2⟩
theorem PK {d db:Int} {l l':List (Br Tm)} (h:F2 (mr d db) l l'):F2 (fun b b':Br Tm=>F2 Up b.kids b'.kids) l l':=h.imp fun _ _ h=>h.2
theorem abt {vb db:Int} (hvb:0≤vb) (hvb':vb≤1000000000) (t:Tm): ∀v d t',a_ vb db v d t= .ok t'→Up t t':=by
 induction t using jm with
 |h kd n nm r ks sys ih1 ih2=>
  intro v d t' h
  rw [a_] at h
  split at h
  ·cases h
  next hv=>
  obtain ⟨r',hr,h⟩:=bH h
  obtain ⟨ks',hk,h⟩:=bH h
  obtain ⟨sys',hs,h⟩:=bH h
  injection h with h;subst h
  have fk:F2 Up ks ks':=abk (fun x hx v d x'=>ih1 x hx v d x') hk
  have fs:F2 (mr d db) sys sys':=abr (fun b hb x hx v d x'=>ih2 b hb x hx v d x') hs
  refine ⟨?_, ?_,rfl,fun hok=> ?_⟩
  ·grind [ap,PL,af7,PK]
  ·grind [aG,PO,af8,PK]
  ·obtain ⟨o1,o2,o3,o4,o5,o6,o7⟩:=hok.node
   have hok':=hok
   rw [OkT] at hok'
   obtain ⟨_,ok,os⟩:=hok'
   have hr':=MB hr o4 o5
   have o2':=o2
   unfold aH at o2'
   refine ⟨?_, ?_, ?_⟩
   ·rw [OkT]
    refine ⟨⟨o1, ?_,o3,hr'.1,hr'.2,by rw [fk.len];exact o6,by rw [fs.len];exact o7⟩,PM fk ok,af2 fs os⟩
    grind [aH]
   ·grind [RowsT,C8,PN,af4,xN]
   ·intro dd dd' h1 h2
    rw [bg,bg]
    simp only [Bool.false_and,Bool.not_false,Bool.true_and,Bool.and_eq_true]
    rintro ⟨a,b,c⟩
    refine ⟨?_,af5 h1 h2 fk ok b,af1 h1 h2 fs os c⟩
    unfold dO at a ⊢
    simp only [Bool.and_eq_true,decide_eq_true_eq,fk.len,fs.len] at a ⊢
    grind [adl,MC,wM,MA,af3]
theorem ZE {kd:Int} {n:Nat} (h:dL kd=n):0≤kd:=by
 grind [dL]
theorem U1 {bd:Bool} (t:Tm): ∀ {vars dims:Int},OkT t→bg bd vars dims t=true→RowsT t:=by
 induction t using jm with
 |h kd n nm r ks sys ih1 ih2=>
  intro vars dims hok h
  rw [bg,Bool.and_eq_true,Bool.and_eq_true,Bool.and_eq_true] at h
  obtain ⟨_,a,b,c⟩:=h
  obtain ⟨o1,o2,o3,o4,o5,o6,o7⟩:=hok.node
  have hok':=hok
  rw [OkT] at hok'
  obtain ⟨_,ok,os⟩:=hok'
  have hkids: ∀ {l:List Tm} {i:Nat},(∀x∈l,∀ {vars dims:Int},OkT x→bg bd vars dims x=true→RowsT x)→bP l→bY bd vars dims kd i l=true→dh l:=by
   intro l
   induction l<;>grind [dh,bY,bP]
  rw [zq,List.all_eq_true] at c
  unfold dO at a
  simp only [Bool.and_eq_true,decide_eq_true_eq] at a
  obtain ⟨⟨a1,a2,a3,a4⟩,a5⟩:=a
  have r0: ∀ {l:List Cl},l.length=0→RF l:=fun h=>by
   grind [oE]
  rw [RowsT]
  have hfaces:(sys=[]∨sys.all (bZ kd dims)=true)∧RF r∧(kd=1→r=[]):=by
   have nosys:b7 kd=0→sys=[]:=fun h=>List.length_eq_zero_iff.1 (a4 h)
   by_cases c1:kd=1
   ·rw [if_pos c1] at a5
    simp only [Bool.and_eq_true,decide_eq_true_eq] at a5
    exact ⟨.inl (nosys (by subst c1;decide)),r0 a5.1,fun _=>List.length_eq_zero_iff.1 a5.1⟩
   ·rw [if_neg c1] at a5
    by_cases c2:kd=2
    ·rw [if_pos c2] at a5
     simp only [Bool.and_eq_true,decide_eq_true_eq] at a5
     exact ⟨.inl (nosys (by subst c2;decide)),r0 a5.1,fun h=>absurd h c1⟩
    ·rw [if_neg c2] at a5
     by_cases c3:kd=13∨kd=21∨kd=26
     ·rw [if_pos c3,Bool.and_eq_true] at a5
      exact ⟨.inl (nosys (by rcases c3 with rfl|rfl|rfl<;>decide)),(eI o4).1 a5.1,fun h=>absurd h c1⟩
     ·rw [if_neg c3] at a5
      by_cases c4:kd=14
      ·rw [if_pos c4,Bool.and_eq_true] at a5
       unfold cm at a5
       rw [Bool.and_eq_true] at a5
       exact ⟨.inl (nosys (by subst c4;decide)),(eI o4).1 a5.1.1,fun h=>absurd h c1⟩
      grind
  refine ⟨⟨hfaces.2.1,hfaces.2.2,ZE a1⟩,hkids (fun x hx=>ih1 x hx) ok b, ?_⟩
  rw [rowsS_iff]
  intro br hbr
  have hc:=c br hbr
  rw [List.all_eq_true] at hc
  have hob:=hok.br hbr
  refine ⟨?_,fun x hx=>ih2 br hbr x hx (hob.2 x hx) (hc x hx)⟩
  rcases hfaces.1 with h|h<;>grind [bZ,cm,eI]
theorem jf {vb db:Int} (t:Tm): ∀ {v d e},a_ vb db v d t= .error e→0<e∧e≤1000:=by
 induction t using jm with
 |h kd n nm r ks sys ih1 ih2=>
  intro v d e h
  rw [a_] at h
  split at h
  ·grind
  rcases bV h with h|⟨_,_,h⟩
  ·exact xM h
  have hkids: ∀ {l:List Tm} {i:Nat},(∀x∈l,∀ {v d e},a_ vb db v d x= .error e→0<e∧e≤1000)→dU vb db v d kd i l= .error e→0<e∧e≤1000:=by
   intro l
   induction l with
   |nil=>grind [dU]
   |cons t l ih=>
    intro i hl h
    rw [dU] at h
    rcases bV h with h|⟨_,_,h⟩
    ·exact hl t (by simp) h
    grind [bV]
  have hmore: ∀ {l:List Tm},(∀x∈l,∀ {v d e},a_ vb db v d x= .error e→0<e∧e≤1000)→ ∀ {e},dq vb db v d kd l= .error e→0<e∧e≤1000:=by
   intro l
   induction l with
   |nil=>grind [dq]
   |cons t l ih=>
    intro hl e h
    rw [dq] at h
    rcases bV h with h|⟨_,_,h⟩
    ·grind
    ·rcases bV h with h|⟨_,_,h⟩
     ·exact ih (fun x hx=>hl x (by simp [hx])) h
     simp_all
  have hsys: ∀ {l:List (Br Tm)},(∀b∈l,∀x∈b.kids,∀ {v d e},a_ vb db v d x= .error e→0<e∧e≤1000)→dD vb db v d kd l= .error e→0<e∧e≤1000:=by
   intro l
   induction l with
   |nil=>grind [dD]
   |cons b l ih=>
    intro hl h
    rw [dD] at h
    rcases bV h with h|⟨_,_,h⟩
    ·cases b with
     |mk f ks'=>
      rw [rq] at h
      rcases bV h with h|⟨_,_,h⟩
      ·exact xM h
      ·rcases bV h with h|⟨_,_,h⟩
       ·exact hmore (hl (Br.mk f ks') (by simp)) h
       ·cases h
    grind [bV]
  grind [bV]
end Go.Proofs.YtehekgbehghgdaaGreatDoor
namespace Go.Proofs.YtehekgbehghgdaaGreatDoor
open Go PI
set_option linter.unusedVariables false
set_option linter.unusedSimpArgs false
variable {S:Type} {k:Nat}
abbrev c6:=Int→List Cl→Except Int (List Cl)
mutual
def aP (fo fa:c6) (d:Int):Tm→Except Int Tm
 | .mk kd n nm r ks sys=>bE (if kd=14 then fa d r else fo d r) fun r'=>bE (bh fo fa d kd 0 ks) fun ks'=>bE (aU fo fa d kd sys) fun sys'=> .ok (.mk kd n nm r' ks' sys')
def bh (fo fa:c6) (d kd:Int) (i:Nat):List Tm→Except Int (List Tm)
 |[]=> .ok []
 |t::l=>bE (aP fo fa (d+bJ kd i) t) fun t'=>bE (bh fo fa d kd (i+1) l) fun l'=> .ok (t'::l')
def aU (fo fa:c6) (d kd:Int):List (Br Tm)→Except Int (List (Br Tm))
 |[]=> .ok []
 |b::l=>bE (eJ fo fa d kd b) fun o=>bE (aU fo fa d kd l) fun l'=> .ok (o++l')
def eJ (fo fa:c6) (d kd:Int):Br Tm→Except Int (List (Br Tm))
 | .mk f ks=>bE (fa d f) fun f'=>if f'.length=0 then .ok [] else bE (bk fo fa d kd ks) fun ks'=> .ok [.mk f' ks']
def bk (fo fa:c6) (d kd:Int):List Tm→Except Int (List Tm)
 |[]=> .ok []
 |t::l=>bE (aP fo fa (d+aw kd) t) fun t'=>bE (bk fo fa d kd l) fun l'=> .ok (t'::l')
end
theorem af_ {fo fa:c6} {d kd:Int} {R:Tm→Tm→Prop}: ∀ {l:List Tm} {i:Nat} {l':List Tm},(∀x∈l,∀d x',aP fo fa d x= .ok x'→R x x')→bh fo fa d kd i l= .ok l'→F2 R l l':=by
 intro l
 induction l with
 |nil=>intro i l' _ h;rw [bh] at h;injection h with h;subst h;exact .nil
 |cons t l ih=>
  intro i l' hr h
  rw [bh] at h
  obtain ⟨t',h1,h⟩:=bH h
  obtain ⟨m,h2,h⟩:=bH h
  injection h with h;subst h
  exact .cons (hr t (by simp) _ _ h1) (ih (fun x hx=>hr x (by simp [hx])) h2)
theorem agb {fo fa:c6} {d kd:Int} {R:Tm→Tm→Prop}: ∀ {l:List Tm} {l':List Tm},(∀x∈l,∀d x',aP fo fa d x= .ok x'→R x x')→bk fo fa d kd l= .ok l'→F2 R l l':=by
 intro l
 induction l with
 |nil=>intro l' _ h;rw [bk] at h;injection h with h;subst h;exact .nil
 |cons t l ih=>
  intro l' hr h
  rw [bk] at h
  obtain ⟨t',h1,h⟩:=bH h
  obtain ⟨m,h2,h⟩:=bH h
  injection h with h;subst h
  exact .cons (hr t (by simp) _ _ h1) (ih (fun x hx=>hr x (by simp [hx])) h2)
def Wk (x x':Tm):Prop:=ap x'≤ap x∧aG x'≤aG x∧x'.kind=x.kind∧(OkT x→RowsT x→OkT x'∧RowsT x')
theorem P0 {l l':List Tm} (h:F2 Wk l l'):aK l'≤aK l:=by
 induction h with
 |nil=>simp
 |cons h1 _ ih=>rw [aK,aK];have:=h1.1;omega
theorem P2 {l l':List Tm} (h:F2 Wk l l'):aJ l'≤aJ l:=by
 induction h with
 |nil=>simp
 |cons h1 _ ih=>rw [aJ,aJ];have:=h1.2.1;omega
theorem P1 {l l':List Tm} (h:F2 Wk l l'):bP l→dh l→bP l'∧dh l':=by
 induction h with
 |nil=>grind
 |cons h1 _ ih=>
  rw [bP,bP,dh,dh]
  intro h g
  have a:=h1.2.2.2 h.1 g.1
  grind
theorem age {fo fa:c6} {d kd:Int} (hfa: ∀d f g,RF f→fa d f= .ok g→RF g): ∀ {l l':List (Br Tm)},(∀b∈l,∀x∈b.kids,∀d x',aP fo fa d x= .ok x'→Wk x x')→aU fo fa d kd l= .ok l'→
  aS l'≤aS l∧aN l'≤aN l∧l'.length≤l.length∧(bn l→dR l→bn l'∧dR l'):=by
 intro l
 induction l with
 |nil=>grind [aU]
 |cons b l ih=>
  intro l' hr h
  rw [aU] at h
  obtain ⟨o,h1,h⟩:=bH h
  obtain ⟨m,h2,h⟩:=bH h
  injection h with h;subst h
  obtain ⟨i1,i2,i3,i4⟩:=ih (fun b hb=>hr b (by simp [hb])) h2
  cases b with
  |mk f ks=>
   rw [eJ] at h1
   obtain ⟨f',h3,h1⟩:=bH h1
   split at h1
   ·grind [aS,aN,bn,dR]
   ·obtain ⟨ks',h4,h1⟩:=bH h1
    injection h1 with h1;subst h1
    have f2:F2 Wk ks ks':=agb (hr ⟨f,ks⟩ (by simp)) h4
    have hd:=P0 f2
    have hs:=P2 f2
    refine ⟨?_, ?_, ?_,fun ho hg=> ?_⟩
    ·grind [aS,jK]
    ·grind [aN,g9]
    ·grind
    ·rw [bn,jq] at ho;rw [dR,kT] at hg
     have a:=P1 f2 ho.1.2 hg.1.2
     have b:=i4 ho.2 hg.2
     have c:=hfa d f f' hg.1.1 h3
     show bn (Br.mk f' ks'::m)∧dR (Br.mk f' ks'::m)
     rw [bn,jq,dR,kT]
     exact ⟨⟨⟨⟨c.2,by have:=c.len;omega,by rw [f2.len];simp_all⟩,a.1⟩,b.1⟩,⟨c,a.2⟩,b.2⟩
theorem PW {fo fa:c6} (hfo: ∀d f g,RF f→fo d f= .ok g→RF g) (hfa: ∀d f g,RF f→fa d f= .ok g→RF g) (h0: ∀d,fo d []= .ok []) (t:Tm): ∀d t',aP fo fa d t= .ok t'→Wk t t':=by
 induction t using jm with
 |h kd n nm r ks sys ih1 ih2=>
  intro d t' h
  rw [aP] at h
  obtain ⟨r',hr,h⟩:=bH h
  obtain ⟨ks',hk,h⟩:=bH h
  obtain ⟨sys',hs,h⟩:=bH h
  injection h with h;subst h
  have fk:F2 Wk ks ks':=af_ ih1 hk
  obtain ⟨s1,s2,s3,s4⟩:=age hfa ih2 hs
  refine ⟨?_, ?_,rfl,fun hok hro=> ?_⟩
  ·rw [ap,ap];have:=P0 fk;omega
  ·rw [aG,aG];have:=P2 fk;omega
  ·rw [OkT] at hok;rw [RowsT] at hro
   obtain ⟨⟨o1,o2,o3,o4,o5,o6,o7⟩,ok,os⟩:=hok
   obtain ⟨⟨a,b,z⟩,c,e⟩:=hro
   have hk:=P1 fk ok c
   have hs:=s4 os e
   have hrf:RF r':=by
    grind
   rw [OkT,RowsT]
   refine ⟨⟨⟨o1,o2,o3,hrf.2,by have:=hrf.len;omega,by rw [fk.len];exact o6,by omega⟩,hk.1,hs.1⟩,⟨hrf,fun h1=> ?_,z⟩,hk.2,hs.2⟩
   grind
section
variable {fo fa:c6} {G:Int→List Cl→List Cl}
def cD (f:c6) (G:Int→List Cl→List Cl):c6:=fun d l=>bE (f d l) fun m=> .ok (G d m)
def ax (G:Int→List Cl→List Cl):c6:=fun d l=> .ok (G d l)
theorem yn (t:Tm): ∀d,∃t',aP (ax G) (ax G) d t= .ok t':=by
 induction t using jm with
 |h kd n nm r ks sys ih1 ih2=>
  intro d
  have hk: ∀ {l:List Tm} {i:Nat},(∀x∈l,∀d,∃t',aP (ax G) (ax G) d x= .ok t')→ ∃l',bh (ax G) (ax G) d kd i l= .ok l':=by
   intro l
   induction l with
   |nil=>simp_all [bh]
   |cons t l ih=>
    intro i h
    obtain ⟨t',e⟩:=h t (by simp) (d+bJ kd i)
    obtain ⟨l',e'⟩:=ih (i:=i+1) fun x hx=>h x (by simp [hx])
    grind [bh,aD]
  have hm: ∀ {l:List Tm},(∀x∈l,∀d,∃t',aP (ax G) (ax G) d x= .ok t')→ ∃l',bk (ax G) (ax G) d kd l= .ok l':=by
   intro l
   induction l with
   |nil=>simp_all [bk]
   |cons t l ih=>
    intro h
    obtain ⟨t',e⟩:=h t (by simp) (d+aw kd)
    obtain ⟨l',e'⟩:=ih fun x hx=>h x (by simp [hx])
    grind [bk,aD]
  have hs: ∀ {l:List (Br Tm)},(∀b∈l,∀x∈b.kids,∀d,∃t',aP (ax G) (ax G) d x= .ok t')→ ∃l',aU (ax G) (ax G) d kd l= .ok l':=by
   intro l
   induction l with
   |nil=>simp_all [aU]
   |cons b l ih=>
    intro h
    obtain ⟨l',e'⟩:=ih fun b hb=>h b (by simp [hb])
    cases b with
    |mk f ks=>
     obtain ⟨ks',e⟩:=hm (h ⟨f,ks⟩ (by simp))
     have: ∃o,eJ (ax G) (ax G) d kd (.mk f ks)= .ok o:=by
      grind [eJ,ax,aD]
     grind [aU,aD]
  obtain ⟨ks',ek⟩:=hk (i:=0) ih1
  obtain ⟨sys',es⟩:=hs ih2
  simp_all [ax,aP,aD]
theorem aga (d kd:Int): ∀ (l:List Tm) (i:Nat),∃l',bh (ax G) (ax G) d kd i l= .ok l':=by
 intro l
 induction l with
 |nil=>simp_all [bh]
 |cons t l ih=>
  intro i
  obtain ⟨t',e⟩:=yn (G:=G) t (d+bJ kd i)
  obtain ⟨l',e'⟩:=ih (i+1)
  grind [bh,aD]
theorem PT (d kd:Int): ∀ (l:List Tm),∃l',bk (ax G) (ax G) d kd l= .ok l':=by
 intro l
 induction l with
 |nil=>simp_all [bk]
 |cons t l ih=>
  obtain ⟨t',e⟩:=yn (G:=G) t (d+aw kd)
  grind [bk,aD]
theorem af9 (d kd:Int) (b:Br Tm): ∃o,eJ (ax G) (ax G) d kd b= .ok o:=by
 cases b with
 |mk f ks=>
  obtain ⟨ks',e⟩:=PT (G:=G) d kd ks
  rw [eJ,ax,aD]
  split<;>simp_all [aD]
theorem agd (d kd:Int): ∀ (l:List (Br Tm)),∃l',aU (ax G) (ax G) d kd l= .ok l':=by
 intro l
 induction l with
 |nil=>simp_all [aU]
 |cons b l ih=>
  obtain ⟨l',e'⟩:=ih
  obtain ⟨o,e⟩:=af9 (G:=G) d kd b
  grind [aU,aD]
theorem agc (d kd:Int): ∀ (a b:List (Br Tm)),aU fo fa d kd (a++b)=bE (aU fo fa d kd a) fun a'=>bE (aU fo fa d kd b) fun b'=> .ok (a'++b'):=by
 intro a
 induction a with
 |nil=>intro b;rw [List.nil_append,aU,aD];cases aU fo fa d kd b<;>rfl
 |cons x a ih=>
  intro b
  rw [List.cons_append,aU,aU,ih]
  cases eJ fo fa d kd x with
  |error e=>rfl
  |ok o=>
   rw [aD,aD]
   cases aU fo fa d kd a with
   |error e=>rfl
   |ok a'=>
    rw [aD,aD]
    cases aU fo fa d kd b with
    |error e=>rfl
    |ok b'=>grind [aD]
theorem agf (hfa: ∀d f g,RF f→fa d f= .ok g→RF g) (hG: ∀d f,RF f→((G d f).length=0↔f.length=0)) (t:Tm): ∀d,RowsT t→bE (aP fo fa d t) (aP (ax G) (ax G) d)=aP (cD fo G) (cD fa G) d t:=by
 induction t using jm with
 |h kd n nm r ks sys ih1 ih2=>
  intro d hrows
  rw [RowsT] at hrows
  obtain ⟨_,hrk,hrs⟩:=hrows
  have hk: ∀ {l:List Tm} {i:Nat},(∀x∈l,∀d,RowsT x→bE (aP fo fa d x) (aP (ax G) (ax G) d)=aP (cD fo G) (cD fa G) d x)→dh l→bE (bh fo fa d kd i l) (bh (ax G) (ax G) d kd i)=bh (cD fo G) (cD fa G) d kd i l:=by
   intro l
   induction l with
   |nil=>grind [bh,aD]
   |cons t l ih=>
    intro i h hr
    rw [dh] at hr
    have h1:=h t (by simp) (d+bJ kd i) hr.1
    have h2:=ih (i:=i+1) (fun x hx=>h x (by simp [hx])) hr.2
    rw [bh,bh,←h1,←h2]
    cases aP fo fa (d+bJ kd i) t with
    |error e=>rfl
    |ok t'=>
     rw [aD,aD]
     obtain ⟨t'',e⟩:=yn (G:=G) t' (d+bJ kd i)
     rw [e,aD]
     cases bh fo fa d kd (i+1) l with
     |error e=>rfl
     |ok l'=>
      grind [aD,bh]
  have hm: ∀ {l:List Tm},(∀x∈l,∀d,RowsT x→bE (aP fo fa d x) (aP (ax G) (ax G) d)=aP (cD fo G) (cD fa G) d x)→dh l→bE (bk fo fa d kd l) (bk (ax G) (ax G) d kd)=bk (cD fo G) (cD fa G) d kd l:=by
   intro l
   induction l with
   |nil=>grind [bk,aD]
   |cons t l ih=>
    intro h hr
    rw [dh] at hr
    have h1:=h t (by simp) (d+aw kd) hr.1
    have h2:=ih (fun x hx=>h x (by simp [hx])) hr.2
    rw [bk,bk,←h1,←h2]
    cases aP fo fa (d+aw kd) t with
    |error e=>rfl
    |ok t'=>
     rw [aD,aD]
     obtain ⟨t'',e⟩:=yn (G:=G) t' (d+aw kd)
     rw [e,aD]
     cases bk fo fa d kd l with
     |error e=>rfl
     |ok l'=>
      grind [aD,bk]
  have hb: ∀ {b:Br Tm},(∀x∈b.kids,∀d,RowsT x→bE (aP fo fa d x) (aP (ax G) (ax G) d)=aP (cD fo G) (cD fa G) d x)→kT b→bE (eJ fo fa d kd b) (aU (ax G) (ax G) d kd)=eJ (cD fo G) (cD fa G) d kd b:=by
   intro b h hr
   cases b with
   |mk f ks'=>
    rw [kT] at hr
    have h2:=hm h hr.2
    rw [eJ,eJ]
    show _=bE (bE (fa d f) fun m=> .ok (G d m)) _
    cases hf:fa d f with
    |error e=>rfl
    |ok f'=>
     rw [aD,aD,aD]
     have hg:=hG d f' (hfa d f f' hr.1 hf)
     by_cases h0:f'.length=0
     ·grind [aD,aU]
     ·rw [if_neg h0,if_neg (fun h=>h0 (hg.1 h)),←h2]
      cases bk fo fa d kd ks' with
      |error e=>rfl
      |ok l'=>
       rw [aD,aD,aD,aU,eJ]
       show bE (bE (.ok (G d f')) _) _=_
       rw [aD,if_neg (fun h=>h0 (hg.1 h))]
       obtain ⟨l'',e⟩:=PT (G:=G) d kd l'
       grind [aD,aU]
  have hs: ∀ {l:List (Br Tm)},(∀b∈l,∀x∈b.kids,∀d,RowsT x→bE (aP fo fa d x) (aP (ax G) (ax G) d)=aP (cD fo G) (cD fa G) d x)→dR l→bE (aU fo fa d kd l) (aU (ax G) (ax G) d kd)=aU (cD fo G) (cD fa G) d kd l:=by
   intro l
   induction l with
   |nil=>grind [aU,aD]
   |cons b l ih=>
    intro h hr
    rw [dR] at hr
    have h1:=hb (h b (by simp)) hr.1
    have h2:=ih (fun b hb=>h b (by simp [hb])) hr.2
    rw [aU,aU,←h1,←h2]
    cases eJ fo fa d kd b with
    |error e=>rfl
    |ok o=>
     rw [aD,aD]
     obtain ⟨o',e⟩:=agd (G:=G) d kd o
     rw [e,aD]
     cases aU fo fa d kd l with
     |error e=>rfl
     |ok l'=>
      grind [aD,agc]
  rw [aP,aP,←hk (i:=0) ih1 hrk,←hs ih2 hrs]
  have hrow:(if kd=14 then cD fa G d r else cD fo G d r)=bE (if kd=14 then fa d r else fo d r) fun m=> .ok (G d m):=by split<;>rfl
  rw [hrow]
  cases (if kd=14 then fa d r else fo d r) with
  |error e=>rfl
  |ok r'=>
   rw [aD,aD,aD]
   cases bh fo fa d kd 0 ks with
   |error e=>rfl
   |ok ks'=>
    rw [aD,aD]
    obtain ⟨ks'',ek⟩:=aga (G:=G) d kd ks' 0
    rw [ek,aD]
    cases aU fo fa d kd sys with
    |error e=>rfl
    |ok sys'=>
     grind [aD,aP,ax]
end
end Go.Proofs.YtehekgbehghgdaaGreatDoor
