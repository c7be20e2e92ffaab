/- Part 5 of a proof: the sources, with their names and remarks, lie in wip/. -/
import Derived.Test.YtgajalidbabccaaGreatDoorX4
namespace Go.Proofs.YtgajalidbabccaaGreatDoor
open Go PI
set_option linter.unusedVariables false
set_option maxRecDepth 100000
noncomputable section
def NK {S:Type} (k:Nat):Rw S:=ae IK xn fun a_have c κ=>aa k (vg k a_have c) (aq κ)
def Ue {S:Type} (k:Nat):Fx S:=fp 21 [(236,DG k),(283,NJ k)] [] k Tryz.f282 0
theorem Z4 {S:Type} (o:Obj) (ho:ad o) (k:Nat):Tl o 282 (NK k:Rw S):=af (Ue k) ⟨HS o ho k,Z3 o ho k,trivial⟩ Tryz.func282 (by kernel_rfl) fun a_have c κ x h=>Eq.trans (by kernel_rfl) (ag h)
def NM {S:Type} (k:Nat):Rw S:=ae abB xn fun l a_from κ=>aa k (AC k l a_from) (aq κ)
def zJ {S:Type} (k:Nat):Fx S:=fp 33 [(282,NK k)] [(2,aE [1,2,13,14,15] [],am 4 5)] k Tryz.f142 0
def KD (l:List Cl) (v1:List Cl) (v15:Int):St UU:=⟨[(1,(sC v1)),(2,(.func 282 [] [])),(13,(sC l)),(14,(.int .i64 (l.length:Int))),(15,(iI v15))],[],[],[]⟩
section
variable {S:Type} (k:Nat) (l a_from:List Cl) (κ:Out UU→Option S)
theorem WB: ∀n v1 v15,(zJ k).lp κ 2 [] n (KD l v1 v15)=nL k (aq κ) l n v1 v15:=aA (tP k (aq κ) l) rfl (fun _=>rfl) fun r v1 v15=>by kernel_rfl
end
theorem Z6 {S:Type} (o:Obj) (ho:ad o) (k:Nat):Tl o 142 (NM k:Rw S):=af (zJ k) ⟨Z4 o ho k,trivial⟩ Tryz.func142 (by kernel_rfl) fun l a_from κ x h=>Eq.trans (b:=EA k (aq κ) (fun v1 v15=>(zJ k).lp κ 2 [] k (KD l v1 v15)) l a_from) (by kernel_rfl) (Eq.trans (by simp only [WB];rfl) (ag h))
def DH {S:Type} (k:Nat):Rw S:=ae dI xn fun f κ=>aa k (mR k f) (aq κ)
def Ug {S:Type} (k:Nat):Fx S:=fp 9 [(29,x_ k),(142,NM k)] [] k Tryz.f237 0
theorem HT {S:Type} (o:Obj) (ho:ad o) (k:Nat):Tl o 237 (DH k:Rw S):=af (Ug k) ⟨Bj o ho k,Z6 o ho k,trivial⟩ Tryz.func237 (by kernel_rfl) fun f κ x h=>Eq.trans (by kernel_rfl) (ag h)
def NN {S:Type} (k:Nat):Rw S:=ae dI xn fun f κ=>aa k (vc k f) (aq κ)
def Uh {S:Type} (k:Nat):Fx S:=fp 15 [(141,xU k),(237,DH k)] [] k Tryz.f286 0
theorem Z7 {S:Type} (o:Obj) (ho:ad o) (k:Nat):Tl o 286 (NN k:Rw S):=af (Uh k) ⟨Bd o ho k,HT o ho k,trivial⟩ Tryz.func286 (by kernel_rfl) fun f κ x h=>Eq.trans (by kernel_rfl) (ag h)
def NO {S:Type} (k:Nat):Rw S:=ae dI xn fun f κ=>aa k (u5 k f) (aq κ)
def Ui {S:Type} (k:Nat):Fx S:=fp 18 [(240,DF k),(286,NN k)] [] k Tryz.f242 0
theorem Z8 {S:Type} (o:Obj) (ho:ad o) (k:Nat):Tl o 242 (NO k:Rw S):=af (Ui k) ⟨HR o ho k,Z7 o ho k,trivial⟩ Tryz.func242 (by kernel_rfl) fun f κ x h=>Eq.trans (by kernel_rfl) (ag h)
def NP {S:Type} (k:Nat):Rw S:=ae wG xn fun f i a_r κ=>aa k (u6 k f i a_r) (aq κ)
def pj {S:Type} (k:Nat):Fx S:=fp 92 [(140,mg k),(149,oH k),(205,oG k),(233,xQ k),(239,DD k),(240,DF k),(241,NI k),(242,NO k),(243,DA k)] [(5,aE [1,2,8,27,28,29] [],am 6 23),(1000018,aE [1,2,8,11,13,27,28,29] [],am 16 63895)] k Tryz.f153 0
def sm (i:Int) (a_r f:List Cl) (v29:Int) (v8:List Cl):St UU:=⟨[(1,(iI i)),(2,(sC a_r)),(8,(sC v8)),(27,(sC f)),(28,(.int .i64 (f.length:Int))),(29,(iI v29))],[],[],[]⟩
def KE (i:Int) (a_r f:List Cl) (v29:Int) (v8:List Cl) (g11:List Cl) (v13:Int):St UU:=⟨[(1,(iI i)),(2,(sC a_r)),(8,(sC v8)),(11,(sC g11)),(13,(iI v13)),(27,(sC f)),(28,(.int .i64 (f.length:Int))),(29,(iI v29))],[],[],[]⟩
section
variable {S:Type} (k:Nat) (f:List Cl) (i:Int) (a_r:List Cl) (κ:Out UU→Option S)
theorem WD (v29 v8 κ0): ∀n g11 v13,(pj k).jn κ 1000018 [κ0] n (KE i a_r f v29 v8 g11 v13)=nE k (aq κ) (fun v29 v8=>κ0 (sm i a_r f v29 v8)) i a_r f v29 v8 n g11 v13:=Iu (tJ k (aq κ) i a_r f v29 v8 (fun v29 v8=>κ0 (sm i a_r f v29 v8))) rfl (fun _=>rfl) (fun g11 v13=>by kernel_rfl)
theorem WC: ∀n v29 v8,(pj k).lp κ 5 [] n (sm i a_r f v29 v8)=j4 k (aq κ) i a_r f n v29 v8:=aA (fun own=>pr k (aq κ) i a_r f (fun v29 v8 g11 v13=>nE k (aq κ) own i a_r f v29 v8 k g11 v13) own) rfl (fun _=>rfl) fun r v29 v8=>Eq.trans (b:=pr k (aq κ) i a_r f (fun v29 v8 g11 v13=>(pj k).jn κ 1000018 [r] k (KE i a_r f v29 v8 g11 v13)) (fun v29 v8=>r (sm i a_r f v29 v8)) v29 v8) (by kernel_rfl) (by simp only [WD])
end
theorem Z9 {S:Type} (o:Obj) (ho:ad o) (k:Nat):Tl o 153 (NP k:Rw S):=af (pj k) ⟨nn o ho k,qY o ho k,qX o ho k,Ba o ho k,HP o ho k,HR o ho k,Z2 o ho k,Z8 o ho k,HM o ho k,trivial⟩ Tryz.func153 (by kernel_rfl) fun f i a_r κ x h=>Eq.trans (b:=Es k (aq κ) (fun v29 v8=>(pj k).lp κ 5 [] k (sm i a_r f v29 v8)) f i a_r) (by kernel_rfl) (Eq.trans (by simp only [WC];rfl) (ag h))
def DI {S:Type} (k:Nat):Rw S:=ae BN ajL fun f depth c0 c1 κ=>aa k (qj k f depth c0 c1) (afi c0 c1 κ)
def Uj {S:Type} (k:Nat):Fx S:=fp 38 [(75,mh k),(149,oH k),(150,xR k),(151,DC k),(153,NP k)] [] k Tryz.f148 3
theorem HU {S:Type} (o:Obj) (ho:ad o) (k:Nat):Tl o 148 (DI k:Rw S):=af (Uj k) ⟨np o ho k,qY o ho k,Bb o ho k,HO o ho k,Z9 o ho k,trivial⟩ Tryz.func148 (by kernel_rfl) fun f depth c0 c1 κ x h=>Eq.trans (by kernel_rfl) (ag h)
def NQ {S:Type} (k:Nat):Rw S:=ae d6 xn fun i κ=>aa k (va k i) (aq κ)
def Uk {S:Type} (k:Nat):Fx S:=fp 12 [(221,xZ k),(222,sY k)] [] k Tryz.f234 0
theorem Z_ {S:Type} (o:Obj) (ho:ad o) (k:Nat):Tl o 234 (NQ k:Rw S):=af (Uk k) ⟨Bh o ho k,vZ o ho k,trivial⟩ Tryz.func234 (by kernel_rfl) fun i κ x h=>Eq.trans (by kernel_rfl) (ag h)
def NR {S:Type} (k:Nat):Rw S:=ae gb xn fun f g κ=>aa k (ld k f g) (aq κ)
def Ul {S:Type} (k:Nat):Fx S:=fp 14 [(146,gx k)] [] k Tryz.f238 0
theorem aaa {S:Type} (o:Obj) (ho:ad o) (k:Nat):Tl o 238 (NR k:Rw S):=af (Ul k) ⟨gY o ho k,trivial⟩ Tryz.func238 (by kernel_rfl) fun f g κ x h=>Eq.trans (by kernel_rfl) (ag h)
def NS {S:Type} (k:Nat):Rw S:=ae abC tt fun a_have c c0 c1 κ=>aa k (ve k a_have c c0 c1) (sG c0 c1 κ)
def Um {S:Type} (k:Nat):Fx S:=fp 63 [(149,oH k),(233,xQ k),(236,DG k),(237,DH k),(238,NR k)] [] k Tryz.f235 2
theorem aab {S:Type} (o:Obj) (ho:ad o) (k:Nat):Tl o 235 (NS k:Rw S):=af (Um k) ⟨qY o ho k,Ba o ho k,HS o ho k,HT o ho k,aaa o ho k,trivial⟩ Tryz.func235 (by kernel_rfl) fun a_have c c0 c1 κ x h=>Eq.trans (by kernel_rfl) (ag h)
def NT {S:Type} (k:Nat):Rw S:=ae abD tt fun l a_from c0 c1 κ=>aa k (AB k l a_from c0 c1) (sG c0 c1 κ)
def zK {S:Type} (k:Nat):Fx S:=fp 33 [(235,NS k)] [(2,aE [1,2,13,14,15] [(1000000,1),(1000001,1)],am 4 5)] k Tryz.f142 2
def KF (c0:Int) (c1 l:List Cl) (v1:List Cl) (v15:Int):St UU:=⟨[(1,(sC v1)),(2,(.func 235 [] [(pt 1000000),(pt 1000001)])),(13,(sC l)),(14,(.int .i64 (l.length:Int))),(15,(iI v15))],[(1000000,bI c0),(1000001,.cells [(sC c1)])],[],[]⟩
section
variable {S:Type} (k:Nat) (l a_from:List Cl) (c0:Int) (c1:List Cl) (κ:Out UU→Option S)
theorem WE: ∀n v1 v15,(zK k).lp κ 2 [] n (KF c0 c1 l v1 v15)=nJ k (sG c0 c1 κ) c0 c1 l n v1 v15:=aA (tO k (sG c0 c1 κ) c0 c1 l) rfl (fun _=>rfl) fun r v1 v15=>by kernel_rfl
end
theorem aac {S:Type} (o:Obj) (ho:ad o) (k:Nat):Tl o 142 (NT k:Rw S):=af (zK k) ⟨aab o ho k,trivial⟩ Tryz.func142 (by kernel_rfl) fun l a_from c0 c1 κ x h=>Eq.trans (b:=Ez k (sG c0 c1 κ) (fun v1 v15=>(zK k).lp κ 2 [] k (KF c0 c1 l v1 v15)) l a_from c0 c1) (by kernel_rfl) (Eq.trans (by simp only [WE];rfl) (ag h))
def Lp {S:Type} (k:Nat):Rw S:=ae wG xn fun f i a_r κ=>aa k (vd k f i a_r) (aq κ)
def Rx {S:Type} (k:Nat):Fx S:=fp 32 [(141,xU k),(142,NT k),(143,xV k),(234,NQ k)] [] k Tryz.f152 0
theorem XM {S:Type} (o:Obj) (ho:ad o) (k:Nat):Tl o 152 (Lp k:Rw S):=af (Rx k) ⟨Bd o ho k,aac o ho k,Be o ho k,Z_ o ho k,trivial⟩ Tryz.func152 (by kernel_rfl) fun f i a_r κ x h=>Eq.trans (by kernel_rfl) (ag h)
def Lq {S:Type} (k:Nat):Rw S:=ae BN Rp fun f depth c0 c1 κ=>aa k (uY k f depth c0 c1) (afj c0 c1 κ)
def Ry {S:Type} (k:Nat):Fx S:=fp 38 [(75,mh k),(149,oH k),(150,xR k),(151,DC k),(152,Lp k)] [] k Tryz.f148 3
theorem XN {S:Type} (o:Obj) (ho:ad o) (k:Nat):Tl o 148 (Lq k:Rw S):=af (Ry k) ⟨np o ho k,qY o ho k,Bb o ho k,HO o ho k,XM o ho k,trivial⟩ Tryz.func148 (by kernel_rfl) fun f depth c0 c1 κ x h=>Eq.trans (by kernel_rfl) (ag h)
def Lr {S:Type} (k:Nat):Rw S:=ae BO FI fun t depth c0 c1 κ=>aa k (uZ k t depth c0 c1) (afk c0 c1 κ)
def Rz {S:Type} (k:Nat):Fx S:=fp 27 [(148,l_ (re BN Rp) (Lq k) (DI k))] [] k Tryz.f154 4
theorem XO {S:Type} (o:Obj) (ho:ad o) (k:Nat):Tl o 154 (Lr k:Rw S):=af (Rz k) ⟨sA (XN o ho k) (HU o ho k),trivial⟩ Tryz.func154 (by kernel_rfl) fun t depth c0 c1 κ x h=>Eq.trans (by kernel_rfl) (ag h)
def C1 {S:Type} (k:Nat):Rw S:=ae IL ajM fun i c0 κ=>aa k (qk k i c0) (afl c0 κ)
def RA {S:Type} (k:Nat):Fx S:=fp 14 [(49,hU k)] [] k Tryz.f156 1
theorem Hm {S:Type} (o:Obj) (ho:ad o) (k:Nat):Tl o 156 (C1 k:Rw S):=af (RA k) ⟨iL o ho k,trivial⟩ Tryz.func156 (by kernel_rfl) fun i c0 κ x h=>Eq.trans (by kernel_rfl) (ag h)
def C2 {S:Type} (k:Nat):Rw S:=ae IL bm fun p c0 κ=>aa k (ql k p c0) (afm c0 κ)
def RB {S:Type} (k:Nat):Fx S:=fp 5 [] [] k Tryz.f157 1
theorem Hn {S:Type} (o:Obj) (ho:ad o) (k:Nat):Tl o 157 (C2 k:Rw S):=af (RB k) trivial Tryz.func157 (by kernel_rfl) fun p c0 κ x h=>Eq.trans (by kernel_rfl) (ag h)
def oD {S:Type} (hd:cx S):Rw S:=ae BO FI fun t depth c0 c1 κ=>hd t depth c0 c1 (xp c0 c1 κ)
def Ls {S:Type} (hd:cx S) (k:Nat):Rw S:=ae IM Rr fun l depth c0 c1 c4 κ=>aa k (Ax hd k l depth c0 c1 c4) (xq c0 c1 c4 κ)
def yO {S:Type} (hd:cx S) (k:Nat):Fx S:=fp 42 [(77,oD hd),(157,C2 k)] [(3,⟨[(2,.none),(3,.none),(4,.none),(10,some (100010,true)),(15,.none),(16,.none),(17,.none)],[(4,[.none,.none]),(1000000,[.none]),(1000001,[.none]),(1000002,[.none]),(1000003,[.none]),(1000004,[.none])]⟩,am 5 11)] k Tryz.f155 5
def I_ (c0:Int) (c1:List Cl) (c4:Int) (l:List Tm) (depth:Int) (out10:List Tm) (v17:Int):St UU:=⟨[(2,(iI depth)),(3,(.func 157 [] [(pt 1000004)])),(4,(pt 4)),(10,(.own 100010 0)),(15,(sT l)),(16,(.int .i64 (l.length:Int))),(17,(iI v17))],[(4,.cells [(.func 148 [] [(pt 1000000),(pt 1000001),(pt 1000002)]),(.func 148 [] [(pt 1000000),(pt 1000001),(pt 1000003)])]),(1000000,bI c0),(1000001,.cells [(sC c1)]),(1000002,.cells [(.func 152 [] [])]),(1000003,.cells [(.func 153 [] [])]),(1000004,bI c4)],[(100010,⟨0,ET.T,out10⟩)],[(100010,.wr)]⟩
section
variable {S:Type} (hd:cx S) (k:Nat) (l:List Tm) (depth c0:Int) (c1:List Cl) (c4:Int) (κ:Out UU→Option S)
theorem Ux: ∀n out10 v17,(yO hd k).lp κ 3 [] n (I_ c0 c1 c4 l depth out10 v17)=jY hd k (xq c0 c1 c4 κ) c0 c1 c4 l depth n out10 v17:=aA (tF hd k (xq c0 c1 c4 κ) c0 c1 c4 l depth) rfl (fun _=>rfl) fun r out10 v17=>by kernel_rfl
end
theorem XP {S:Type} (o:Obj) (ho:ad o) (hd:cx S) (Hd:Tl o 77 (oD hd)) (k:Nat):Tl o 155 (Ls hd k:Rw S):=af (yO hd k) ⟨Hd,Hn o ho k,trivial⟩ Tryz.func155 (by kernel_rfl) fun l depth c0 c1 c4 κ x h=>Eq.trans (b:=Ei hd k (xq c0 c1 c4 κ) (fun out10 v17=>(yO hd k).lp κ 3 [] k (I_ c0 c1 c4 l depth out10 v17)) l depth c0 c1 c4) (by kernel_rfl) (Eq.trans (by simp only [Ux];rfl) (ag h))
def Lt {S:Type} (hd:cx S) (k:Nat):Rw S:=ae abE ajN fun l depth c0 c1 c4 κ=>aa k (Ay hd k l depth c0 c1 c4) (xt c0 c1 c4 κ)
def yP {S:Type} (hd:cx S) (k:Nat):Fx S:=fp 42 [(77,oD hd),(156,C1 k)] [(3,⟨[(2,.none),(3,.none),(4,.none),(10,some (100010,true)),(15,.none),(16,.none),(17,.none)],[(4,[.none,.none]),(1000000,[.none]),(1000001,[.none]),(1000002,[.none]),(1000003,[.none]),(1000004,[.none,.none,.none,.none,.none,.none])]⟩,am 5 11)] k Tryz.f155 5
def Ja (c0:Int) (c1:List Cl) (c4:Tm) (l:List Tm) (depth:Int) (out10:List Tm) (v17:Int):St UU:=⟨[(2,(iI depth)),(3,(.func 156 [] [(pt 1000004)])),(4,(pt 4)),(10,(.own 100010 0)),(15,(sT l)),(16,(.int .i64 (l.length:Int))),(17,(iI v17))],[(4,.cells [(.func 148 [] [(pt 1000000),(pt 1000001),(pt 1000002)]),(.func 148 [] [(pt 1000000),(pt 1000001),(pt 1000003)])]),(1000000,bI c0),(1000001,.cells [(sC c1)]),(1000002,.cells [(.func 152 [] [])]),(1000003,.cells [(.func 153 [] [])]),(1000004,bT c4)],[(100010,⟨0,ET.T,out10⟩)],[(100010,.wr)]⟩
section
variable {S:Type} (hd:cx S) (k:Nat) (l:List Tm) (depth c0:Int) (c1:List Cl) (c4:Tm) (κ:Out UU→Option S)
theorem Uy: ∀n out10 v17,(yP hd k).lp κ 3 [] n (Ja c0 c1 c4 l depth out10 v17)=jZ hd k (xt c0 c1 c4 κ) c0 c1 c4 l depth n out10 v17:=aA (tG hd k (xt c0 c1 c4 κ) c0 c1 c4 l depth) rfl (fun _=>rfl) fun r out10 v17=>by kernel_rfl
end
theorem XQ {S:Type} (o:Obj) (ho:ad o) (hd:cx S) (Hd:Tl o 77 (oD hd)) (k:Nat):Tl o 155 (Lt hd k:Rw S):=af (yP hd k) ⟨Hd,Hm o ho k,trivial⟩ Tryz.func155 (by kernel_rfl) fun l depth c0 c1 c4 κ x h=>Eq.trans (b:=Ej hd k (xt c0 c1 c4 κ) (fun out10 v17=>(yP hd k).lp κ 3 [] k (Ja c0 c1 c4 l depth out10 v17)) l depth c0 c1 c4) (by kernel_rfl) (Eq.trans (by simp only [Uy];rfl) (ag h))
def yN {S:Type} (hd:cx S) (k:Nat):Fx S:=fp 98 [(148,DI k),(154,Lr k),(155,l_ (re IM Rr) (Ls hd k) (Lt hd k))] [(13,⟨[(2,.none),(3,.none),(6,.none),(8,.none),(10,.none),(53,.none),(54,.none),(55,.none)],[(3,[.none,.none]),(6,[.none,.none,.none,some (200387,true),some (200388,true),some (200389,true)]),(8,[.none,.none,.none,.none,.none,some (200517,true)]),(10,[.none]),(1000000,[.none]),(1000001,[.none]),(1000002,[.none]),(1000003,[.none])]⟩,am 11 767)] k Tryz.f77 4
def I9 (c0:Int) (c1:List Cl) (t:Tm) (r1:List Cl×Int) (r2:List Tm×Int) (depth:Int) (b10_0:Int) (b8_5:List (Br Tm)) (v55:Int):St UU:=⟨[(2,(iI depth)),(3,(pt 3)),(6,(pt 6)),(8,(pt 8)),(10,(pt 10)),(53,(sB t.sys)),(54,(.int .i64 (t.sys.length:Int))),(55,(iI v55))],[(3,.cells [(.func 148 [] [(pt 1000000),(pt 1000001),(pt 1000002)]),(.func 148 [] [(pt 1000000),(pt 1000001),(pt 1000003)])]),(6,.cells [(iI 0),(iI 0),(.str ByteArray.empty),(.own 200387 0),(.own 200388 0),(.own 200389 0)]),(8,.cells [(iI t.kind),(iI t.n),(.str t.name),(sC r1.1),(sT r2.1),(.own 200517 0)]),(10,bI b10_0),(1000000,bI c0),(1000001,.cells [(sC c1)]),(1000002,.cells [(.func 152 [] [])]),(1000003,.cells [(.func 153 [] [])])],[(200517,⟨0,ET.B,b8_5⟩),(200389,⟨0,ET.B,([]:List (Br Tm))⟩),(200388,⟨0,ET.T,([]:List Tm)⟩),(200387,⟨0,ET.C,([]:List Cl)⟩)],[(200517,.wr),(200389,.wr),(200388,.wr),(200387,.wr)]⟩
section
variable {S:Type} (hd:cx S) (k:Nat) (t:Tm) (depth c0:Int) (c1:List Cl) (κ:Out UU→Option S)
theorem Uw (r1 r2): ∀n b10_0 b8_5 v55,(yN hd k).lp κ 13 [] n (I9 c0 c1 t r1 r2 depth b10_0 b8_5 v55)=eV hd k (xp c0 c1 κ) c0 c1 t r1 r2 depth n b10_0 b8_5 v55:=dT (tH hd k (xp c0 c1 κ) c0 c1 t r1 r2 depth) rfl (fun _=>rfl) fun r b10_0 b8_5 v55=>by kernel_rfl
end
theorem Bw {S:Type} (o:Obj) (ho:ad o): ∀k:Nat,Tl o 77 (oD (dz k:cx S))
 |0=>dx fun t depth c0 c1 κ x h=>by cases h
 |k+1=>af (yN (dz k) k) ⟨HU o ho k,XO o ho k,sA (XP o ho (dz k) (Bw o ho k) k) (XQ o ho (dz k) (Bw o ho k) k),trivial⟩ Tryz.func77 (by kernel_rfl) fun t depth c0 c1 κ x h=>Eq.trans (b:=Eo (dz k) k (xp c0 c1 κ) (fun r1 r2 b10_0 b8_5 v55=>(yN (dz k) k).lp κ 13 [] k (I9 c0 c1 t r1 r2 depth b10_0 b8_5 v55)) t depth c0 c1) (by kernel_rfl) (Eq.trans (by simp only [Uw];rfl) h)
def Lu {S:Type} (k:Nat):Rw S:=ae d6 xn fun i κ=>aa k (Aq k i) (afn κ)
def RD {S:Type} (k:Nat):Fx S:=fp 8 [] [] k Tryz.f78 0
theorem XR {S:Type} (o:Obj) (ho:ad o) (k:Nat):Tl o 78 (Lu k:Rw S):=af (RD k) trivial Tryz.func78 (by kernel_rfl) fun i κ x h=>Eq.trans (by kernel_rfl) (ag h)
def Lv {S:Type} (k:Nat):Rw S:=ae jV xn fun s i κ=>aa k (mT k s i) (bG κ)
def RE {S:Type} (k:Nat):Fx S:=fp 24 [(232,sS k),(244,Dz k)] [] k Tryz.f159 0
theorem XS {S:Type} (o:Obj) (ho:ad o) (k:Nat):Tl o 159 (Lv k:Rw S):=af (RE k) ⟨vX o ho k,HL o ho k,trivial⟩ Tryz.func159 (by kernel_rfl) fun s i κ x h=>Eq.trans (by kernel_rfl) (ag h)
def C3 {S:Type} (k:Nat):Rw S:=ae abF bm fun f depth c0 κ=>aa k (mN k f depth c0) (sH c0 κ)
def yQ {S:Type} (k:Nat):Fx S:=fp 37 [(146,gx k),(159,Lv k)] [(3,⟨[(1,.none),(2,.none),(7,some (100007,true)),(10,.none),(11,.none),(12,.none)],[(1000000,[.none])]⟩,am 5 11)] k Tryz.f158 1
def Jb (c0 depth:Int) (f:List Cl) (v12:Int) (out7:List Cl):St UU:=⟨[(1,(iI depth)),(2,(pt 1000000)),(7,(.own 100007 0)),(10,(sC f)),(11,(.int .i64 (f.length:Int))),(12,(iI v12))],[(1000000,bI c0)],[(100007,⟨0,ET.C,out7⟩)],[(100007,.wr)]⟩
section
variable {S:Type} (k:Nat) (f:List Cl) (depth c0:Int) (κ:Out UU→Option S)
theorem Uz: ∀n v12 out7,(yQ k).lp κ 3 [] n (Jb c0 depth f v12 out7)=nD k (sH c0 κ) c0 depth f n v12 out7:=aA (tB k (sH c0 κ) c0 depth f) rfl (fun _=>rfl) fun r v12 out7=>by kernel_rfl
end
theorem Ho {S:Type} (o:Obj) (ho:ad o) (k:Nat):Tl o 158 (C3 k:Rw S):=af (yQ k) ⟨gY o ho k,XS o ho k,trivial⟩ Tryz.func158 (by kernel_rfl) fun f depth c0 κ x h=>Eq.trans (b:=Ee k (sH c0 κ) (fun v12 out7=>(yQ k).lp κ 3 [] k (Jb c0 depth f v12 out7)) f depth c0) (by kernel_rfl) (Eq.trans (by simp only [Uz];rfl) (ag h))
def Lx {S:Type} (k:Nat):Rw S:=ae IN bm fun t depth c0 κ=>aa k (u3 k t depth c0) (sH c0 κ)
def RH {S:Type} (k:Nat):Fx S:=fp 27 [(158,C3 k)] [] k Tryz.f154 1
theorem XU {S:Type} (o:Obj) (ho:ad o) (k:Nat):Tl o 154 (Lx k:Rw S):=af (RH k) ⟨Ho o ho k,trivial⟩ Tryz.func154 (by kernel_rfl) fun t depth c0 κ x h=>Eq.trans (by kernel_rfl) (ag h)
def oE {S:Type} (hd:cz S):Rw S:=ae IN bm fun t depth c0 κ=>hd t depth c0 (xu c0 κ)
def Ly {S:Type} (hd:cz S) (k:Nat):Rw S:=ae IP yI fun l depth c0 c1 κ=>aa k (Av hd k l depth c0 c1) (xv c0 c1 κ)
def yS {S:Type} (hd:cz S) (k:Nat):Fx S:=fp 42 [(77,oE hd),(157,C2 k)] [(3,⟨[(2,.none),(3,.none),(4,.none),(10,some (100010,true)),(15,.none),(16,.none),(17,.none)],[(4,[.none,.none]),(1000000,[.none]),(1000001,[.none])]⟩,am 5 11)] k Tryz.f155 2
def Jd (c0 c1:Int) (l:List Tm) (depth:Int) (out10:List Tm) (v17:Int):St UU:=⟨[(2,(iI depth)),(3,(.func 157 [] [(pt 1000001)])),(4,(pt 4)),(10,(.own 100010 0)),(15,(sT l)),(16,(.int .i64 (l.length:Int))),(17,(iI v17))],[(4,.cells [(.func 158 [] [(pt 1000000)]),(.func 158 [] [(pt 1000000)])]),(1000000,bI c0),(1000001,bI c1)],[(100010,⟨0,ET.T,out10⟩)],[(100010,.wr)]⟩
section
variable {S:Type} (hd:cz S) (k:Nat) (l:List Tm) (depth c0 c1:Int) (κ:Out UU→Option S)
theorem UB: ∀n out10 v17,(yS hd k).lp κ 3 [] n (Jd c0 c1 l depth out10 v17)=jW hd k (xv c0 c1 κ) c0 c1 l depth n out10 v17:=aA (tC hd k (xv c0 c1 κ) c0 c1 l depth) rfl (fun _=>rfl) fun r out10 v17=>by kernel_rfl
end
theorem XV {S:Type} (o:Obj) (ho:ad o) (hd:cz S) (Hd:Tl o 77 (oE hd)) (k:Nat):Tl o 155 (Ly hd k:Rw S):=af (yS hd k) ⟨Hd,Hn o ho k,trivial⟩ Tryz.func155 (by kernel_rfl) fun l depth c0 c1 κ x h=>Eq.trans (b:=Eg hd k (xv c0 c1 κ) (fun out10 v17=>(yS hd k).lp κ 3 [] k (Jd c0 c1 l depth out10 v17)) l depth c0 c1) (by kernel_rfl) (Eq.trans (by simp only [UB];rfl) (ag h))
def Lz {S:Type} (hd:cz S) (k:Nat):Rw S:=ae abG ajO fun l depth c0 c1 κ=>aa k (Aw hd k l depth c0 c1) (xw c0 c1 κ)
def yT {S:Type} (hd:cz S) (k:Nat):Fx S:=fp 42 [(77,oE hd),(156,C1 k)] [(3,⟨[(2,.none),(3,.none),(4,.none),(10,some (100010,true)),(15,.none),(16,.none),(17,.none)],[(4,[.none,.none]),(1000000,[.none]),(1000001,[.none,.none,.none,.none,.none,.none])]⟩,am 5 11)] k Tryz.f155 2
def Je (c0:Int) (c1:Tm) (l:List Tm) (depth:Int) (out10:List Tm) (v17:Int):St UU:=⟨[(2,(iI depth)),(3,(.func 156 [] [(pt 1000001)])),(4,(pt 4)),(10,(.own 100010 0)),(15,(sT l)),(16,(.int .i64 (l.length:Int))),(17,(iI v17))],[(4,.cells [(.func 158 [] [(pt 1000000)]),(.func 158 [] [(pt 1000000)])]),(1000000,bI c0),(1000001,bT c1)],[(100010,⟨0,ET.T,out10⟩)],[(100010,.wr)]⟩
section
variable {S:Type} (hd:cz S) (k:Nat) (l:List Tm) (depth c0:Int) (c1:Tm) (κ:Out UU→Option S)
theorem UC: ∀n out10 v17,(yT hd k).lp κ 3 [] n (Je c0 c1 l depth out10 v17)=jX hd k (xw c0 c1 κ) c0 c1 l depth n out10 v17:=aA (tD hd k (xw c0 c1 κ) c0 c1 l depth) rfl (fun _=>rfl) fun r out10 v17=>by kernel_rfl
end
theorem XW {S:Type} (o:Obj) (ho:ad o) (hd:cz S) (Hd:Tl o 77 (oE hd)) (k:Nat):Tl o 155 (Lz hd k:Rw S):=af (yT hd k) ⟨Hd,Hm o ho k,trivial⟩ Tryz.func155 (by kernel_rfl) fun l depth c0 c1 κ x h=>Eq.trans (b:=Eh hd k (xw c0 c1 κ) (fun out10 v17=>(yT hd k).lp κ 3 [] k (Je c0 c1 l depth out10 v17)) l depth c0 c1) (by kernel_rfl) (Eq.trans (by simp only [UC];rfl) (ag h))
def yR {S:Type} (hd:cz S) (k:Nat):Fx S:=fp 98 [(154,Lx k),(155,l_ (re IP yI) (Ly hd k) (Lz hd k)),(158,C3 k)] [(13,⟨[(2,.none),(3,.none),(6,.none),(8,.none),(10,.none),(53,.none),(54,.none),(55,.none)],[(3,[.none,.none]),(6,[.none,.none,.none,some (200387,true),some (200388,true),some (200389,true)]),(8,[.none,.none,.none,.none,.none,some (200517,true)]),(10,[.none]),(1000000,[.none])]⟩,am 11 767)] k Tryz.f77 1
def Jc (c0:Int) (t:Tm) (r1:List Cl×Int) (r2:List Tm×Int) (depth:Int) (b10_0:Int) (b8_5:List (Br Tm)) (v55:Int):St UU:=⟨[(2,(iI depth)),(3,(pt 3)),(6,(pt 6)),(8,(pt 8)),(10,(pt 10)),(53,(sB t.sys)),(54,(.int .i64 (t.sys.length:Int))),(55,(iI v55))],[(3,.cells [(.func 158 [] [(pt 1000000)]),(.func 158 [] [(pt 1000000)])]),(6,.cells [(iI 0),(iI 0),(.str ByteArray.empty),(.own 200387 0),(.own 200388 0),(.own 200389 0)]),(8,.cells [(iI t.kind),(iI t.n),(.str t.name),(sC r1.1),(sT r2.1),(.own 200517 0)]),(10,bI b10_0),(1000000,bI c0)],[(200517,⟨0,ET.B,b8_5⟩),(200389,⟨0,ET.B,([]:List (Br Tm))⟩),(200388,⟨0,ET.T,([]:List Tm)⟩),(200387,⟨0,ET.C,([]:List Cl)⟩)],[(200517,.wr),(200389,.wr),(200388,.wr),(200387,.wr)]⟩
section
variable {S:Type} (hd:cz S) (k:Nat) (t:Tm) (depth c0:Int) (κ:Out UU→Option S)
theorem UA (r1 r2): ∀n b10_0 b8_5 v55,(yR hd k).lp κ 13 [] n (Jc c0 t r1 r2 depth b10_0 b8_5 v55)=eW hd k (xu c0 κ) c0 t r1 r2 depth n b10_0 b8_5 v55:=dT (tI hd k (xu c0 κ) c0 t r1 r2 depth) rfl (fun _=>rfl) fun r b10_0 b8_5 v55=>by kernel_rfl
end
theorem Bx {S:Type} (o:Obj) (ho:ad o): ∀k:Nat,Tl o 77 (oE (dn k:cz S))
 |0=>dx fun t depth c0 κ x h=>by cases h
 |k+1=>af (yR (dn k) k) ⟨XU o ho k,sA (XV o ho (dn k) (Bx o ho k) k) (XW o ho (dn k) (Bx o ho k) k),Ho o ho k,trivial⟩ Tryz.func77 (by kernel_rfl) fun t depth c0 κ x h=>Eq.trans (b:=Ep (dn k) k (xu c0 κ) (fun r1 r2 b10_0 b8_5 v55=>(yR (dn k) k).lp κ 13 [] k (Jc c0 t r1 r2 depth b10_0 b8_5 v55)) t depth c0) (by kernel_rfl) (Eq.trans (by simp only [UA];rfl) h)
def oF {S:Type} (k:Nat):Rw S:=ae BM xn fun t i a_r κ=>aa k (gL k t i a_r) (dL κ)
def RI {S:Type} (k:Nat):Fx S:=fp 48 [(74,Nz k),(75,mh k),(76,ND k),(77,l_ (re BO FI) (oD (dz k)) (oE (dn k))),(78,Lu k)] [] k Tryz.f28 0
theorem qW {S:Type} (o:Obj) (ho:ad o) (k:Nat):Tl o 28 (oF k:Rw S):=af (RI k) ⟨ZU o ho k,np o ho k,ZX o ho k,sA (Bw o ho k) (Bx o ho k),XR o ho k,trivial⟩ Tryz.func28 (by kernel_rfl) fun t i a_r κ x h=>Eq.trans (by kernel_rfl) (ag h)
def C4 {S:Type} (k:Nat):Rw S:=ae IR bm fun line a_r c0 κ=>aa k (uS k line a_r c0) (eD κ)
def RJ {S:Type} (k:Nat):Fx S:=fp 44 [(28,oF k),(35,sX k),(210,kx k),(270,jp k)] [] k Tryz.f212 1
theorem Hp {S:Type} (o:Obj) (ho:ad o) (k:Nat):Tl o 212 (C4 k:Rw S):=af (RJ k) ⟨qW o ho k,vY o ho k,lq o ho k,jP o ho k,trivial⟩ Tryz.func212 (by kernel_rfl) fun line a_r c0 κ x h=>Eq.trans (by kernel_rfl) (ag h)
def C5 {S:Type} (k:Nat):Rw S:=ae BL bm fun t vars dims c0 κ=>aa k (mL k t vars dims c0) (eD κ)
def RL {S:Type} (k:Nat):Fx S:=fp 30 [(119,xW k),(210,kx k),(270,jp k)] [] k Tryz.f209 1
theorem Hq {S:Type} (o:Obj) (ho:ad o) (k:Nat):Tl o 209 (C5 k:Rw S):=af (RL k) ⟨Bf o ho k,lq o ho k,jP o ho k,trivial⟩ Tryz.func209 (by kernel_rfl) fun t vars dims c0 κ x h=>Eq.trans (by kernel_rfl) (ag h)
def sI {S:Type} (k:Nat):Rw S:=ae BH xn fun kind kids κ=>aa k (fW k kind kids) (xg κ)
def RM {S:Type} (k:Nat):Fx S:=fx 8 (fun _=>[]) (fun _=>false) [] [] k Tryz.f186 true [] 0
theorem vQ {S:Type} (o:Obj) (ho:ad o) (k:Nat):Tl o 186 (sI k:Rw S):=af (RM k) trivial Tryz.func186 (by kernel_rfl) fun kind kids κ x h=>Eq.trans (by kernel_rfl) (ag h)
def xH {S:Type} (k:Nat):Rw S:=ae iX bm fun t c0 κ=>aa k (mK k t c0) (afo κ)
def RN {S:Type} (k:Nat):Fx S:=fp 28 [(40,fI k),(210,kx k),(270,jp k)] [] k Tryz.f213 1
theorem A4 {S:Type} (o:Obj) (ho:ad o) (k:Nat):Tl o 213 (xH k:Rw S):=af (RN k) ⟨f7 o ho k,lq o ho k,jP o ho k,trivial⟩ Tryz.func213 (by kernel_rfl) fun t c0 κ x h=>Eq.trans (by kernel_rfl) (ag h)
def C6 {S:Type} (k:Nat):Rw S:=ae abH xn fun line phi a a_end a_r κ=>aa k (Am k line phi a a_end a_r) (dL κ)
def RP {S:Type} (k:Nat):Fx S:=fp 49 [(186,sI k),(205,oG k),(207,xX k),(209,C5 k),(211,Nr k),(212,C4 k),(213,xH k),(270,jp k),(302,Nu k)] [] k Tryz.f274 0
theorem Hr {S:Type} (o:Obj) (ho:ad o) (k:Nat):Tl o 274 (C6 k:Rw S):=af (RP k) ⟨vQ o ho k,qX o ho k,Bg o ho k,Hq o ho k,ZM o ho k,Hp o ho k,A4 o ho k,jP o ho k,ZP o ho k,trivial⟩ Tryz.func274 (by kernel_rfl) fun line phi a a_end a_r κ x h=>Eq.trans (by kernel_rfl) (ag h)
def LB {S:Type} (k:Nat):Rw S:=ae IS xn fun line phi a κ=>aa k (Gv k line phi a) (dL κ)
def RQ {S:Type} (k:Nat):Fx S:=fp 18 [(274,C6 k)] [] k Tryz.f245 0
theorem XY {S:Type} (o:Obj) (ho:ad o) (k:Nat):Tl o 245 (LB k:Rw S):=af (RQ k) ⟨Hr o ho k,trivial⟩ Tryz.func245 (by kernel_rfl) fun line phi a κ x h=>Eq.trans (by kernel_rfl) (ag h)
def LC {S:Type} (k:Nat):Rw S:=ae IT bm fun line phi a c0 κ=>aa k (G5 k line phi a c0) (eD κ)
def RR {S:Type} (k:Nat):Fx S:=fp 21 [(93,fb k),(94,fc k),(245,LB k)] [] k Tryz.f160 1
theorem XZ {S:Type} (o:Obj) (ho:ad o) (k:Nat):Tl o 160 (LC k:Rw S):=af (RR k) ⟨fB o ho k,fC o ho k,XY o ho k,trivial⟩ Tryz.func160 (by kernel_rfl) fun line phi a c0 κ x h=>Eq.trans (by kernel_rfl) (ag h)
def LD {S:Type} (k:Nat):Rw S:=ae BJ yJ fun c0 c1 c2 κ=>aa k (GY k c0 c1 c2) (Ld c0 c1 c2 κ)
def RS {S:Type} (k:Nat):Fx S:=fp 10 [(85,sW (cK k))] [] k Tryz.f259 3
theorem X0 {S:Type} (o:Obj) (ho:ad o) (k:Nat):Tl o 259 (LD k:Rw S):=af (RS k) ⟨wx o ho k,trivial⟩ Tryz.func259 (by kernel_rfl) fun c0 c1 c2 κ x h=>Eq.trans (by kernel_rfl) (ag h)
def LF {S:Type} (k:Nat):Rw S:=ae abI yJ fun t numbers c0 c1 c2 κ=>aa k (GZ k t numbers c0 c1 c2) (kr c0 c1 c2 κ)
def yU {S:Type} (k:Nat):Fx S:=⟨⟨30,(fun _=>[]),(fun _=>false),.none,fun|6=>true|7=>true|_=>false⟩,[(40,fI k),(259,LD k)],[(5,⟨[(2,.none),(6,.none),(7,.none),(17,.none),(18,.none),(19,.none)],[(1000000,[.none]),(1000001,[.none,.none,.none,.none,.none,.none]),(1000002,[.none]),(5000006,[.none,.none,.none,some (320200387,true),some (320200388,true),some (320200389,true)]),(5000007,[.none])]⟩,am 5 11)],k,Tryz.f83,false,[],3,some (mJ 16 164 Tryz.f164 k)⟩
def Jf (c0:Int) (c1:Tm) (c2:Int) (numbers:List Int) (v19:Int):St UU:=⟨[(2,(.func 259 [] [(pt 1000000),(pt 1000001),(pt 1000002)])),(6,(pt 5000006)),(7,(pt 5000007)),(17,(jt numbers .none)),(18,(.int .i64 (numbers.length:Int))),(19,(iI v19))],[(1000000,bI c0),(1000001,bT c1),(1000002,bI c2),(5000006,.cells [(iI 0),(iI 0),(.str ByteArray.empty),(.own 320200387 0),(.own 320200388 0),(.own 320200389 0)]),(5000007,bI 0)],[(320200389,⟨0,ET.B,([]:List (Br Tm))⟩),(320200388,⟨0,ET.T,([]:List Tm)⟩),(320200387,⟨0,ET.C,([]:List Cl)⟩)],[(320200389,.wr),(320200388,.wr),(320200387,.wr)]⟩
section
variable {S:Type} (k:Nat) (t:Tm) (numbers:List Int) (c0:Int) (c1:Tm) (c2:Int) (κ:Out UU→Option S)
theorem UD: ∀n v19,(yU k).lp κ 5 [] n (Jf c0 c1 c2 numbers v19)=B1 k (kr c0 c1 c2 κ) c0 c1 c2 numbers n v19:=b9 (F4 k (kr c0 c1 c2 κ) c0 c1 c2 numbers) rfl (fun _=>rfl) fun r v19=>by kernel_rfl
end
theorem X1 {S:Type} (o:Obj) (ho:ad o) (k:Nat):Tl o 83 (LF k:Rw S):=yA (yU k) rfl (uL o Tryz.func164 (by kernel_rfl)) ⟨f7 o ho k,X0 o ho k,trivial⟩ Tryz.func83 (by kernel_rfl) fun t numbers c0 c1 c2 κ x h=>Eq.trans (b:=PY k (kr c0 c1 c2 κ) (fun v19=>(yU k).lp κ 5 [] k (Jf c0 c1 c2 numbers v19)) t numbers c0 c1 c2) (by kernel_rfl) (Eq.trans (by simp only [UD];rfl) (ag h))
def LG {S:Type} (k:Nat):Rw S:=ae nA xn fun t a_from a_by κ=>aa k (GX k t a_from a_by) (dL κ)
def RT {S:Type} (k:Nat):Fx S:=fp 18 [(83,LF k)] [] k Tryz.f182 0
theorem X2 {S:Type} (o:Obj) (ho:ad o) (k:Nat):Tl o 182 (LG k:Rw S):=af (RT k) ⟨X1 o ho k,trivial⟩ Tryz.func182 (by kernel_rfl) fun t a_from a_by κ x h=>Eq.trans (by kernel_rfl) (ag h)
def LH {S:Type} (k:Nat):Rw S:=ae BL bm fun t vars dims c0 κ=>aa k (G6 k t vars dims c0) (eD κ)
def RU {S:Type} (k:Nat):Fx S:=fp 32 [(35,sX k),(93,fb k),(94,fc k),(182,LG k)] [] k Tryz.f101 1
theorem X3 {S:Type} (o:Obj) (ho:ad o) (k:Nat):Tl o 101 (LH k:Rw S):=af (RU k) ⟨vY o ho k,fB o ho k,fC o ho k,X2 o ho k,trivial⟩ Tryz.func101 (by kernel_rfl) fun t vars dims c0 κ x h=>Eq.trans (by kernel_rfl) (ag h)
def sJ {S:Type} (hd:cS S):Rw S:=ae c6 xn fun t κ=>hd t (ay κ)
def LI {S:Type} (hd:cS S) (k:Nat):Rw S:=ae wF bm fun a_k p p' c0 κ=>aa k (AT hd k a_k p p' c0) (b_ κ)
def RW {S:Type} (hd:cS S) (k:Nat):Fx S:=fp 12 [(254,sJ hd)] [] k Tryz.f296 1
theorem X4 {S:Type} (o:Obj) (ho:ad o) (hd:cS S) (Hd:Tl o 254 (sJ hd)) (k:Nat):Tl o 296 (LI hd k:Rw S):=af (RW hd k) ⟨Hd,trivial⟩ Tryz.func296 (by kernel_rfl) fun a_k p p' c0 κ x h=>Eq.trans (by kernel_rfl) (ag h)
def LJ {S:Type} (hd:cS S) (k:Nat):Rw S:=ae abJ bm fun t c0 κ=>aa k (Ha hd k t c0) (b_ κ)
def kJ {S:Type} (hd:cS S) (k:Nat):Fx S:=fp 60 [(49,hU k),(296,LI hd k)] [(2,aE [1,2,15,16,17] [(2,6),(1000000,1)],am 4 5),(12,aE [1,9,40,41,42] [(1000000,1)],am 7 47),(15,aE [1,9,40,41,42,47,48,49] [(1000000,1)],am 15 13103)] k Tryz.f116 1
def Cp (t:Tm) (e0_0 v17:Int):St UU:=⟨[(1,(.func 296 [] [(pt 1000000)])),(2,(pt 2)),(15,(sT t.kids)),(16,(.int .i64 (t.kids.length:Int))),(17,(iI v17))],[(2,bT t),(1000000,bI e0_0)],[],[]⟩
def rN (t:Tm) (e0_0' v42 more9:Int):St UU:=⟨[(1,(.func 296 [] [(pt 1000000)])),(9,(iI more9)),(40,(sB t.sys)),(41,(.int .i64 (t.sys.length:Int))),(42,(iI v42))],[(1000000,bI e0_0')],[],[]⟩
def Jg (t:Tm) (v42:Int) (x4:(Br Tm)) (more9:Int) (e0_0'' v49:Int):St UU:=⟨[(1,(.func 296 [] [(pt 1000000)])),(9,(iI more9)),(40,(sB t.sys)),(41,(.int .i64 (t.sys.length:Int))),(42,(iI v42)),(47,(sT x4.kids)),(48,(.int .i64 (x4.kids.length:Int))),(49,(iI v49))],[(1000000,bI e0_0'')],[],[]⟩
section
variable {S:Type} (hd:cS S) (k:Nat) (t:Tm) (c0:Int) (κ:Out UU→Option S)
theorem UG (v42 x4 more9 κ1): ∀n e0_0'' v49,(kJ hd k).lp κ 15 [κ1] n (Jg t v42 x4 more9 e0_0'' v49)=wQ hd k (b_ κ) (fun e0_0' v42 more9=>κ1 (rN t e0_0' v42 more9)) t v42 x4 more9 n e0_0'' v49:=aA (F_ hd k (b_ κ) t v42 x4 more9 (fun e0_0' v42 more9=>κ1 (rN t e0_0' v42 more9))) rfl (fun _=>rfl) fun r e0_0'' v49=>by kernel_rfl
theorem UF: ∀n e0_0' v42 more9,(kJ hd k).lp κ 12 [] n (rN t e0_0' v42 more9)=rB hd k (b_ κ) t n e0_0' v42 more9:=dT (fun own=>zZ hd k (b_ κ) t (fun v42 x4 more9 e0_0'' v49=>wQ hd k (b_ κ) own t v42 x4 more9 k e0_0'' v49) own) rfl (fun _=>rfl) fun r e0_0' v42 more9=>Eq.trans (b:=zZ hd k (b_ κ) t (fun v42 x4 more9 e0_0'' v49=>(kJ hd k).lp κ 15 [r] k (Jg t v42 x4 more9 e0_0'' v49)) (fun e0_0' v42 more9=>r (rN t e0_0' v42 more9)) e0_0' v42 more9) (by kernel_rfl) (by simp only [UG])
theorem UE: ∀n e0_0 v17,(kJ hd k).lp κ 2 [] n (Cp t e0_0 v17)=B7 hd k (b_ κ) t n e0_0 v17:=aA (fun own=>zY hd k (b_ κ) t (fun e0_0' v42 more9=>rB hd k (b_ κ) t k e0_0' v42 more9) own) rfl (fun _=>rfl) fun r e0_0 v17=>Eq.trans (b:=zY hd k (b_ κ) t (fun e0_0' v42 more9=>(kJ hd k).lp κ 12 [] k (rN t e0_0' v42 more9)) (fun e0_0 v17=>r (Cp t e0_0 v17)) e0_0 v17) (by kernel_rfl) (by simp only [UF])
end
theorem X5 {S:Type} (o:Obj) (ho:ad o) (hd:cS S) (Hd:Tl o 254 (sJ hd)) (k:Nat):Tl o 116 (LJ hd k:Rw S):=af (kJ hd k) ⟨iL o ho k,X4 o ho hd Hd k,trivial⟩ Tryz.func116 (by kernel_rfl) fun t c0 κ x h=>Eq.trans (b:=QN hd k (b_ κ) (fun e0_0 v17=>(kJ hd k).lp κ 2 [] k (Cp t e0_0 v17)) t c0) (by kernel_rfl) (Eq.trans (by simp only [UE];rfl) (ag h))
def RV {S:Type} (hd:cS S) (k:Nat):Fx S:=fp 8 [(116,LJ hd k)] [] k Tryz.f254 0
theorem Ib {S:Type} (o:Obj) (ho:ad o): ∀k:Nat,Tl o 254 (sJ (li k:cS S))
 |0=>dx fun t κ x h=>by cases h
 |k+1=>af (RV (li k) k) ⟨X5 o ho (li k) (Ib o ho k) k,trivial⟩ Tryz.func254 (by kernel_rfl) fun t κ x h=>Eq.trans (by kernel_rfl) h
end
end Go.Proofs.YtgajalidbabccaaGreatDoor
namespace Go.Proofs.YtgajalidbabccaaGreatDoor
open Go PI
set_option linter.unusedVariables false
set_option maxRecDepth 100000
noncomputable section
def C7 {S:Type} (hd:eL S):Rw S:=ae wB xn fun t a_n κ=>hd t a_n (ay κ)
def iq {S:Type} (hd:eL S) (k:Nat):Fx S:=fp 68 [(49,hU k),(255,C7 hd)] [(1000003,aE [1,2] [(2,6)],am 2 3),(5,aE [1,2,5,24,25,26] [(2,6)],am 6 23),(11,aE [1,5,47,48,49] [],am 7 47),(14,aE [1,5,47,48,49,54,55,56] [],am 15 13103)] k Tryz.f255 0
def Jh (t:Tm) (a_n:Int):St UU:=⟨[(1,(iI a_n)),(2,(pt 2))],[(2,bT t)],[],[]⟩
def Cq (t:Tm) (a_n:Int) (v26 sum5:Int):St UU:=⟨[(1,(iI a_n)),(2,(pt 2)),(5,(iI sum5)),(24,(sT t.kids)),(25,(.int .i64 (t.kids.length:Int))),(26,(iI v26))],[(2,bT t)],[],[]⟩
def rO (a_n:Int) (t:Tm) (v49 sum5':Int):St UU:=⟨[(1,(iI a_n)),(5,(iI sum5')),(47,(sB t.sys)),(48,(.int .i64 (t.sys.length:Int))),(49,(iI v49))],[],[],[]⟩
def Ji (a_n:Int) (t:Tm) (v49:Int) (x4:(Br Tm)) (sum5'' v56:Int):St UU:=⟨[(1,(iI a_n)),(5,(iI sum5'')),(47,(sB t.sys)),(48,(.int .i64 (t.sys.length:Int))),(49,(iI v49)),(54,(sT x4.kids)),(55,(.int .i64 (x4.kids.length:Int))),(56,(iI v56))],[],[],[]⟩
section
variable {S:Type} (hd:eL S) (k:Nat) (t:Tm) (a_n:Int) (κ:Out UU→Option S)
theorem UK (v49 x4 κ2): ∀n sum5'' v56,(iq hd k).lp κ 14 [κ2] n (Ji a_n t v49 x4 sum5'' v56)=wK hd k (ay κ) (fun v49 sum5'=>κ2 (rO a_n t v49 sum5')) a_n t v49 x4 n sum5'' v56:=aA (F6 hd k (ay κ) a_n t v49 x4 (fun v49 sum5'=>κ2 (rO a_n t v49 sum5'))) rfl (fun _=>rfl) fun r sum5'' v56=>by kernel_rfl
theorem UJ: ∀n v49 sum5',(iq hd k).lp κ 11 [] n (rO a_n t v49 sum5')=rx hd k (ay κ) a_n t n v49 sum5':=aA (fun own=>zR hd k (ay κ) a_n t (fun v49 x4 sum5'' v56=>wK hd k (ay κ) own a_n t v49 x4 k sum5'' v56) own) rfl (fun _=>rfl) fun r v49 sum5'=>Eq.trans (b:=zR hd k (ay κ) a_n t (fun v49 x4 sum5'' v56=>(iq hd k).lp κ 14 [r] k (Ji a_n t v49 x4 sum5'' v56)) (fun v49 sum5'=>r (rO a_n t v49 sum5')) v49 sum5') (by kernel_rfl) (by simp only [UK])
theorem UI: ∀n v26 sum5,(iq hd k).lp κ 5 [] n (Cq t a_n v26 sum5)=wJ hd k (ay κ) t a_n n v26 sum5:=aA (fun own=>zQ hd k (ay κ) t a_n (fun v49 sum5'=>rx hd k (ay κ) a_n t k v49 sum5') own) rfl (fun _=>rfl) fun r v26 sum5=>Eq.trans (b:=zQ hd k (ay κ) t a_n (fun v49 sum5'=>(iq hd k).lp κ 11 [] k (rO a_n t v49 sum5')) (fun v26 sum5=>r (Cq t a_n v26 sum5)) v26 sum5) (by kernel_rfl) (by simp only [UJ])
theorem UH: ∀n,(iq hd k).jn κ 1000003 [] n (Jh t a_n)=IW hd k (ay κ) t a_n n:=iW (zP hd k (ay κ) t a_n (fun v26 sum5=>wJ hd k (ay κ) t a_n k v26 sum5)) rfl (fun _=>rfl) (Eq.trans (b:=zP hd k (ay κ) t a_n (fun v26 sum5=>(iq hd k).lp κ 5 [] k (Cq t a_n v26 sum5))) (by kernel_rfl) (by simp only [UI]))
end
theorem Ic {S:Type} (o:Obj) (ho:ad o): ∀k:Nat,Tl o 255 (C7 (jG k:eL S))
 |0=>dx fun t a_n κ x h=>by cases h
 |k+1=>af (iq (jG k) k) ⟨iL o ho k,Ic o ho k,trivial⟩ Tryz.func255 (by kernel_rfl) fun t a_n κ x h=>Eq.trans (b:=P8 (jG k) k (ay κ) ((iq (jG k) k).jn κ 1000003 [] k (Jh t a_n)) t a_n) (by kernel_rfl) (Eq.trans (by simp only [UH];rfl) h)
def LM {S:Type} (k:Nat):Rw S:=ae c6 xn fun t κ=>aa k (G_ k t) (ay κ)
def RY {S:Type} (k:Nat):Fx S:=fp 6 [] [] k Tryz.f297 0
theorem X7 {S:Type} (o:Obj) (ho:ad o) (k:Nat):Tl o 297 (LM k:Rw S):=af (RY k) trivial Tryz.func297 (by kernel_rfl) fun t κ x h=>Eq.trans (by kernel_rfl) (ag h)
def C8 {S:Type} (hd:fN S):Rw S:=ae abK xn fun t a_n u vars dims κ=>hd t a_n u vars dims (bV κ)
def kK {S:Type} (hd:fN S) (k:Nat):Fx S:=fp 137 [(49,hU k),(119,xW k),(257,C8 hd),(297,LM k)] [(12,⟨[(1,.none),(3,.none),(4,.none),(5,.none),(7,.none),(10,.none),(13,.none),(66,.none),(67,.none),(68,.none)],[(5,[.none,.none,.none,.none,.none,.none]),(7,[.none,.none,.none,.none,.none,.none]),(10,[.none,.none,.none,some (200643,true),some (200644,true),some (200645,true)]),(13,[.none,.none,.none,some (200835,true),some (200836,true),some (200837,true)])]⟩,am 6 23),(18,⟨[(1,.none),(3,.none),(4,.none),(5,.none),(7,.none),(10,.none),(13,.none),(97,.none),(98,.none),(99,.none)],[(5,[.none,.none,.none,.none,.none,.none]),(7,[.none,.none,.none,.none,.none,.none]),(10,[.none,.none,.none,some (200643,true),some (200644,true),some (200645,true)]),(13,[.none,.none,.none,some (200835,true),some (200836,true),some (200837,true)])]⟩,am 7 47),(22,⟨[(1,.none),(3,.none),(4,.none),(5,.none),(7,.none),(10,.none),(13,.none),(20,.none),(97,.none),(98,.none),(99,.none),(108,.none),(109,.none),(110,.none)],[(5,[.none,.none,.none,.none,.none,.none]),(7,[.none,.none,.none,.none,.none,.none]),(10,[.none,.none,.none,some (200643,true),some (200644,true),some (200645,true)]),(13,[.none,.none,.none,some (200835,true),some (200836,true),some (200837,true)]),(20,[some (201280,true),some (201281,true)])]⟩,am 17 45871)] k Tryz.f257 0
def Cr (t u:Tm) (a_n vars dims:Int) (b13_4:List Tm) (v68:Int):St UU:=⟨[(1,(iI a_n)),(3,(iI vars)),(4,(iI dims)),(5,(pt 5)),(7,(pt 7)),(10,(pt 10)),(13,(pt 13)),(66,(sT t.kids)),(67,(.int .i64 (t.kids.length:Int))),(68,(iI v68))],[(5,bT t),(7,bT u),(10,.cells [(iI 0),(iI 0),(.str ByteArray.empty),(.own 200643 0),(.own 200644 0),(.own 200645 0)]),(13,.cells [(iI t.kind),(iI 0),(.str t.name),(.own 200835 0),(.own 200836 0),(.own 200837 0)])],[(200837,⟨0,ET.B,([]:List (Br Tm))⟩),(200836,⟨0,ET.T,b13_4⟩),(200835,⟨0,ET.C,t.r⟩),(200645,⟨0,ET.B,([]:List (Br Tm))⟩),(200644,⟨0,ET.T,([]:List Tm)⟩),(200643,⟨0,ET.C,([]:List Cl)⟩)],[(200837,.wr),(200836,.wr),(200835,.wr),(200645,.wr),(200644,.wr),(200643,.wr)]⟩
def rP (t:Tm) (b13_4:List Tm) (u:Tm) (a_n vars dims:Int) (b13_5:List (Br Tm)) (v99:Int):St UU:=⟨[(1,(iI a_n)),(3,(iI vars)),(4,(iI dims)),(5,(pt 5)),(7,(pt 7)),(10,(pt 10)),(13,(pt 13)),(97,(sB t.sys)),(98,(.int .i64 (t.sys.length:Int))),(99,(iI v99))],[(5,bT t),(7,bT u),(10,.cells [(iI 0),(iI 0),(.str ByteArray.empty),(.own 200643 0),(.own 200644 0),(.own 200645 0)]),(13,.cells [(iI t.kind),(iI 0),(.str t.name),(.own 200835 0),(.own 200836 0),(.own 200837 0)])],[(200837,⟨0,ET.B,b13_5⟩),(200836,⟨0,ET.T,b13_4⟩),(200835,⟨0,ET.C,t.r⟩),(200645,⟨0,ET.B,([]:List (Br Tm))⟩),(200644,⟨0,ET.T,([]:List Tm)⟩),(200643,⟨0,ET.C,([]:List Cl)⟩)],[(200837,.wr),(200836,.wr),(200835,.wr),(200645,.wr),(200644,.wr),(200643,.wr)]⟩
def Jj (t:Tm) (b13_4:List Tm) (b13_5:List (Br Tm)) (x9:(Br Tm)) (u:Tm) (a_n vars dims v99:Int) (b20_1:List Tm) (v110:Int):St UU:=⟨[(1,(iI a_n)),(3,(iI vars)),(4,(iI dims)),(5,(pt 5)),(7,(pt 7)),(10,(pt 10)),(13,(pt 13)),(20,(pt 20)),(97,(sB t.sys)),(98,(.int .i64 (t.sys.length:Int))),(99,(iI v99)),(108,(sT x9.kids)),(109,(.int .i64 (x9.kids.length:Int))),(110,(iI v110))],[(5,bT t),(7,bT u),(10,.cells [(iI 0),(iI 0),(.str ByteArray.empty),(.own 200643 0),(.own 200644 0),(.own 200645 0)]),(13,.cells [(iI t.kind),(iI 0),(.str t.name),(.own 200835 0),(.own 200836 0),(.own 200837 0)]),(20,.cells [(.own 201280 0),(.own 201281 0)])],[(201281,⟨0,ET.T,b20_1⟩),(201280,⟨0,ET.C,x9.face⟩),(200837,⟨0,ET.B,b13_5⟩),(200836,⟨0,ET.T,b13_4⟩),(200835,⟨0,ET.C,t.r⟩),(200645,⟨0,ET.B,([]:List (Br Tm))⟩),(200644,⟨0,ET.T,([]:List Tm)⟩),(200643,⟨0,ET.C,([]:List Cl)⟩)],[(201281,.wr),(201280,.wr),(200837,.wr),(200836,.wr),(200835,.wr),(200645,.wr),(200644,.wr),(200643,.wr)]⟩
section
variable {S:Type} (hd:fN S) (k:Nat) (t:Tm) (a_n:Int) (u:Tm) (vars dims:Int) (κ:Out UU→Option S)
theorem UN (b13_4 b13_5 x9 v99 κ1): ∀n b20_1 v110,(kK hd k).lp κ 22 [κ1] n (Jj t b13_4 b13_5 x9 u a_n vars dims v99 b20_1 v110)=wL hd k (bV κ) (fun b13_5 v99=>κ1 (rP t b13_4 u a_n vars dims b13_5 v99)) t b13_4 b13_5 x9 u a_n vars dims v99 n b20_1 v110:=aA (F7 hd k (bV κ) t b13_4 b13_5 x9 u a_n vars dims v99 (fun b13_5 v99=>κ1 (rP t b13_4 u a_n vars dims b13_5 v99))) rfl (fun _=>rfl) fun r b20_1 v110=>by kernel_rfl
theorem UM (b13_4): ∀n b13_5 v99,(kK hd k).lp κ 18 [] n (rP t b13_4 u a_n vars dims b13_5 v99)=ry hd k (bV κ) t b13_4 u a_n vars dims n b13_5 v99:=aA (fun own=>zT hd k (bV κ) t b13_4 u a_n vars dims (fun b13_5 x9 v99 b20_1 v110=>wL hd k (bV κ) own t b13_4 b13_5 x9 u a_n vars dims v99 k b20_1 v110) own) rfl (fun _=>rfl) fun r b13_5 v99=>Eq.trans (b:=zT hd k (bV κ) t b13_4 u a_n vars dims (fun b13_5 x9 v99 b20_1 v110=>(kK hd k).lp κ 22 [r] k (Jj t b13_4 b13_5 x9 u a_n vars dims v99 b20_1 v110)) (fun b13_5 v99=>r (rP t b13_4 u a_n vars dims b13_5 v99)) b13_5 v99) (by kernel_rfl) (by simp only [UN])
theorem UL: ∀n b13_4 v68,(kK hd k).lp κ 12 [] n (Cr t u a_n vars dims b13_4 v68)=B3 hd k (bV κ) t u a_n vars dims n b13_4 v68:=aA (fun own=>zS hd k (bV κ) t u a_n vars dims (fun b13_4 b13_5 v99=>ry hd k (bV κ) t b13_4 u a_n vars dims k b13_5 v99) own) rfl (fun _=>rfl) fun r b13_4 v68=>Eq.trans (b:=zS hd k (bV κ) t u a_n vars dims (fun b13_4 b13_5 v99=>(kK hd k).lp κ 18 [] k (rP t b13_4 u a_n vars dims b13_5 v99)) (fun b13_4 v68=>r (Cr t u a_n vars dims b13_4 v68)) b13_4 v68) (by kernel_rfl) (by simp only [UM])
end
theorem Id {S:Type} (o:Obj) (ho:ad o): ∀k:Nat,Tl o 257 (C8 (jH k:fN S))
 |0=>dx fun t a_n u vars dims κ x h=>by cases h
 |k+1=>af (kK (jH k) k) ⟨iL o ho k,Bf o ho k,Id o ho k,X7 o ho k,trivial⟩ Tryz.func257 (by kernel_rfl) fun t a_n u vars dims κ x h=>Eq.trans (b:=P9 (jH k) k (bV κ) (fun b13_4 v68=>(kK (jH k) k).lp κ 12 [] k (Cr t u a_n vars dims b13_4 v68)) t a_n u vars dims) (by kernel_rfl) (Eq.trans (by simp only [UL];rfl) h)
def sK {S:Type} (hd:cR S):Rw S:=ae c6 xn fun t κ=>hd t (ay κ)
def LN {S:Type} (hd:cR S) (k:Nat):Rw S:=ae wF bm fun a_k p p' c0 κ=>aa k (AR hd k a_k p p' c0) (b_ κ)
def R0 {S:Type} (hd:cR S) (k:Nat):Fx S:=fp 12 [(258,sK hd)] [] k Tryz.f298 1
theorem X8 {S:Type} (o:Obj) (ho:ad o) (hd:cR S) (Hd:Tl o 258 (sK hd)) (k:Nat):Tl o 298 (LN hd k:Rw S):=af (R0 hd k) ⟨Hd,trivial⟩ Tryz.func298 (by kernel_rfl) fun a_k p p' c0 κ x h=>Eq.trans (by kernel_rfl) (ag h)
def LO {S:Type} (hd:cR S) (k:Nat):Rw S:=ae abL bm fun t c0 κ=>aa k (Hb hd k t c0) (b_ κ)
def kL {S:Type} (hd:cR S) (k:Nat):Fx S:=fp 60 [(49,hU k),(298,LN hd k)] [(2,aE [1,2,15,16,17] [(2,6),(1000000,1)],am 4 5),(12,aE [1,9,40,41,42] [(1000000,1)],am 7 47),(15,aE [1,9,40,41,42,47,48,49] [(1000000,1)],am 15 13103)] k Tryz.f116 1
def Ct (t:Tm) (e0_0 v17:Int):St UU:=⟨[(1,(.func 298 [] [(pt 1000000)])),(2,(pt 2)),(15,(sT t.kids)),(16,(.int .i64 (t.kids.length:Int))),(17,(iI v17))],[(2,bT t),(1000000,bI e0_0)],[],[]⟩
def rQ (t:Tm) (e0_0' v42 more9:Int):St UU:=⟨[(1,(.func 298 [] [(pt 1000000)])),(9,(iI more9)),(40,(sB t.sys)),(41,(.int .i64 (t.sys.length:Int))),(42,(iI v42))],[(1000000,bI e0_0')],[],[]⟩
def Jk (t:Tm) (v42:Int) (x4:(Br Tm)) (more9:Int) (e0_0'' v49:Int):St UU:=⟨[(1,(.func 298 [] [(pt 1000000)])),(9,(iI more9)),(40,(sB t.sys)),(41,(.int .i64 (t.sys.length:Int))),(42,(iI v42)),(47,(sT x4.kids)),(48,(.int .i64 (x4.kids.length:Int))),(49,(iI v49))],[(1000000,bI e0_0'')],[],[]⟩
section
variable {S:Type} (hd:cR S) (k:Nat) (t:Tm) (c0:Int) (κ:Out UU→Option S)
theorem UQ (v42 x4 more9 κ1): ∀n e0_0'' v49,(kL hd k).lp κ 15 [κ1] n (Jk t v42 x4 more9 e0_0'' v49)=wR hd k (b_ κ) (fun e0_0' v42 more9=>κ1 (rQ t e0_0' v42 more9)) t v42 x4 more9 n e0_0'' v49:=aA (Ga hd k (b_ κ) t v42 x4 more9 (fun e0_0' v42 more9=>κ1 (rQ t e0_0' v42 more9))) rfl (fun _=>rfl) fun r e0_0'' v49=>by kernel_rfl
theorem UP: ∀n e0_0' v42 more9,(kL hd k).lp κ 12 [] n (rQ t e0_0' v42 more9)=rC hd k (b_ κ) t n e0_0' v42 more9:=dT (fun own=>z7 hd k (b_ κ) t (fun v42 x4 more9 e0_0'' v49=>wR hd k (b_ κ) own t v42 x4 more9 k e0_0'' v49) own) rfl (fun _=>rfl) fun r e0_0' v42 more9=>Eq.trans (b:=z7 hd k (b_ κ) t (fun v42 x4 more9 e0_0'' v49=>(kL hd k).lp κ 15 [r] k (Jk t v42 x4 more9 e0_0'' v49)) (fun e0_0' v42 more9=>r (rQ t e0_0' v42 more9)) e0_0' v42 more9) (by kernel_rfl) (by simp only [UQ])
theorem UO: ∀n e0_0 v17,(kL hd k).lp κ 2 [] n (Ct t e0_0 v17)=B8 hd k (b_ κ) t n e0_0 v17:=aA (fun own=>z6 hd k (b_ κ) t (fun e0_0' v42 more9=>rC hd k (b_ κ) t k e0_0' v42 more9) own) rfl (fun _=>rfl) fun r e0_0 v17=>Eq.trans (b:=z6 hd k (b_ κ) t (fun e0_0' v42 more9=>(kL hd k).lp κ 12 [] k (rQ t e0_0' v42 more9)) (fun e0_0 v17=>r (Ct t e0_0 v17)) e0_0 v17) (by kernel_rfl) (by simp only [UP])
end
theorem X9 {S:Type} (o:Obj) (ho:ad o) (hd:cR S) (Hd:Tl o 258 (sK hd)) (k:Nat):Tl o 116 (LO hd k:Rw S):=af (kL hd k) ⟨iL o ho k,X8 o ho hd Hd k,trivial⟩ Tryz.func116 (by kernel_rfl) fun t c0 κ x h=>Eq.trans (b:=QO hd k (b_ κ) (fun e0_0 v17=>(kL hd k).lp κ 2 [] k (Ct t e0_0 v17)) t c0) (by kernel_rfl) (Eq.trans (by simp only [UO];rfl) (ag h))
def RZ {S:Type} (hd:cR S) (k:Nat):Fx S:=fp 9 [(116,LO hd k)] [] k Tryz.f258 0
theorem Ie {S:Type} (o:Obj) (ho:ad o): ∀k:Nat,Tl o 258 (sK (nc k:cR S))
 |0=>dx fun t κ x h=>by cases h
 |k+1=>af (RZ (nc k) k) ⟨X9 o ho (nc k) (Ie o ho k) k,trivial⟩ Tryz.func258 (by kernel_rfl) fun t κ x h=>Eq.trans (by kernel_rfl) h
def LP {S:Type} (k:Nat):Rw S:=ae abM xn fun t a_n u κ=>aa k (G9 k t a_n u) (dL κ)
def R1 {S:Type} (k:Nat):Fx S:=⟨⟨49,(fun _=>[]),(fun _=>false),.none,fun|6=>true|7=>true|_=>false⟩,[(40,fI k),(254,sJ (li k)),(255,C7 (jG k)),(257,C8 (jH k)),(258,sK (nc k))],[],k,Tryz.f181,false,[],0,some (mJ 16 256 Tryz.f256 k)⟩
theorem X_ {S:Type} (o:Obj) (ho:ad o) (k:Nat):Tl o 181 (LP k:Rw S):=yA (R1 k) rfl (uL o Tryz.func256 (by kernel_rfl)) ⟨f7 o ho k,Ib o ho k,Ic o ho k,Id o ho k,Ie o ho k,trivial⟩ Tryz.func181 (by kernel_rfl) fun t a_n u κ x h=>Eq.trans (by kernel_rfl) (ag h)
def C9 {S:Type} (k:Nat):Rw S:=ae wH bm fun t u c0 κ=>aa k (AH k t u c0) (eD κ)
def R2 {S:Type} (k:Nat):Fx S:=fp 18 [(93,fb k),(94,fc k),(181,LP k)] [] k Tryz.f100 1
theorem Hs {S:Type} (o:Obj) (ho:ad o) (k:Nat):Tl o 100 (C9 k:Rw S):=af (R2 k) ⟨fB o ho k,fC o ho k,X_ o ho k,trivial⟩ Tryz.func100 (by kernel_rfl) fun t u c0 κ x h=>Eq.trans (by kernel_rfl) (ag h)
def sL {S:Type} (k:Nat):Rw S:=ae IR bm fun t a_r c0 κ=>aa k (mX k t a_r c0) (eD κ)
def R3 {S:Type} (k:Nat):Fx S:=fp 18 [(28,oF k),(93,fb k),(94,fc k)] [] k Tryz.f130 1
theorem vR {S:Type} (o:Obj) (ho:ad o) (k:Nat):Tl o 130 (sL k:Rw S):=af (R3 k) ⟨qW o ho k,fB o ho k,fC o ho k,trivial⟩ Tryz.func130 (by kernel_rfl) fun t a_r c0 κ x h=>Eq.trans (by kernel_rfl) (ag h)
def hJ {S:Type} (k:Nat):Rw S:=ae BH xn fun kind kids κ=>aa k (co k kind kids) (xg κ)
def R4 {S:Type} (k:Nat):Fx S:=fx 8 (fun _=>[]) (fun _=>false) [] [] k Tryz.f58 true [] 0
theorem iJ {S:Type} (o:Obj) (ho:ad o) (k:Nat):Tl o 58 (hJ k:Rw S):=af (R4 k) trivial Tryz.func58 (by kernel_rfl) fun kind kids κ x h=>Eq.trans (by kernel_rfl) (ag h)
def md {S:Type} (k:Nat):Rw S:=ae abN xn fun kind a_r kids κ=>aa k (gN k kind a_r kids) (Le κ)
def R6 {S:Type} (k:Nat):Fx S:=fx 11 (fun _=>[]) (fun _=>false) [] [] k Tryz.f73 true [] 0
theorem ni {S:Type} (o:Obj) (ho:ad o) (k:Nat):Tl o 73 (md k:Rw S):=af (R6 k) trivial Tryz.func73 (by kernel_rfl) fun kind a_r kids κ x h=>Eq.trans (by kernel_rfl) (ag h)
def afH {S:Type} (k:Nat):Rw S:=ae wH oY fun line a c0_0 c0_1 c0_2 c0_3 c0_4 c0_5 c0_6 c0_7 κ=>aa k (lj k line a c0_0 c0_1 c0_2 c0_3 c0_4 c0_5 c0_6 c0_7) (Lf c0_0 c0_1 c0_2 c0_3 c0_4 c0_5 c0_6 c0_7 κ)
def C_ {S:Type} (k:Nat):Rw S:=ae wH oY fun line a c0_0 c0_1 c0_2 c0_3 c0_4 c0_5 c0_6 c0_7 κ=>aa k (lj k line a c0_0 c0_1 c0_2 c0_3 c0_4 c0_5 c0_6 c0_7) (Le κ)
def R7 {S:Type} (k:Nat):Fx S:=fx 15 (fun _=>[]) (fun _=>false) [(73,md k)] [] k Tryz.f161 true [] 1
theorem Yb {S:Type} (o:Obj) (ho:ad o) (k:Nat):Tl o 161 (afH k:Rw S):=af (R7 k) ⟨ni o ho k,trivial⟩ Tryz.func161 (by kernel_rfl) fun line a c0_0 c0_1 c0_2 c0_3 c0_4 c0_5 c0_6 c0_7 κ x h=>Eq.trans (by kernel_rfl) (ag h)
theorem Ht {S:Type} (o:Obj) (ho:ad o) (k:Nat):Tl o 161 (C_ k:Rw S):=QW (Yb o ho k) fun line a c0_0 c0_1 c0_2 c0_3 c0_4 c0_5 c0_6 c0_7 κ x h=>Eq.trans (b:=aa k (lj k line a c0_0 c0_1 c0_2 c0_3 c0_4 c0_5 c0_6 c0_7) (Lf c0_0 c0_1 c0_2 c0_3 c0_4 c0_5 c0_6 c0_7 (uQ _ κ))) (by kernel_rfl) (Eq.trans (congrArg (aa k (lj k line a c0_0 c0_1 c0_2 c0_3 c0_4 c0_5 c0_6 c0_7)) (funext fun r=>if_pos rfl)) h)
def LR {S:Type} (k:Nat):Rw S:=ae iX oY fun l c0_0 c0_1 c0_2 c0_3 c0_4 c0_5 c0_6 c0_7 κ=>aa k (He k l c0_0 c0_1 c0_2 c0_3 c0_4 c0_5 c0_6 c0_7) (CZ c0_1 c0_2 c0_3 c0_4 c0_5 c0_6 c0_7 κ)
def R8 {S:Type} (k:Nat):Fx S:=fx 59 (fun _=>[]) (fun _=>false) [(56,mi k),(58,hJ k),(95,Nq k),(100,C9 k),(101,LH k),(130,sL k),(160,LC k),(161,C_ k)] [] k Tryz.f79 true [] 1
theorem Yc {S:Type} (o:Obj) (ho:ad o) (k:Nat):Tl o 79 (LR k:Rw S):=af (R8 k) ⟨nq o ho k,iJ o ho k,ZL o ho k,Hs o ho k,X3 o ho k,vR o ho k,XZ o ho k,Ht o ho k,trivial⟩ Tryz.func79 (by kernel_rfl) fun l c0_0 c0_1 c0_2 c0_3 c0_4 c0_5 c0_6 c0_7 κ x h=>Eq.trans (by kernel_rfl) (ag h)
def LS {S:Type} (k:Nat):Rw S:=ae IS xn fun line phi a κ=>aa k (Gy k line phi a) (dL κ)
def R9 {S:Type} (k:Nat):Fx S:=fp 17 [(274,C6 k)] [] k Tryz.f219 0
theorem Yd {S:Type} (o:Obj) (ho:ad o) (k:Nat):Tl o 219 (LS k:Rw S):=af (R9 k) ⟨Hr o ho k,trivial⟩ Tryz.func219 (by kernel_rfl) fun line phi a κ x h=>Eq.trans (by kernel_rfl) (ag h)
def Da {S:Type} (k:Nat):Rw S:=ae IT bm fun line phi a c0 κ=>aa k (AJ k line phi a c0) (eD κ)
def R_ {S:Type} (k:Nat):Fx S:=fp 21 [(93,fb k),(94,fc k),(219,LS k)] [] k Tryz.f134 1
theorem Hu {S:Type} (o:Obj) (ho:ad o) (k:Nat):Tl o 134 (Da k:Rw S):=af (R_ k) ⟨fB o ho k,fC o ho k,Yd o ho k,trivial⟩ Tryz.func134 (by kernel_rfl) fun line phi a c0 κ x h=>Eq.trans (by kernel_rfl) (ag h)
def LU {S:Type} (k:Nat):Rw S:=ae iX oY fun l c0_0 c0_1 c0_2 c0_3 c0_4 c0_5 c0_6 c0_7 κ=>aa k (Hf k l c0_0 c0_1 c0_2 c0_3 c0_4 c0_5 c0_6 c0_7) (CZ c0_1 c0_2 c0_3 c0_4 c0_5 c0_6 c0_7 κ)
def Sa {S:Type} (k:Nat):Fx S:=fx 52 (fun _=>[]) (fun _=>false) [(58,hJ k),(100,C9 k),(134,Da k),(161,C_ k)] [] k Tryz.f80 true [] 1
theorem Ye {S:Type} (o:Obj) (ho:ad o) (k:Nat):Tl o 80 (LU k:Rw S):=af (Sa k) ⟨iJ o ho k,Hs o ho k,Hu o ho k,Ht o ho k,trivial⟩ Tryz.func80 (by kernel_rfl) fun l c0_0 c0_1 c0_2 c0_3 c0_4 c0_5 c0_6 c0_7 κ x h=>Eq.trans (by kernel_rfl) (ag h)
def Db {S:Type} (k:Nat):Rw S:=ae c6 xn fun t κ=>aa k (qT k t) (dL κ)
def Sb {S:Type} (k:Nat):Fx S:=fp 21 [(28,oF k),(35,sX k)] [] k Tryz.f12 0
theorem Hv {S:Type} (o:Obj) (ho:ad o) (k:Nat):Tl o 12 (Db k:Rw S):=af (Sb k) ⟨qW o ho k,vY o ho k,trivial⟩ Tryz.func12 (by kernel_rfl) fun t κ x h=>Eq.trans (by kernel_rfl) (ag h)
def LV {S:Type} (k:Nat):Rw S:=ae iX oY fun t c0_0 c0_1 c0_2 c0_3 c0_4 c0_5 c0_6 c0_7 κ=>aa k (Hg k t c0_0 c0_1 c0_2 c0_3 c0_4 c0_5 c0_6 c0_7) (afq c0_1 c0_2 c0_3 c0_4 c0_5 c0_6 c0_7 κ)
def Sc {S:Type} (k:Nat):Fx S:=fp 25 [(12,Db k)] [] k Tryz.f163 1
theorem Yf {S:Type} (o:Obj) (ho:ad o) (k:Nat):Tl o 163 (LV k:Rw S):=af (Sc k) ⟨Hv o ho k,trivial⟩ Tryz.func163 (by kernel_rfl) fun t c0_0 c0_1 c0_2 c0_3 c0_4 c0_5 c0_6 c0_7 κ x h=>Eq.trans (by kernel_rfl) (ag h)
def LW {S:Type} (k:Nat):Rw S:=ae abO ajQ fun a_by a_r c1 c2 c3_0 c3_1 c3_2 c3_3 c3_4 c3_5 c3_6 c3_7 κ=>aa k (AX k a_by a_r c1 c2 c3_0 c3_1 c3_2 c3_3 c3_4 c3_5 c3_6 c3_7) (afr c1 c2 c3_1 c3_2 c3_3 c3_4 c3_5 c3_6 c3_7 κ)
def Sd {S:Type} (k:Nat):Fx S:=fx 37 (fun _=>[]) (fun _=>false) [(56,mi k),(73,md k)] [] k Tryz.f162 true [] 4
theorem Yg {S:Type} (o:Obj) (ho:ad o) (k:Nat):Tl o 162 (LW k:Rw S):=af (Sd k) ⟨nq o ho k,ni o ho k,trivial⟩ Tryz.func162 (by kernel_rfl) fun a_by a_r c1 c2 c3_0 c3_1 c3_2 c3_3 c3_4 c3_5 c3_6 c3_7 κ x h=>Eq.trans (by kernel_rfl) (ag h)
def Dc {S:Type} (k:Nat):Rw S:=ae abP bm fun f a_by c0 κ=>aa k (AI k f a_by c0) (xm κ)
def Se {S:Type} (k:Nat):Fx S:=fp 23 [(75,mh k),(93,fb k),(94,fc k)] [] k Tryz.f103 1
theorem Hw {S:Type} (o:Obj) (ho:ad o) (k:Nat):Tl o 103 (Dc k:Rw S):=af (Se k) ⟨np o ho k,fB o ho k,fC o ho k,trivial⟩ Tryz.func103 (by kernel_rfl) fun f a_by c0 κ x h=>Eq.trans (by kernel_rfl) (ag h)
def gw {S:Type} (k:Nat):Rw S:=ae abQ xn fun f kids κ=>aa k (dN k f kids) (Lg κ)
def Sg {S:Type} (k:Nat):Fx S:=fp 8 [] [] k Tryz.f59 0
theorem gX {S:Type} (o:Obj) (ho:ad o) (k:Nat):Tl o 59 (gw k:Rw S):=af (Sg k) trivial Tryz.func59 (by kernel_rfl) fun f kids κ x h=>Eq.trans (by kernel_rfl) (ag h)
def De {S:Type} (k:Nat):Rw S:=ae IE bm fun t a_by c0 κ=>aa k (mW k t a_by c0) (eD κ)
def Sh {S:Type} (k:Nat):Fx S:=fp 18 [(35,sX k),(93,fb k),(94,fc k)] [] k Tryz.f104 1
theorem Hy {S:Type} (o:Obj) (ho:ad o) (k:Nat):Tl o 104 (De k:Rw S):=af (Sh k) ⟨vY o ho k,fB o ho k,fC o ho k,trivial⟩ Tryz.func104 (by kernel_rfl) fun t a_by c0 κ x h=>Eq.trans (by kernel_rfl) (ag h)
def LX {S:Type} (k:Nat):Rw S:=ae abR xn fun sys κ=>aa k (Ap k sys) (afs κ)
def Si {S:Type} (k:Nat):Fx S:=fx 8 (fun _=>[]) (fun _=>false) [(186,sI k)] [] k Tryz.f208 true [] 0
theorem Yh {S:Type} (o:Obj) (ho:ad o) (k:Nat):Tl o 208 (LX k:Rw S):=af (Si k) ⟨vQ o ho k,trivial⟩ Tryz.func208 (by kernel_rfl) fun sys κ x h=>Eq.trans (by kernel_rfl) (ag h)
def LY {S:Type} (k:Nat):Rw S:=ae iX bm fun line c0 κ=>aa k (Gz k line c0) (eD κ)
def Sj {S:Type} (k:Nat):Fx S:=fp 25 [(28,oF k),(29,x_ k),(210,kx k),(270,jp k)] [] k Tryz.f260 1
theorem Yi {S:Type} (o:Obj) (ho:ad o) (k:Nat):Tl o 260 (LY k:Rw S):=af (Sj k) ⟨qW o ho k,Bj o ho k,lq o ho k,jP o ho k,trivial⟩ Tryz.func260 (by kernel_rfl) fun line c0 κ x h=>Eq.trans (by kernel_rfl) (ag h)
def LZ {S:Type} (k:Nat):Rw S:=ae abS xn fun line a sys κ=>aa k (Gw k line a sys) (dL κ)
def yV {S:Type} (k:Nat):Fx S:=fp 78 [(41,jo (c5 k)),(186,sI k),(207,xX k),(208,LX k),(210,kx k),(212,C4 k),(213,xH k),(260,LY k)] [(5,⟨[(3,.none),(6,.none),(8,.none),(9,.none),(36,.none),(37,.none),(38,.none)],[(3,[.none,.none,.none,.none,.none,.none]),(6,[.none,.none,.none,some (200387,true),some (200388,true),some (200389,true)]),(9,[.none,.none,.none,some (200579,true),.none,some (200581,true)]),(19000,[.none])]⟩,am 7 47)] k Tryz.f183 0
def Jm (r3:Tm) (r9:Int×Int×ByteArray×List Tm) (r6:Tm) (b19000_0:Int) (b9_5:List (Br Tm)) (v38:Int):St UU:=⟨[(3,(pt 3)),(6,(pt 6)),(8,(pt 19000)),(9,(pt 9)),(36,(sB r6.sys)),(37,(.int .i64 (r6.sys.length:Int))),(38,(iI v38))],[(3,bT r3),(6,.cells [(iI 0),(iI 0),(.str ByteArray.empty),(.own 200387 0),(.own 200388 0),(.own 200389 0)]),(9,.cells [(iI r9.1),(iI r9.2.1),(.str r9.2.2.1),(.own 200579 0),(sT r9.2.2.2),(.own 200581 0)]),(19000,bI b19000_0)],[(200581,⟨0,ET.B,b9_5⟩),(200579,⟨0,ET.C,([]:List Cl)⟩),(200389,⟨0,ET.B,([]:List (Br Tm))⟩),(200388,⟨0,ET.T,([]:List Tm)⟩),(200387,⟨0,ET.C,([]:List Cl)⟩)],[(200581,.wr),(200579,.wr),(200389,.wr),(200388,.wr),(200387,.wr)]⟩
section
variable {S:Type} (k:Nat) (line a:Tm) (sys:List (Br Tm)) (κ:Out UU→Option S)
theorem UT (r3 r9 r6): ∀n b19000_0 b9_5 v38,(yV k).lp κ 5 [] n (Jm r3 r9 r6 b19000_0 b9_5 v38)=BQ k (dL κ) r3 r9 r6 n b19000_0 b9_5 v38:=dT (FR k (dL κ) r3 r9 r6) rfl (fun _=>rfl) fun r b19000_0 b9_5 v38=>by kernel_rfl
end
theorem Yj {S:Type} (o:Obj) (ho:ad o) (k:Nat):Tl o 183 (LZ k:Rw S):=af (yV k) ⟨lv o ho k,vQ o ho k,Bg o ho k,Yh o ho k,lq o ho k,Hp o ho k,A4 o ho k,Yi o ho k,trivial⟩ Tryz.func183 (by kernel_rfl) fun line a sys κ x h=>Eq.trans (b:=Pa k (dL κ) (fun r3 r9 r6 b19000_0 b9_5 v38=>(yV k).lp κ 5 [] k (Jm r3 r9 r6 b19000_0 b9_5 v38)) line a sys) (by kernel_rfl) (Eq.trans (by simp only [UT];rfl) (ag h))
def Df {S:Type} (k:Nat):Rw S:=ae abT bm fun line a sys c0 κ=>aa k (vn k line a sys c0) (eD κ)
def Sk {S:Type} (k:Nat):Fx S:=fp 21 [(93,fb k),(94,fc k),(183,LZ k)] [] k Tryz.f102 1
theorem Hz {S:Type} (o:Obj) (ho:ad o) (k:Nat):Tl o 102 (Df k:Rw S):=af (Sk k) ⟨fB o ho k,fC o ho k,Yj o ho k,trivial⟩ Tryz.func102 (by kernel_rfl) fun line a sys c0 κ x h=>Eq.trans (by kernel_rfl) (ag h)
def L0 {S:Type} (k:Nat):Rw S:=ae iX oY fun l c0_0 c0_1 c0_2 c0_3 c0_4 c0_5 c0_6 c0_7 κ=>aa k (Hc k l c0_0 c0_1 c0_2 c0_3 c0_4 c0_5 c0_6 c0_7) (CZ c0_1 c0_2 c0_3 c0_4 c0_5 c0_6 c0_7 κ)
def Sl {S:Type} (k:Nat):Fx S:=fx 100 (fun _=>[]) (fun _=>false) [(58,hJ k),(59,gw k),(102,Df k),(103,Dc k),(104,De k),(130,sL k),(162,LW k),(163,LV k)] [] k Tryz.f81 true [] 1
theorem Yk {S:Type} (o:Obj) (ho:ad o) (k:Nat):Tl o 81 (L0 k:Rw S):=af (Sl k) ⟨iJ o ho k,gX o ho k,Hz o ho k,Hw o ho k,Hy o ho k,vR o ho k,Yg o ho k,Yf o ho k,trivial⟩ Tryz.func81 (by kernel_rfl) fun l c0_0 c0_1 c0_2 c0_3 c0_4 c0_5 c0_6 c0_7 κ x h=>Eq.trans (by kernel_rfl) (ag h)
def Dg {S:Type} (k:Nat):Rw S:=ae iX bm fun t c0 κ=>aa k (AG k t c0) (eD κ)
def Sn {S:Type} (k:Nat):Fx S:=fp 9 [(29,x_ k),(130,sL k)] [] k Tryz.f67 1
theorem HA {S:Type} (o:Obj) (ho:ad o) (k:Nat):Tl o 67 (Dg k:Rw S):=af (Sn k) ⟨Bj o ho k,vR o ho k,trivial⟩ Tryz.func67 (by kernel_rfl) fun t c0 κ x h=>Eq.trans (by kernel_rfl) (ag h)
def sM {S:Type} (k:Nat):Rw S:=ae abU xn fun kind l kids κ=>aa k (mY k kind l kids) (Lh κ)
def So {S:Type} (k:Nat):Fx S:=fx 11 (fun _=>[]) (fun _=>false) [] [] k Tryz.f63 true [] 0
theorem vS {S:Type} (o:Obj) (ho:ad o) (k:Nat):Tl o 63 (sM k:Rw S):=af (So k) trivial Tryz.func63 (by kernel_rfl) fun kind l kids κ x h=>Eq.trans (by kernel_rfl) (ag h)
def L3 {S:Type} (k:Nat):Rw S:=ae c6 xn fun t κ=>aa k (GV k t) (jm κ)
def yW {S:Type} (k:Nat):Fx S:=fp 133 [(40,fI k),(41,jo (c5 k)),(42,xS k),(59,gw k),(63,sM k),(67,Dg k),(73,md k),(103,Dc k),(104,De k)] [(20,⟨[(1,.none),(2,.none),(6,.none),(8,.none),(9,.none),(10,.none),(11,some (100011,true)),(94,.none),(95,.none),(96,.none)],[(1,[.none,.none,.none,.none,.none,.none]),(2,[.none,.none,.none,some (200131,true),some (200132,true),some (200133,true)]),(6,[.none,.none,.none,.none,.none,.none]),(9,[.none,.none,.none,.none,.none,.none]),(10,[.none,.none,.none,.none,.none,some (200645,true)]),(44,[.none])]⟩,am 21 769727)] k Tryz.f82 0
def Jn (r3:Tm) (r15:Int×Int×ByteArray×List Cl×List Tm) (x4:Tm) (r13:Tm×Int) (x5:Tm) (b44_0:Int) (sys11:List (Br Tm)) (v96:Int):St UU:=⟨[(1,(pt 1)),(2,(pt 2)),(6,(pt 6)),(8,(pt 44)),(9,(pt 9)),(10,(pt 10)),(11,(.own 100011 0)),(94,(sB x5.sys)),(95,(.int .i64 (x5.sys.length:Int))),(96,(iI v96))],[(1,bT r3),(2,.cells [(iI 0),(iI 0),(.str ByteArray.empty),(.own 200131 0),(.own 200132 0),(.own 200133 0)]),(6,bT x4),(9,bT r13.1),(10,.cells [(iI r15.1),(iI r15.2.1),(.str r15.2.2.1),(sC r15.2.2.2.1),(sT r15.2.2.2.2),(.own 200645 0)]),(44,bI b44_0)],[(200645,⟨0,ET.B,([]:List (Br Tm))⟩),(200133,⟨0,ET.B,([]:List (Br Tm))⟩),(200132,⟨0,ET.T,([]:List Tm)⟩),(200131,⟨0,ET.C,([]:List Cl)⟩),(100011,⟨0,ET.B,sys11⟩)],[(200645,.wr),(200133,.wr),(200132,.wr),(200131,.wr),(100011,.wr)]⟩
section
variable {S:Type} (k:Nat) (t:Tm) (κ:Out UU→Option S)
theorem UV (r3 r15 x4 r13 x5): ∀n b44_0 sys11 v96,(yW k).lp κ 20 [] n (Jn r3 r15 x4 r13 x5 b44_0 sys11 v96)=B0 k (jm κ) r3 r15 x4 r13 x5 n b44_0 sys11 v96:=dT (F1 k (jm κ) r3 r15 x4 r13 x5) rfl (fun _=>rfl) fun r b44_0 sys11 v96=>by kernel_rfl
end
theorem Yl {S:Type} (o:Obj) (ho:ad o) (k:Nat):Tl o 82 (L3 k:Rw S):=af (yW k) ⟨f7 o ho k,lv o ho k,Bc o ho k,gX o ho k,vS o ho k,HA o ho k,ni o ho k,Hw o ho k,Hy o ho k,trivial⟩ Tryz.func82 (by kernel_rfl) fun t κ x h=>Eq.trans (b:=PT k (jm κ) (fun r3 r15 x4 r13 x5 b44_0 sys11 v96=>(yW k).lp κ 20 [] k (Jn r3 r15 x4 r13 x5 b44_0 sys11 v96)) t) (by kernel_rfl) (Eq.trans (by simp only [UV];rfl) (ag h))
def L4 {S:Type} (k:Nat):Rw S:=ae aa2 xn fun b κ=>aa k (GU k b) (Lg κ)
def Sq {S:Type} (k:Nat):Fx S:=fp 11 [(59,gw k)] [] k Tryz.f118 0
theorem Ym {S:Type} (o:Obj) (ho:ad o) (k:Nat):Tl o 118 (L4 k:Rw S):=af (Sq k) ⟨gX o ho k,trivial⟩ Tryz.func118 (by kernel_rfl) fun b κ x h=>Eq.trans (by kernel_rfl) (ag h)
def L5 {S:Type} (k:Nat):Rw S:=ae aa3 xn fun l κ=>aa k (GQ k l) (xx κ)
def yX {S:Type} (k:Nat):Fx S:=fx 22 (fun _=>[]) (fun _=>false) [(118,L4 k)] [(3,⟨[(1,.none),(5,some (100005,true)),(8,.none),(9,.none),(10,.none)],[]⟩,am 5 11)] k Tryz.f54 false [true] 0
def Jo (l:List (Br Tm)) (v10:Int) (out5:List (Br Tm)):St UU:=⟨[(1,(.func 118 [] [])),(5,(.own 100005 0)),(8,(sB l)),(9,(.int .i64 (l.length:Int))),(10,(iI v10))],[],[(100005,⟨0,ET.B,out5⟩)],[(100005,.wr)]⟩
section
variable {S:Type} (k:Nat) (l:List (Br Tm)) (κ:Out UU→Option S)
theorem UW: ∀n v10 out5,(yX k).lp κ 3 [] n (Jo l v10 out5)=BY k (xx κ) l n v10 out5:=aA (FZ k (xx κ) l) rfl (fun _=>rfl) fun r v10 out5=>by kernel_rfl
end
theorem Yn {S:Type} (o:Obj) (ho:ad o) (k:Nat):Tl o 54 (L5 k:Rw S):=af (yX k) ⟨Ym o ho k,trivial⟩ Tryz.func54 (by kernel_rfl) fun l κ x h=>Eq.trans (b:=PR k (xx κ) (fun v10 out5=>(yX k).lp κ 3 [] k (Jo l v10 out5)) l) (by kernel_rfl) (Eq.trans (by simp only [UW];rfl) (ag h))
def L6 {S:Type} (k:Nat):Rw S:=ae c6 xn fun g κ=>aa k (GT k g) (aft κ)
def Sr {S:Type} (k:Nat):Fx S:=fp 6 [(54,L5 k)] [] k Tryz.f53 0
theorem Yo {S:Type} (o:Obj) (ho:ad o) (k:Nat):Tl o 53 (L6 k:Rw S):=af (Sr k) ⟨Yn o ho k,trivial⟩ Tryz.func53 (by kernel_rfl) fun g κ x h=>Eq.trans (by kernel_rfl) (ag h)
def L7 {S:Type} (k:Nat):Rw S:=ae aa4 xn fun a es κ=>aa k (GS k a es) (Lh κ)
def Ss {S:Type} (k:Nat):Fx S:=fx 9 (fun _=>[]) (fun _=>false) [(63,sM k)] [] k Tryz.f57 true [] 0
theorem Yp {S:Type} (o:Obj) (ho:ad o) (k:Nat):Tl o 57 (L7 k:Rw S):=af (Ss k) ⟨vS o ho k,trivial⟩ Tryz.func57 (by kernel_rfl) fun a es κ x h=>Eq.trans (by kernel_rfl) (ag h)
def L8 {S:Type} (k:Nat):Rw S:=ae wD bm fun c c0 κ=>aa k (GD k c c0) (afu c0 κ)
def Su {S:Type} (k:Nat):Fx S:=fp 14 [(149,oH k)] [] k Tryz.f273 1
theorem Yq {S:Type} (o:Obj) (ho:ad o) (k:Nat):Tl o 273 (L8 k:Rw S):=af (Su k) ⟨qY o ho k,trivial⟩ Tryz.func273 (by kernel_rfl) fun c c0 κ x h=>Eq.trans (by kernel_rfl) (ag h)
def L9 {S:Type} (k:Nat):Rw S:=ae aa5 bm fun l c0 κ=>aa k (GF k l c0) (xy c0 κ)
def yY {S:Type} (k:Nat):Fx S:=fp 29 [(273,L8 k)] [(3,⟨[(1,.none),(5,some (100005,true)),(10,.none),(11,.none),(12,.none)],[(1000000,[.none])]⟩,am 5 11)] k Tryz.f272 1
def Jp (c0:Int) (l:List Cl) (v12:Int) (out5:List Cl):St UU:=⟨[(1,(.func 273 [] [(pt 1000000)])),(5,(.own 100005 0)),(10,(sC l)),(11,(.int .i64 (l.length:Int))),(12,(iI v12))],[(1000000,bI c0)],[(100005,⟨0,ET.C,out5⟩)],[(100005,.wr)]⟩
section
variable {S:Type} (k:Nat) (l:List Cl) (c0:Int) (κ:Out UU→Option S)
theorem UX: ∀n v12 out5,(yY k).lp κ 3 [] n (Jp c0 l v12 out5)=BS k (xy c0 κ) c0 l n v12 out5:=aA (FT k (xy c0 κ) c0 l) rfl (fun _=>rfl) fun r v12 out5=>by kernel_rfl
end
theorem Yr {S:Type} (o:Obj) (ho:ad o) (k:Nat):Tl o 272 (L9 k:Rw S):=af (yY k) ⟨Yq o ho k,trivial⟩ Tryz.func272 (by kernel_rfl) fun l c0 κ x h=>Eq.trans (b:=Py k (xy c0 κ) (fun v12 out5=>(yY k).lp κ 3 [] k (Jp c0 l v12 out5)) l c0) (by kernel_rfl) (Eq.trans (by simp only [UX];rfl) (ag h))
def L_ {S:Type} (k:Nat):Rw S:=ae wE xn fun f i κ=>aa k (GC k f i) (aq κ)
def Sv {S:Type} (k:Nat):Fx S:=fp 20 [(146,gx k),(205,oG k),(239,DD k),(272,L9 k)] [] k Tryz.f218 0
theorem Ys {S:Type} (o:Obj) (ho:ad o) (k:Nat):Tl o 218 (L_ k:Rw S):=af (Sv k) ⟨gY o ho k,qX o ho k,HP o ho k,Yr o ho k,trivial⟩ Tryz.func218 (by kernel_rfl) fun f i κ x h=>Eq.trans (by kernel_rfl) (ag h)
def Ma {S:Type} (k:Nat):Rw S:=ae II bm fun f c0 κ=>aa k (G4 k f c0) (xm κ)
def Sw {S:Type} (k:Nat):Fx S:=fp 39 [(28,oF k),(58,hJ k),(93,fb k),(94,fc k),(143,xV k),(218,L_ k)] [] k Tryz.f131 1
theorem Yt {S:Type} (o:Obj) (ho:ad o) (k:Nat):Tl o 131 (Ma k:Rw S):=af (Sw k) ⟨qW o ho k,iJ o ho k,fB o ho k,fC o ho k,Be o ho k,Ys o ho k,trivial⟩ Tryz.func131 (by kernel_rfl) fun f c0 κ x h=>Eq.trans (by kernel_rfl) (ag h)
end
end Go.Proofs.YtgajalidbabccaaGreatDoor
namespace Go.Proofs.YtgajalidbabccaaGreatDoor
open Go PI
set_option linter.unusedVariables false
set_option maxRecDepth 100000
noncomputable section
def afI {S:Type} (k:Nat):Rw S:=ae wC FH fun c1 c2_0 c2_1 c2_2 c2_3 c2_4 c2_5 c2_6 c2_7 c2_8 c2_9 c2_10 c2_11 c2_12 c2_13 c2_14 c2_15 c2_16 c2_17 c2_18 c2_19 c2_20 κ=>aa k (qx k c1 c2_0 c2_1 c2_2 c2_3 c2_4 c2_5 c2_6 c2_7 c2_8 c2_9 c2_10 c2_11 c2_12 c2_13 c2_14 c2_15 c2_16 c2_17 c2_18 c2_19 c2_20) (Lj c1 c2_1 c2_2 c2_3 c2_4 c2_5 c2_6 c2_7 c2_8 c2_9 c2_10 c2_11 c2_12 c2_13 c2_14 c2_15 c2_16 c2_17 c2_18 c2_19 c2_20 κ)
def Mb {S:Type} (k:Nat):Rw S:=ae wC FH fun c1 c2_0 c2_1 c2_2 c2_3 c2_4 c2_5 c2_6 c2_7 c2_8 c2_9 c2_10 c2_11 c2_12 c2_13 c2_14 c2_15 c2_16 c2_17 c2_18 c2_19 c2_20 κ=>aa k (qx k c1 c2_0 c2_1 c2_2 c2_3 c2_4 c2_5 c2_6 c2_7 c2_8 c2_9 c2_10 c2_11 c2_12 c2_13 c2_14 c2_15 c2_16 c2_17 c2_18 c2_19 c2_20) (afv κ)
def Sx {S:Type} (k:Nat):Fx S:=fp 8 [(56,mi k)] [] k Tryz.f132 3
theorem Yv {S:Type} (o:Obj) (ho:ad o) (k:Nat):Tl o 132 (afI k:Rw S):=af (Sx k) ⟨nq o ho k,trivial⟩ Tryz.func132 (by kernel_rfl) fun c1 c2_0 c2_1 c2_2 c2_3 c2_4 c2_5 c2_6 c2_7 c2_8 c2_9 c2_10 c2_11 c2_12 c2_13 c2_14 c2_15 c2_16 c2_17 c2_18 c2_19 c2_20 κ x h=>Eq.trans (by kernel_rfl) (ag h)
theorem Yu {S:Type} (o:Obj) (ho:ad o) (k:Nat):Tl o 132 (Mb k:Rw S):=Fv (n:=2) (m:=1) (Yv o ho k) fun c1 c2_0 c2_1 c2_2 c2_3 c2_4 c2_5 c2_6 c2_7 c2_8 c2_9 c2_10 c2_11 c2_12 c2_13 c2_14 c2_15 c2_16 c2_17 c2_18 c2_19 c2_20 κ x h=>Eq.trans (b:=aa k (qx k c1 c2_0 c2_1 c2_2 c2_3 c2_4 c2_5 c2_6 c2_7 c2_8 c2_9 c2_10 c2_11 c2_12 c2_13 c2_14 c2_15 c2_16 c2_17 c2_18 c2_19 c2_20) (Lj c1 c2_1 c2_2 c2_3 c2_4 c2_5 c2_6 c2_7 c2_8 c2_9 c2_10 c2_11 c2_12 c2_13 c2_14 c2_15 c2_16 c2_17 c2_18 c2_19 c2_20 (qc 2 1 [.cells [(pt 2)],bT c1,.cells [(iI c2_0),(sC c2_1),(iI c2_2),(iI c2_3),(.str c2_4),(sC c2_5),(sT c2_6),(sB c2_7),(sB c2_8),(iI c2_9),(iI c2_10),(.str c2_11),(sC c2_12),(sT c2_13),(sB c2_14),(iI c2_15),(iI c2_16),(.str c2_17),(sC c2_18),(sT c2_19),(sB c2_20)]] κ))) (by kernel_rfl) (Eq.trans (congrArg (aa k (qx k c1 c2_0 c2_1 c2_2 c2_3 c2_4 c2_5 c2_6 c2_7 c2_8 c2_9 c2_10 c2_11 c2_12 c2_13 c2_14 c2_15 c2_16 c2_17 c2_18 c2_19 c2_20)) (funext fun r=>if_pos ⟨rfl,rfl⟩)) h)
def Mc {S:Type} (k:Nat):Rw S:=ae aa6 ajF fun c0_0 c0_1 c0_2 c0_3 c0_4 c0_5 c0_6 c0_7 c0_8 c0_9 c0_10 c0_11 c0_12 c0_13 c0_14 c0_15 c0_16 c0_17 c0_18 c0_19 c0_20 c2 κ=>aa k (GN k c0_0 c0_1 c0_2 c0_3 c0_4 c0_5 c0_6 c0_7 c0_8 c0_9 c0_10 c0_11 c0_12 c0_13 c0_14 c0_15 c0_16 c0_17 c0_18 c0_19 c0_20 c2) (afw c0_1 c0_2 c0_3 c0_4 c0_5 c0_6 c0_7 c0_8 c0_9 c0_10 c0_11 c0_12 c0_13 c0_14 c0_15 c0_16 c0_17 c0_18 c0_19 c0_20 c2 κ)
def Sy {S:Type} (k:Nat):Fx S:=fx 20 (fun _=>[]) (fun _=>false) [(59,gw k),(132,Mb k)] [] k Tryz.f71 true [false,true] 3
theorem Yw {S:Type} (o:Obj) (ho:ad o) (k:Nat):Tl o 71 (Mc k:Rw S):=af (Sy k) ⟨gX o ho k,Yu o ho k,trivial⟩ Tryz.func71 (by kernel_rfl) fun c0_0 c0_1 c0_2 c0_3 c0_4 c0_5 c0_6 c0_7 c0_8 c0_9 c0_10 c0_11 c0_12 c0_13 c0_14 c0_15 c0_16 c0_17 c0_18 c0_19 c0_20 c2 κ x h=>Eq.trans (by kernel_rfl) (ag h)
def xK {S:Type} (k:Nat):Rw S:=ae c6 xn fun a_e κ=>aa k (vi k a_e) (xg κ)
def SA {S:Type} (k:Nat):Fx S:=fx 6 (fun _=>[]) (fun _=>false) [(58,hJ k)] [] k Tryz.f61 true [] 0
theorem A6 {S:Type} (o:Obj) (ho:ad o) (k:Nat):Tl o 61 (xK k:Rw S):=af (SA k) ⟨iJ o ho k,trivial⟩ Tryz.func61 (by kernel_rfl) fun a_e κ x h=>Eq.trans (by kernel_rfl) (ag h)
def Me {S:Type} (k:Nat):Rw S:=ae Iw oX fun b c1_0 c1_1 c1_2 c1_3 c1_4 c1_5 c1_6 c1_7 c1_8 c1_9 c1_10 c1_11 c1_12 c1_13 c1_14 c1_15 c1_16 c1_17 c1_18 c1_19 c1_20 κ=>aa k (GJ k b c1_0 c1_1 c1_2 c1_3 c1_4 c1_5 c1_6 c1_7 c1_8 c1_9 c1_10 c1_11 c1_12 c1_13 c1_14 c1_15 c1_16 c1_17 c1_18 c1_19 c1_20) (afx c1_1 c1_2 c1_3 c1_4 c1_5 c1_6 c1_7 c1_8 c1_9 c1_10 c1_11 c1_12 c1_13 c1_14 c1_15 c1_16 c1_17 c1_18 c1_19 c1_20 κ)
def SB {S:Type} (k:Nat):Fx S:=fp 31 [(58,hJ k),(59,gw k),(61,xK k),(134,Da k)] [] k Tryz.f133 2
theorem Yy {S:Type} (o:Obj) (ho:ad o) (k:Nat):Tl o 133 (Me k:Rw S):=af (SB k) ⟨iJ o ho k,gX o ho k,A6 o ho k,Hu o ho k,trivial⟩ Tryz.func133 (by kernel_rfl) fun b c1_0 c1_1 c1_2 c1_3 c1_4 c1_5 c1_6 c1_7 c1_8 c1_9 c1_10 c1_11 c1_12 c1_13 c1_14 c1_15 c1_16 c1_17 c1_18 c1_19 c1_20 κ x h=>Eq.trans (by kernel_rfl) (ag h)
def Mf {S:Type} (k:Nat):Rw S:=ae aa7 oX fun l c1_0 c1_1 c1_2 c1_3 c1_4 c1_5 c1_6 c1_7 c1_8 c1_9 c1_10 c1_11 c1_12 c1_13 c1_14 c1_15 c1_16 c1_17 c1_18 c1_19 c1_20 κ=>aa k (GP k l c1_0 c1_1 c1_2 c1_3 c1_4 c1_5 c1_6 c1_7 c1_8 c1_9 c1_10 c1_11 c1_12 c1_13 c1_14 c1_15 c1_16 c1_17 c1_18 c1_19 c1_20) (xz c1_1 c1_2 c1_3 c1_4 c1_5 c1_6 c1_7 c1_8 c1_9 c1_10 c1_11 c1_12 c1_13 c1_14 c1_15 c1_16 c1_17 c1_18 c1_19 c1_20 κ)
def yZ {S:Type} (k:Nat):Fx S:=fx 22 (fun _=>[]) (fun _=>false) [(133,Me k)] [(3,⟨[(1,.none),(5,some (100005,true)),(8,.none),(9,.none),(10,.none)],[(1000000,[.none]),(1000001,[.none,.none,.none,.none,.none,.none,.none,.none,.none,.none,.none,.none,.none,.none,.none,.none,.none,.none,.none,.none,.none])]⟩,am 5 11)] k Tryz.f54 false [true] 2
def Jq (c1_1:List Cl) (c1_10:Int) (c1_11:ByteArray) (c1_12:List Cl) (c1_13:List Tm) (c1_14:List (Br Tm)) (c1_15 c1_16:Int) (c1_17:ByteArray) (c1_18:List Cl) (c1_19:List Tm) (c1_2:Int) (c1_20:List (Br Tm)) (c1_3:Int) (c1_4:ByteArray) (c1_5:List Cl) (c1_6:List Tm) (c1_7 c1_8:List (Br Tm)) (c1_9:Int) (l:List (Br Tm)) (e1_0 v10:Int) (out5:List (Br Tm)):St UU:=⟨[(1,(.func 133 [] [(pt 1000000)])),(5,(.own 100005 0)),(8,(sB l)),(9,(.int .i64 (l.length:Int))),(10,(iI v10))],[(1000000,.cells [(pt 1000001)]),(1000001,.cells [(iI e1_0),(sC c1_1),(iI c1_2),(iI c1_3),(.str c1_4),(sC c1_5),(sT c1_6),(sB c1_7),(sB c1_8),(iI c1_9),(iI c1_10),(.str c1_11),(sC c1_12),(sT c1_13),(sB c1_14),(iI c1_15),(iI c1_16),(.str c1_17),(sC c1_18),(sT c1_19),(sB c1_20)])],[(100005,⟨0,ET.B,out5⟩)],[(100005,.wr)]⟩
section
variable {S:Type} (k:Nat) (l:List (Br Tm)) (c1_0:Int) (c1_1:List Cl) (c1_2 c1_3:Int) (c1_4:ByteArray) (c1_5:List Cl) (c1_6:List Tm) (c1_7 c1_8:List (Br Tm)) (c1_9 c1_10:Int) (c1_11:ByteArray) (c1_12:List Cl) (c1_13:List Tm) (c1_14:List (Br Tm)) (c1_15 c1_16:Int) (c1_17:ByteArray) (c1_18:List Cl) (c1_19:List Tm) (c1_20:List (Br Tm)) (κ:Out UU→Option S)
theorem UY: ∀n e1_0 v10 out5,(yZ k).lp κ 3 [] n (Jq c1_1 c1_10 c1_11 c1_12 c1_13 c1_14 c1_15 c1_16 c1_17 c1_18 c1_19 c1_2 c1_20 c1_3 c1_4 c1_5 c1_6 c1_7 c1_8 c1_9 l e1_0 v10 out5)=BW k (xz c1_1 c1_2 c1_3 c1_4 c1_5 c1_6 c1_7 c1_8 c1_9 c1_10 c1_11 c1_12 c1_13 c1_14 c1_15 c1_16 c1_17 c1_18 c1_19 c1_20 κ) c1_1 c1_10 c1_11 c1_12 c1_13 c1_14 c1_15 c1_16 c1_17 c1_18 c1_19 c1_2 c1_20 c1_3 c1_4 c1_5 c1_6 c1_7 c1_8 c1_9 l n e1_0 v10 out5:=dT (FX k (xz c1_1 c1_2 c1_3 c1_4 c1_5 c1_6 c1_7 c1_8 c1_9 c1_10 c1_11 c1_12 c1_13 c1_14 c1_15 c1_16 c1_17 c1_18 c1_19 c1_20 κ) c1_1 c1_10 c1_11 c1_12 c1_13 c1_14 c1_15 c1_16 c1_17 c1_18 c1_19 c1_2 c1_20 c1_3 c1_4 c1_5 c1_6 c1_7 c1_8 c1_9 l) rfl (fun _=>rfl) fun r e1_0 v10 out5=>by kernel_rfl
end
theorem Yz {S:Type} (o:Obj) (ho:ad o) (k:Nat):Tl o 54 (Mf k:Rw S):=af (yZ k) ⟨Yy o ho k,trivial⟩ Tryz.func54 (by kernel_rfl) fun l c1_0 c1_1 c1_2 c1_3 c1_4 c1_5 c1_6 c1_7 c1_8 c1_9 c1_10 c1_11 c1_12 c1_13 c1_14 c1_15 c1_16 c1_17 c1_18 c1_19 c1_20 κ x h=>Eq.trans (b:=PP k (xz c1_1 c1_2 c1_3 c1_4 c1_5 c1_6 c1_7 c1_8 c1_9 c1_10 c1_11 c1_12 c1_13 c1_14 c1_15 c1_16 c1_17 c1_18 c1_19 c1_20 κ) (fun e1_0 v10 out5=>(yZ k).lp κ 3 [] k (Jq c1_1 c1_10 c1_11 c1_12 c1_13 c1_14 c1_15 c1_16 c1_17 c1_18 c1_19 c1_2 c1_20 c1_3 c1_4 c1_5 c1_6 c1_7 c1_8 c1_9 l e1_0 v10 out5)) l c1_0 c1_1 c1_2 c1_3 c1_4 c1_5 c1_6 c1_7 c1_8 c1_9 c1_10 c1_11 c1_12 c1_13 c1_14 c1_15 c1_16 c1_17 c1_18 c1_19 c1_20) (by kernel_rfl) (Eq.trans (by simp only [UY];rfl) (ag h))
def Mg {S:Type} (k:Nat):Rw S:=ae iX ajG fun g c0_0 c0_1 c0_2 c0_3 c0_4 c0_5 c0_6 c0_7 c0_9 c0_10 c0_11 c0_12 c0_13 c0_14 c0_15 c0_16 c0_17 c0_18 c0_19 c0_20 κ=>aa k (GK k g c0_0 c0_1 c0_2 c0_3 c0_4 c0_5 c0_6 c0_7 c0_9 c0_10 c0_11 c0_12 c0_13 c0_14 c0_15 c0_16 c0_17 c0_18 c0_19 c0_20) (xA c0_1 c0_2 c0_3 c0_4 c0_5 c0_6 c0_7 c0_15 c0_16 c0_17 c0_18 c0_19 c0_20 κ)
def y6 {S:Type} (k:Nat):Fx S:=fp 74 [(53,L6 k),(54,Mf k),(57,L7 k),(59,gw k),(71,Mc k),(102,Df k),(130,sL k),(131,Ma k)] [(3,⟨[(2,.none),(3,.none),(4,.none),(21,.none),(22,.none),(23,.none)],[(2,[.none]),(3,[.none,.none,.none,.none,.none,.none]),(4,[.none,.none,.none,some (200259,true),.none,.none]),(1000000,[.none,.none,.none,.none,.none,.none,.none,.none,some (64200008,true),.none,.none,.none,.none,.none,.none,.none,.none,.none,.none,.none,.none])]⟩,am 5 11)] k Tryz.f66 1
def Jr (c0_1:List Cl) (c0_10:Int) (c0_11:ByteArray) (c0_12:List Cl) (c0_13:List Tm) (c0_14:List (Br Tm)) (c0_15 c0_16:Int) (c0_17:ByteArray) (c0_18:List Cl) (c0_19:List Tm) (c0_2:Int) (c0_20:List (Br Tm)) (c0_3:Int) (c0_4:ByteArray) (c0_5:List Cl) (c0_6:List Tm) (c0_7:List (Br Tm)) (c0_9:Int) (g:Tm) (r3:Int×Int×ByteArray×List Tm×List (Br Tm)) (e0_0:Int) (e0_8:List (Br Tm)) (v23:Int):St UU:=⟨[(2,(pt 2)),(3,(pt 3)),(4,(pt 4)),(21,(sB g.sys)),(22,(.int .i64 (g.sys.length:Int))),(23,(iI v23))],[(2,.cells [(pt 1000000)]),(3,bT g),(4,.cells [(iI r3.1),(iI r3.2.1),(.str r3.2.2.1),(.own 200259 0),(sT r3.2.2.2.1),(sB r3.2.2.2.2)]),(1000000,.cells [(iI e0_0),(sC c0_1),(iI c0_2),(iI c0_3),(.str c0_4),(sC c0_5),(sT c0_6),(sB c0_7),(.own 64200008 0),(iI c0_9),(iI c0_10),(.str c0_11),(sC c0_12),(sT c0_13),(sB c0_14),(iI c0_15),(iI c0_16),(.str c0_17),(sC c0_18),(sT c0_19),(sB c0_20)])],[(64200008,⟨0,ET.B,e0_8⟩),(200259,⟨0,ET.C,([]:List Cl)⟩)],[(64200008,.wr),(200259,.wr)]⟩
section
variable {S:Type} (k:Nat) (g:Tm) (c0_0:Int) (c0_1:List Cl) (c0_2 c0_3:Int) (c0_4:ByteArray) (c0_5:List Cl) (c0_6:List Tm) (c0_7:List (Br Tm)) (c0_9 c0_10:Int) (c0_11:ByteArray) (c0_12:List Cl) (c0_13:List Tm) (c0_14:List (Br Tm)) (c0_15 c0_16:Int) (c0_17:ByteArray) (c0_18:List Cl) (c0_19:List Tm) (c0_20:List (Br Tm)) (κ:Out UU→Option S)
theorem UZ (r3): ∀n e0_0 e0_8 v23,(y6 k).lp κ 3 [] n (Jr c0_1 c0_10 c0_11 c0_12 c0_13 c0_14 c0_15 c0_16 c0_17 c0_18 c0_19 c0_2 c0_20 c0_3 c0_4 c0_5 c0_6 c0_7 c0_9 g r3 e0_0 e0_8 v23)=BV k (xA c0_1 c0_2 c0_3 c0_4 c0_5 c0_6 c0_7 c0_15 c0_16 c0_17 c0_18 c0_19 c0_20 κ) c0_1 c0_10 c0_11 c0_12 c0_13 c0_14 c0_15 c0_16 c0_17 c0_18 c0_19 c0_2 c0_20 c0_3 c0_4 c0_5 c0_6 c0_7 c0_9 g r3 n e0_0 e0_8 v23:=dT (FW k (xA c0_1 c0_2 c0_3 c0_4 c0_5 c0_6 c0_7 c0_15 c0_16 c0_17 c0_18 c0_19 c0_20 κ) c0_1 c0_10 c0_11 c0_12 c0_13 c0_14 c0_15 c0_16 c0_17 c0_18 c0_19 c0_2 c0_20 c0_3 c0_4 c0_5 c0_6 c0_7 c0_9 g r3) rfl (fun _=>rfl) fun r e0_0 e0_8 v23=>by kernel_rfl
end
theorem YA {S:Type} (o:Obj) (ho:ad o) (k:Nat):Tl o 66 (Mg k:Rw S):=af (y6 k) ⟨Yo o ho k,Yz o ho k,Yp o ho k,gX o ho k,Yw o ho k,Hz o ho k,vR o ho k,Yt o ho k,trivial⟩ Tryz.func66 (by kernel_rfl) fun g c0_0 c0_1 c0_2 c0_3 c0_4 c0_5 c0_6 c0_7 c0_9 c0_10 c0_11 c0_12 c0_13 c0_14 c0_15 c0_16 c0_17 c0_18 c0_19 c0_20 κ x h=>Eq.trans (b:=PO k (xA c0_1 c0_2 c0_3 c0_4 c0_5 c0_6 c0_7 c0_15 c0_16 c0_17 c0_18 c0_19 c0_20 κ) (fun r3 e0_0 e0_8 v23=>(y6 k).lp κ 3 [] k (Jr c0_1 c0_10 c0_11 c0_12 c0_13 c0_14 c0_15 c0_16 c0_17 c0_18 c0_19 c0_2 c0_20 c0_3 c0_4 c0_5 c0_6 c0_7 c0_9 g r3 e0_0 e0_8 v23)) g c0_0 c0_1 c0_2 c0_3 c0_4 c0_5 c0_6 c0_7 c0_9 c0_10 c0_11 c0_12 c0_13 c0_14 c0_15 c0_16 c0_17 c0_18 c0_19 c0_20) (by kernel_rfl) (Eq.trans (by simp only [UZ];rfl) (ag h))
def Mh {S:Type} (k:Nat):Rw S:=ae d6 xn fun a_n κ=>aa k (GB k a_n) (CY κ)
def SC {S:Type} (k:Nat):Fx S:=fx 5 (fun _=>[]) (fun _=>false) [] [] k Tryz.f187 true [] 0
theorem YB {S:Type} (o:Obj) (ho:ad o) (k:Nat):Tl o 187 (Mh k:Rw S):=af (SC k) trivial Tryz.func187 (by kernel_rfl) fun a_n κ x h=>Eq.trans (by kernel_rfl) (ag h)
def Mi {S:Type} (k:Nat):Rw S:=ae Ix bm fun t a f y c0 κ=>aa k (GA k t a f y c0) (afy κ)
def SD {S:Type} (k:Nat):Fx S:=fx 28 (fun _=>[]) (fun _=>false) [(186,sI k),(187,Mh k),(209,C5 k)] [] k Tryz.f262 true [] 1
theorem YC {S:Type} (o:Obj) (ho:ad o) (k:Nat):Tl o 262 (Mi k:Rw S):=af (SD k) ⟨vQ o ho k,YB o ho k,Hq o ho k,trivial⟩ Tryz.func262 (by kernel_rfl) fun t a f y c0 κ x h=>Eq.trans (by kernel_rfl) (ag h)
def Mj {S:Type} (k:Nat):Rw S:=ae aa8 xn fun t a f y κ=>aa k (Gx k t a f y) (dL κ)
def SE {S:Type} (k:Nat):Fx S:=fp 28 [(41,jo (c5 k)),(207,xX k),(213,xH k),(262,Mi k)] [] k Tryz.f220 0
theorem YD {S:Type} (o:Obj) (ho:ad o) (k:Nat):Tl o 220 (Mj k:Rw S):=af (SE k) ⟨lv o ho k,Bg o ho k,A4 o ho k,YC o ho k,trivial⟩ Tryz.func220 (by kernel_rfl) fun t a f y κ x h=>Eq.trans (by kernel_rfl) (ag h)
def Mk {S:Type} (k:Nat):Rw S:=ae Ix bm fun t a f y c0 κ=>aa k (G7 k t a f y c0) (eD κ)
def SF {S:Type} (k:Nat):Fx S:=fp 24 [(93,fb k),(94,fc k),(220,Mj k)] [] k Tryz.f136 1
theorem YE {S:Type} (o:Obj) (ho:ad o) (k:Nat):Tl o 136 (Mk k:Rw S):=af (SF k) ⟨fB o ho k,fC o ho k,YD o ho k,trivial⟩ Tryz.func136 (by kernel_rfl) fun t a f y c0 κ x h=>Eq.trans (by kernel_rfl) (ag h)
def Dh {S:Type} (k:Nat):Rw S:=ae IQ FH fun a_x c1 c2_0 c2_1 c2_2 c2_3 c2_4 c2_5 c2_6 c2_7 c2_8 c2_9 c2_10 c2_11 c2_12 c2_13 c2_14 c2_15 c2_16 c2_17 c2_18 c2_19 c2_20 κ=>aa k (AD k a_x c1 c2_0 c2_1 c2_2 c2_3 c2_4 c2_5 c2_6 c2_7 c2_8 c2_9 c2_10 c2_11 c2_12 c2_13 c2_14 c2_15 c2_16 c2_17 c2_18 c2_19 c2_20) (afz c1 c2_1 c2_2 c2_3 c2_4 c2_5 c2_6 c2_7 c2_8 c2_9 c2_10 c2_11 c2_12 c2_13 c2_14 c2_15 c2_16 c2_17 c2_18 c2_19 c2_20 κ)
def SG {S:Type} (k:Nat):Fx S:=fx 43 (fun _=>[]) (fun _=>false) [(56,mi k),(58,hJ k),(73,md k)] [] k Tryz.f135 true [] 3
theorem HB {S:Type} (o:Obj) (ho:ad o) (k:Nat):Tl o 135 (Dh k:Rw S):=af (SG k) ⟨nq o ho k,iJ o ho k,ni o ho k,trivial⟩ Tryz.func135 (by kernel_rfl) fun a_x c1 c2_0 c2_1 c2_2 c2_3 c2_4 c2_5 c2_6 c2_7 c2_8 c2_9 c2_10 c2_11 c2_12 c2_13 c2_14 c2_15 c2_16 c2_17 c2_18 c2_19 c2_20 κ x h=>Eq.trans (by kernel_rfl) (ag h)
def afJ {S:Type} (k:Nat):Rw S:=ae wC yH fun c2 c3_0 c3_1 c3_2 c3_3 c3_4 c3_5 c3_6 c3_7 c3_8 c3_9 c3_10 c3_11 c3_12 c3_13 c3_14 c3_15 c3_16 c3_17 c3_18 c3_19 c3_20 κ=>aa k (qy k c2 c3_0 c3_1 c3_2 c3_3 c3_4 c3_5 c3_6 c3_7 c3_8 c3_9 c3_10 c3_11 c3_12 c3_13 c3_14 c3_15 c3_16 c3_17 c3_18 c3_19 c3_20) (Lk c2 c3_1 c3_2 c3_3 c3_4 c3_5 c3_6 c3_7 c3_8 c3_9 c3_10 c3_11 c3_12 c3_13 c3_14 c3_15 c3_16 c3_17 c3_18 c3_19 c3_20 κ)
def Ml {S:Type} (k:Nat):Rw S:=ae wC yH fun c2 c3_0 c3_1 c3_2 c3_3 c3_4 c3_5 c3_6 c3_7 c3_8 c3_9 c3_10 c3_11 c3_12 c3_13 c3_14 c3_15 c3_16 c3_17 c3_18 c3_19 c3_20 κ=>aa k (qy k c2 c3_0 c3_1 c3_2 c3_3 c3_4 c3_5 c3_6 c3_7 c3_8 c3_9 c3_10 c3_11 c3_12 c3_13 c3_14 c3_15 c3_16 c3_17 c3_18 c3_19 c3_20) (afA κ)
def SH {S:Type} (k:Nat):Fx S:=fx 9 (fun _=>[]) (fun _=>false) [(135,Dh k)] [] k Tryz.f137 true [] 4
theorem YG {S:Type} (o:Obj) (ho:ad o) (k:Nat):Tl o 137 (afJ k:Rw S):=af (SH k) ⟨HB o ho k,trivial⟩ Tryz.func137 (by kernel_rfl) fun c2 c3_0 c3_1 c3_2 c3_3 c3_4 c3_5 c3_6 c3_7 c3_8 c3_9 c3_10 c3_11 c3_12 c3_13 c3_14 c3_15 c3_16 c3_17 c3_18 c3_19 c3_20 κ x h=>Eq.trans (by kernel_rfl) (ag h)
theorem YF {S:Type} (o:Obj) (ho:ad o) (k:Nat):Tl o 137 (Ml k:Rw S):=Fv (n:=3) (m:=1) (YG o ho k) fun c2 c3_0 c3_1 c3_2 c3_3 c3_4 c3_5 c3_6 c3_7 c3_8 c3_9 c3_10 c3_11 c3_12 c3_13 c3_14 c3_15 c3_16 c3_17 c3_18 c3_19 c3_20 κ x h=>Eq.trans (b:=aa k (qy k c2 c3_0 c3_1 c3_2 c3_3 c3_4 c3_5 c3_6 c3_7 c3_8 c3_9 c3_10 c3_11 c3_12 c3_13 c3_14 c3_15 c3_16 c3_17 c3_18 c3_19 c3_20) (Lk c2 c3_1 c3_2 c3_3 c3_4 c3_5 c3_6 c3_7 c3_8 c3_9 c3_10 c3_11 c3_12 c3_13 c3_14 c3_15 c3_16 c3_17 c3_18 c3_19 c3_20 (qc 3 1 [.cells [(.func 135 [] [(pt 1),(pt 2)])],.cells [(pt 3)],bT c2,.cells [(iI c3_0),(sC c3_1),(iI c3_2),(iI c3_3),(.str c3_4),(sC c3_5),(sT c3_6),(sB c3_7),(sB c3_8),(iI c3_9),(iI c3_10),(.str c3_11),(sC c3_12),(sT c3_13),(sB c3_14),(iI c3_15),(iI c3_16),(.str c3_17),(sC c3_18),(sT c3_19),(sB c3_20)]] κ))) (by kernel_rfl) (Eq.trans (congrArg (aa k (qy k c2 c3_0 c3_1 c3_2 c3_3 c3_4 c3_5 c3_6 c3_7 c3_8 c3_9 c3_10 c3_11 c3_12 c3_13 c3_14 c3_15 c3_16 c3_17 c3_18 c3_19 c3_20)) (funext fun r=>if_pos ⟨rfl,rfl⟩)) h)
def Mn {S:Type} (k:Nat):Rw S:=ae aa9 ajH fun c0_0 c0_1 c0_2 c0_3 c0_4 c0_5 c0_6 c0_7 c0_8 c0_9 c0_10 c0_11 c0_12 c0_13 c0_14 c0_15 c0_16 c0_17 c0_18 c0_19 c0_20 c3 κ=>aa k (GO k c0_0 c0_1 c0_2 c0_3 c0_4 c0_5 c0_6 c0_7 c0_8 c0_9 c0_10 c0_11 c0_12 c0_13 c0_14 c0_15 c0_16 c0_17 c0_18 c0_19 c0_20 c3) (afB c0_1 c0_2 c0_3 c0_4 c0_5 c0_6 c0_7 c0_8 c0_9 c0_10 c0_11 c0_12 c0_13 c0_14 c0_15 c0_16 c0_17 c0_18 c0_19 c0_20 c3 κ)
def SJ {S:Type} (k:Nat):Fx S:=fx 20 (fun _=>[]) (fun _=>false) [(59,gw k),(137,Ml k)] [] k Tryz.f71 true [false,true] 4
theorem YI {S:Type} (o:Obj) (ho:ad o) (k:Nat):Tl o 71 (Mn k:Rw S):=af (SJ k) ⟨gX o ho k,YF o ho k,trivial⟩ Tryz.func71 (by kernel_rfl) fun c0_0 c0_1 c0_2 c0_3 c0_4 c0_5 c0_6 c0_7 c0_8 c0_9 c0_10 c0_11 c0_12 c0_13 c0_14 c0_15 c0_16 c0_17 c0_18 c0_19 c0_20 c3 κ x h=>Eq.trans (by kernel_rfl) (ag h)
def Mo {S:Type} (k:Nat):Rw S:=ae aa_ yH fun b c2 c3_0 c3_1 c3_2 c3_3 c3_4 c3_5 c3_6 c3_7 c3_8 c3_9 c3_10 c3_11 c3_12 c3_13 c3_14 c3_15 c3_16 c3_17 c3_18 c3_19 c3_20 κ=>aa k (GL k b c2 c3_0 c3_1 c3_2 c3_3 c3_4 c3_5 c3_6 c3_7 c3_8 c3_9 c3_10 c3_11 c3_12 c3_13 c3_14 c3_15 c3_16 c3_17 c3_18 c3_19 c3_20) (afC c2 c3_1 c3_2 c3_3 c3_4 c3_5 c3_6 c3_7 c3_8 c3_9 c3_10 c3_11 c3_12 c3_13 c3_14 c3_15 c3_16 c3_17 c3_18 c3_19 c3_20 κ)
def SK {S:Type} (k:Nat):Fx S:=fp 25 [(59,gw k),(73,md k),(135,Dh k)] [] k Tryz.f138 4
theorem YJ {S:Type} (o:Obj) (ho:ad o) (k:Nat):Tl o 138 (Mo k:Rw S):=af (SK k) ⟨gX o ho k,ni o ho k,HB o ho k,trivial⟩ Tryz.func138 (by kernel_rfl) fun b c2 c3_0 c3_1 c3_2 c3_3 c3_4 c3_5 c3_6 c3_7 c3_8 c3_9 c3_10 c3_11 c3_12 c3_13 c3_14 c3_15 c3_16 c3_17 c3_18 c3_19 c3_20 κ x h=>Eq.trans (by kernel_rfl) (ag h)
def Mp {S:Type} (k:Nat):Rw S:=ae aba yH fun l c2 c3_0 c3_1 c3_2 c3_3 c3_4 c3_5 c3_6 c3_7 c3_8 c3_9 c3_10 c3_11 c3_12 c3_13 c3_14 c3_15 c3_16 c3_17 c3_18 c3_19 c3_20 κ=>aa k (GR k l c2 c3_0 c3_1 c3_2 c3_3 c3_4 c3_5 c3_6 c3_7 c3_8 c3_9 c3_10 c3_11 c3_12 c3_13 c3_14 c3_15 c3_16 c3_17 c3_18 c3_19 c3_20) (xB c2 c3_1 c3_2 c3_3 c3_4 c3_5 c3_6 c3_7 c3_8 c3_9 c3_10 c3_11 c3_12 c3_13 c3_14 c3_15 c3_16 c3_17 c3_18 c3_19 c3_20 κ)
def y7 {S:Type} (k:Nat):Fx S:=fx 22 (fun _=>[]) (fun _=>false) [(138,Mo k)] [(3,⟨[(1,.none),(5,some (100005,true)),(8,.none),(9,.none),(10,.none)],[(1000000,[.none]),(1000001,[.none]),(1000002,[.none,.none,.none,.none,.none,.none]),(1000003,[.none,.none,.none,.none,.none,.none,.none,.none,.none,.none,.none,.none,.none,.none,.none,.none,.none,.none,.none,.none,.none])]⟩,am 5 11)] k Tryz.f54 false [true] 4
def Js (c2:Tm) (c3_1:List Cl) (c3_10:Int) (c3_11:ByteArray) (c3_12:List Cl) (c3_13:List Tm) (c3_14:List (Br Tm)) (c3_15 c3_16:Int) (c3_17:ByteArray) (c3_18:List Cl) (c3_19:List Tm) (c3_2:Int) (c3_20:List (Br Tm)) (c3_3:Int) (c3_4:ByteArray) (c3_5:List Cl) (c3_6:List Tm) (c3_7 c3_8:List (Br Tm)) (c3_9:Int) (l:List (Br Tm)) (e3_0 v10:Int) (out5:List (Br Tm)):St UU:=⟨[(1,(.func 138 [] [(pt 1000000),(pt 1000001)])),(5,(.own 100005 0)),(8,(sB l)),(9,(.int .i64 (l.length:Int))),(10,(iI v10))],[(1000000,.cells [(.func 135 [] [(pt 1000001),(pt 1000002)])]),(1000001,.cells [(pt 1000003)]),(1000002,bT c2),(1000003,.cells [(iI e3_0),(sC c3_1),(iI c3_2),(iI c3_3),(.str c3_4),(sC c3_5),(sT c3_6),(sB c3_7),(sB c3_8),(iI c3_9),(iI c3_10),(.str c3_11),(sC c3_12),(sT c3_13),(sB c3_14),(iI c3_15),(iI c3_16),(.str c3_17),(sC c3_18),(sT c3_19),(sB c3_20)])],[(100005,⟨0,ET.B,out5⟩)],[(100005,.wr)]⟩
section
variable {S:Type} (k:Nat) (l:List (Br Tm)) (c2:Tm) (c3_0:Int) (c3_1:List Cl) (c3_2 c3_3:Int) (c3_4:ByteArray) (c3_5:List Cl) (c3_6:List Tm) (c3_7 c3_8:List (Br Tm)) (c3_9 c3_10:Int) (c3_11:ByteArray) (c3_12:List Cl) (c3_13:List Tm) (c3_14:List (Br Tm)) (c3_15 c3_16:Int) (c3_17:ByteArray) (c3_18:List Cl) (c3_19:List Tm) (c3_20:List (Br Tm)) (κ:Out UU→Option S)
theorem U0: ∀n e3_0 v10 out5,(y7 k).lp κ 3 [] n (Js c2 c3_1 c3_10 c3_11 c3_12 c3_13 c3_14 c3_15 c3_16 c3_17 c3_18 c3_19 c3_2 c3_20 c3_3 c3_4 c3_5 c3_6 c3_7 c3_8 c3_9 l e3_0 v10 out5)=BZ k (xB c2 c3_1 c3_2 c3_3 c3_4 c3_5 c3_6 c3_7 c3_8 c3_9 c3_10 c3_11 c3_12 c3_13 c3_14 c3_15 c3_16 c3_17 c3_18 c3_19 c3_20 κ) c2 c3_1 c3_10 c3_11 c3_12 c3_13 c3_14 c3_15 c3_16 c3_17 c3_18 c3_19 c3_2 c3_20 c3_3 c3_4 c3_5 c3_6 c3_7 c3_8 c3_9 l n e3_0 v10 out5:=dT (F0 k (xB c2 c3_1 c3_2 c3_3 c3_4 c3_5 c3_6 c3_7 c3_8 c3_9 c3_10 c3_11 c3_12 c3_13 c3_14 c3_15 c3_16 c3_17 c3_18 c3_19 c3_20 κ) c2 c3_1 c3_10 c3_11 c3_12 c3_13 c3_14 c3_15 c3_16 c3_17 c3_18 c3_19 c3_2 c3_20 c3_3 c3_4 c3_5 c3_6 c3_7 c3_8 c3_9 l) rfl (fun _=>rfl) fun r e3_0 v10 out5=>by kernel_rfl
end
theorem YK {S:Type} (o:Obj) (ho:ad o) (k:Nat):Tl o 54 (Mp k:Rw S):=af (y7 k) ⟨YJ o ho k,trivial⟩ Tryz.func54 (by kernel_rfl) fun l c2 c3_0 c3_1 c3_2 c3_3 c3_4 c3_5 c3_6 c3_7 c3_8 c3_9 c3_10 c3_11 c3_12 c3_13 c3_14 c3_15 c3_16 c3_17 c3_18 c3_19 c3_20 κ x h=>Eq.trans (b:=PS k (xB c2 c3_1 c3_2 c3_3 c3_4 c3_5 c3_6 c3_7 c3_8 c3_9 c3_10 c3_11 c3_12 c3_13 c3_14 c3_15 c3_16 c3_17 c3_18 c3_19 c3_20 κ) (fun e3_0 v10 out5=>(y7 k).lp κ 3 [] k (Js c2 c3_1 c3_10 c3_11 c3_12 c3_13 c3_14 c3_15 c3_16 c3_17 c3_18 c3_19 c3_2 c3_20 c3_3 c3_4 c3_5 c3_6 c3_7 c3_8 c3_9 l e3_0 v10 out5)) l c2 c3_0 c3_1 c3_2 c3_3 c3_4 c3_5 c3_6 c3_7 c3_8 c3_9 c3_10 c3_11 c3_12 c3_13 c3_14 c3_15 c3_16 c3_17 c3_18 c3_19 c3_20) (by kernel_rfl) (Eq.trans (by simp only [U0];rfl) (ag h))
def Mq {S:Type} (k:Nat):Rw S:=ae wH ajI fun t a_e c0_0 c0_1 c0_2 c0_3 c0_4 c0_5 c0_6 c0_7 c0_8 c0_9 c0_10 c0_11 c0_12 c0_13 c0_14 c0_15 c0_16 c0_17 c0_18 c0_19 c0_20 κ=>aa k (GM k t a_e c0_0 c0_1 c0_2 c0_3 c0_4 c0_5 c0_6 c0_7 c0_8 c0_9 c0_10 c0_11 c0_12 c0_13 c0_14 c0_15 c0_16 c0_17 c0_18 c0_19 c0_20) (afD c0_1 c0_2 c0_3 c0_4 c0_5 c0_6 c0_7 c0_8 c0_9 c0_10 c0_11 c0_12 c0_13 c0_14 c0_15 c0_16 c0_17 c0_18 c0_19 c0_20 κ)
def SL {S:Type} (k:Nat):Fx S:=fx 54 (fun _=>[]) (fun _=>false) [(54,Mp k),(58,hJ k),(61,xK k),(63,sM k),(71,Mn k),(136,Mk k)] [] k Tryz.f70 true [] 1
theorem YL {S:Type} (o:Obj) (ho:ad o) (k:Nat):Tl o 70 (Mq k:Rw S):=af (SL k) ⟨YK o ho k,iJ o ho k,A6 o ho k,vS o ho k,YI o ho k,YE o ho k,trivial⟩ Tryz.func70 (by kernel_rfl) fun t a_e c0_0 c0_1 c0_2 c0_3 c0_4 c0_5 c0_6 c0_7 c0_8 c0_9 c0_10 c0_11 c0_12 c0_13 c0_14 c0_15 c0_16 c0_17 c0_18 c0_19 c0_20 κ x h=>Eq.trans (by kernel_rfl) (ag h)
def Mr {S:Type} (k:Nat):Rw S:=ae Iw oX fun b c1_0 c1_1 c1_2 c1_3 c1_4 c1_5 c1_6 c1_7 c1_8 c1_9 c1_10 c1_11 c1_12 c1_13 c1_14 c1_15 c1_16 c1_17 c1_18 c1_19 c1_20 κ=>aa k (GI k b c1_0 c1_1 c1_2 c1_3 c1_4 c1_5 c1_6 c1_7 c1_8 c1_9 c1_10 c1_11 c1_12 c1_13 c1_14 c1_15 c1_16 c1_17 c1_18 c1_19 c1_20) (afE c1_1 c1_2 c1_3 c1_4 c1_5 c1_6 c1_7 c1_8 c1_9 c1_10 c1_11 c1_12 c1_13 c1_14 c1_15 c1_16 c1_17 c1_18 c1_19 c1_20 κ)
def SM {S:Type} (k:Nat):Fx S:=fx 14 (fun _=>[]) (fun _=>false) [(70,Mq k)] [] k Tryz.f69 true [] 2
theorem YM {S:Type} (o:Obj) (ho:ad o) (k:Nat):Tl o 69 (Mr k:Rw S):=af (SM k) ⟨YL o ho k,trivial⟩ Tryz.func69 (by kernel_rfl) fun b c1_0 c1_1 c1_2 c1_3 c1_4 c1_5 c1_6 c1_7 c1_8 c1_9 c1_10 c1_11 c1_12 c1_13 c1_14 c1_15 c1_16 c1_17 c1_18 c1_19 c1_20 κ x h=>Eq.trans (by kernel_rfl) (ag h)
def Ms {S:Type} (k:Nat):Rw S:=ae abb oX fun l c1_0 c1_1 c1_2 c1_3 c1_4 c1_5 c1_6 c1_7 c1_8 c1_9 c1_10 c1_11 c1_12 c1_13 c1_14 c1_15 c1_16 c1_17 c1_18 c1_19 c1_20 κ=>aa k (AF k l c1_0 c1_1 c1_2 c1_3 c1_4 c1_5 c1_6 c1_7 c1_8 c1_9 c1_10 c1_11 c1_12 c1_13 c1_14 c1_15 c1_16 c1_17 c1_18 c1_19 c1_20) (xD c1_1 c1_2 c1_3 c1_4 c1_5 c1_6 c1_7 c1_8 c1_9 c1_10 c1_11 c1_12 c1_13 c1_14 c1_15 c1_16 c1_17 c1_18 c1_19 c1_20 κ)
def y8 {S:Type} (k:Nat):Fx S:=fx 22 (fun _=>[]) (fun _=>false) [(69,Mr k)] [(3,⟨[(1,.none),(5,some (100005,true)),(8,.none),(9,.none),(10,.none)],[(1000000,[.none]),(1000001,[.none,.none,.none,.none,.none,.none,.none,.none,.none,.none,.none,.none,.none,.none,.none,.none,.none,.none,.none,.none,.none])]⟩,am 5 11)] k Tryz.f68 false [true] 2
def Jt (c1_1:List Cl) (c1_10:Int) (c1_11:ByteArray) (c1_12:List Cl) (c1_13:List Tm) (c1_14:List (Br Tm)) (c1_15 c1_16:Int) (c1_17:ByteArray) (c1_18:List Cl) (c1_19:List Tm) (c1_2:Int) (c1_20:List (Br Tm)) (c1_3:Int) (c1_4:ByteArray) (c1_5:List Cl) (c1_6:List Tm) (c1_7 c1_8:List (Br Tm)) (c1_9:Int) (l:List (Br Tm)) (e1_0 v10:Int) (out5:List Tm):St UU:=⟨[(1,(.func 69 [] [(pt 1000000)])),(5,(.own 100005 0)),(8,(sB l)),(9,(.int .i64 (l.length:Int))),(10,(iI v10))],[(1000000,.cells [(pt 1000001)]),(1000001,.cells [(iI e1_0),(sC c1_1),(iI c1_2),(iI c1_3),(.str c1_4),(sC c1_5),(sT c1_6),(sB c1_7),(sB c1_8),(iI c1_9),(iI c1_10),(.str c1_11),(sC c1_12),(sT c1_13),(sB c1_14),(iI c1_15),(iI c1_16),(.str c1_17),(sC c1_18),(sT c1_19),(sB c1_20)])],[(100005,⟨0,ET.T,out5⟩)],[(100005,.wr)]⟩
section
variable {S:Type} (k:Nat) (l:List (Br Tm)) (c1_0:Int) (c1_1:List Cl) (c1_2 c1_3:Int) (c1_4:ByteArray) (c1_5:List Cl) (c1_6:List Tm) (c1_7 c1_8:List (Br Tm)) (c1_9 c1_10:Int) (c1_11:ByteArray) (c1_12:List Cl) (c1_13:List Tm) (c1_14:List (Br Tm)) (c1_15 c1_16:Int) (c1_17:ByteArray) (c1_18:List Cl) (c1_19:List Tm) (c1_20:List (Br Tm)) (κ:Out UU→Option S)
theorem U1: ∀n e1_0 v10 out5,(y8 k).lp κ 3 [] n (Jt c1_1 c1_10 c1_11 c1_12 c1_13 c1_14 c1_15 c1_16 c1_17 c1_18 c1_19 c1_2 c1_20 c1_3 c1_4 c1_5 c1_6 c1_7 c1_8 c1_9 l e1_0 v10 out5)=BX k (xD c1_1 c1_2 c1_3 c1_4 c1_5 c1_6 c1_7 c1_8 c1_9 c1_10 c1_11 c1_12 c1_13 c1_14 c1_15 c1_16 c1_17 c1_18 c1_19 c1_20 κ) c1_1 c1_10 c1_11 c1_12 c1_13 c1_14 c1_15 c1_16 c1_17 c1_18 c1_19 c1_2 c1_20 c1_3 c1_4 c1_5 c1_6 c1_7 c1_8 c1_9 l n e1_0 v10 out5:=dT (FY k (xD c1_1 c1_2 c1_3 c1_4 c1_5 c1_6 c1_7 c1_8 c1_9 c1_10 c1_11 c1_12 c1_13 c1_14 c1_15 c1_16 c1_17 c1_18 c1_19 c1_20 κ) c1_1 c1_10 c1_11 c1_12 c1_13 c1_14 c1_15 c1_16 c1_17 c1_18 c1_19 c1_2 c1_20 c1_3 c1_4 c1_5 c1_6 c1_7 c1_8 c1_9 l) rfl (fun _=>rfl) fun r e1_0 v10 out5=>by kernel_rfl
end
theorem YN {S:Type} (o:Obj) (ho:ad o) (k:Nat):Tl o 68 (Ms k:Rw S):=af (y8 k) ⟨YM o ho k,trivial⟩ Tryz.func68 (by kernel_rfl) fun l c1_0 c1_1 c1_2 c1_3 c1_4 c1_5 c1_6 c1_7 c1_8 c1_9 c1_10 c1_11 c1_12 c1_13 c1_14 c1_15 c1_16 c1_17 c1_18 c1_19 c1_20 κ x h=>Eq.trans (b:=PQ k (xD c1_1 c1_2 c1_3 c1_4 c1_5 c1_6 c1_7 c1_8 c1_9 c1_10 c1_11 c1_12 c1_13 c1_14 c1_15 c1_16 c1_17 c1_18 c1_19 c1_20 κ) (fun e1_0 v10 out5=>(y8 k).lp κ 3 [] k (Jt c1_1 c1_10 c1_11 c1_12 c1_13 c1_14 c1_15 c1_16 c1_17 c1_18 c1_19 c1_2 c1_20 c1_3 c1_4 c1_5 c1_6 c1_7 c1_8 c1_9 l e1_0 v10 out5)) l c1_0 c1_1 c1_2 c1_3 c1_4 c1_5 c1_6 c1_7 c1_8 c1_9 c1_10 c1_11 c1_12 c1_13 c1_14 c1_15 c1_16 c1_17 c1_18 c1_19 c1_20) (by kernel_rfl) (Eq.trans (by simp only [U1];rfl) (ag h))
def afK {S:Type} (k:Nat):Rw S:=ae rp oX fun c1_0 c1_1 c1_2 c1_3 c1_4 c1_5 c1_6 c1_7 c1_8 c1_9 c1_10 c1_11 c1_12 c1_13 c1_14 c1_15 c1_16 c1_17 c1_18 c1_19 c1_20 κ=>aa k (qw k c1_0 c1_1 c1_2 c1_3 c1_4 c1_5 c1_6 c1_7 c1_8 c1_9 c1_10 c1_11 c1_12 c1_13 c1_14 c1_15 c1_16 c1_17 c1_18 c1_19 c1_20) (Lm c1_1 c1_2 c1_3 c1_4 c1_5 c1_6 c1_7 c1_8 c1_9 c1_10 c1_11 c1_12 c1_13 c1_14 c1_15 c1_16 c1_17 c1_18 c1_19 c1_20 κ)
def Mt {S:Type} (k:Nat):Rw S:=ae rp oX fun c1_0 c1_1 c1_2 c1_3 c1_4 c1_5 c1_6 c1_7 c1_8 c1_9 c1_10 c1_11 c1_12 c1_13 c1_14 c1_15 c1_16 c1_17 c1_18 c1_19 c1_20 κ=>aa k (qw k c1_0 c1_1 c1_2 c1_3 c1_4 c1_5 c1_6 c1_7 c1_8 c1_9 c1_10 c1_11 c1_12 c1_13 c1_14 c1_15 c1_16 c1_17 c1_18 c1_19 c1_20) (afF κ)
def SN {S:Type} (k:Nat):Fx S:=fp 10 [(56,mi k)] [] k Tryz.f72 2
theorem YP {S:Type} (o:Obj) (ho:ad o) (k:Nat):Tl o 72 (afK k:Rw S):=af (SN k) ⟨nq o ho k,trivial⟩ Tryz.func72 (by kernel_rfl) fun c1_0 c1_1 c1_2 c1_3 c1_4 c1_5 c1_6 c1_7 c1_8 c1_9 c1_10 c1_11 c1_12 c1_13 c1_14 c1_15 c1_16 c1_17 c1_18 c1_19 c1_20 κ x h=>Eq.trans (by kernel_rfl) (ag h)
theorem YO {S:Type} (o:Obj) (ho:ad o) (k:Nat):Tl o 72 (Mt k:Rw S):=Fv (n:=1) (m:=1) (YP o ho k) fun c1_0 c1_1 c1_2 c1_3 c1_4 c1_5 c1_6 c1_7 c1_8 c1_9 c1_10 c1_11 c1_12 c1_13 c1_14 c1_15 c1_16 c1_17 c1_18 c1_19 c1_20 κ x h=>Eq.trans (b:=aa k (qw k c1_0 c1_1 c1_2 c1_3 c1_4 c1_5 c1_6 c1_7 c1_8 c1_9 c1_10 c1_11 c1_12 c1_13 c1_14 c1_15 c1_16 c1_17 c1_18 c1_19 c1_20) (Lm c1_1 c1_2 c1_3 c1_4 c1_5 c1_6 c1_7 c1_8 c1_9 c1_10 c1_11 c1_12 c1_13 c1_14 c1_15 c1_16 c1_17 c1_18 c1_19 c1_20 (qc 1 1 [.cells [(pt 1)],.cells [(iI c1_0),(sC c1_1),(iI c1_2),(iI c1_3),(.str c1_4),(sC c1_5),(sT c1_6),(sB c1_7),(sB c1_8),(iI c1_9),(iI c1_10),(.str c1_11),(sC c1_12),(sT c1_13),(sB c1_14),(iI c1_15),(iI c1_16),(.str c1_17),(sC c1_18),(sT c1_19),(sB c1_20)]] κ))) (by kernel_rfl) (Eq.trans (congrArg (aa k (qw k c1_0 c1_1 c1_2 c1_3 c1_4 c1_5 c1_6 c1_7 c1_8 c1_9 c1_10 c1_11 c1_12 c1_13 c1_14 c1_15 c1_16 c1_17 c1_18 c1_19 c1_20)) (funext fun r=>if_pos ⟨rfl,rfl⟩)) h)
def Mu {S:Type} (k:Nat):Rw S:=ae abc ajJ fun c0_0 c0_1 c0_2 c0_3 c0_4 c0_5 c0_6 c0_7 c0_8 c0_9 c0_10 c0_11 c0_12 c0_13 c0_14 c0_15 c0_16 c0_17 c0_18 c0_19 c0_20 κ=>aa k (AE k c0_0 c0_1 c0_2 c0_3 c0_4 c0_5 c0_6 c0_7 c0_8 c0_9 c0_10 c0_11 c0_12 c0_13 c0_14 c0_15 c0_16 c0_17 c0_18 c0_19 c0_20) (afG c0_1 c0_2 c0_3 c0_4 c0_5 c0_6 c0_7 c0_8 c0_9 c0_10 c0_11 c0_12 c0_13 c0_14 c0_15 c0_16 c0_17 c0_18 c0_19 c0_20 κ)
def SO {S:Type} (k:Nat):Fx S:=fx 20 (fun _=>[]) (fun _=>false) [(59,gw k),(72,Mt k)] [] k Tryz.f71 true [false,true] 2
theorem YQ {S:Type} (o:Obj) (ho:ad o) (k:Nat):Tl o 71 (Mu k:Rw S):=af (SO k) ⟨gX o ho k,YO o ho k,trivial⟩ Tryz.func71 (by kernel_rfl) fun c0_0 c0_1 c0_2 c0_3 c0_4 c0_5 c0_6 c0_7 c0_8 c0_9 c0_10 c0_11 c0_12 c0_13 c0_14 c0_15 c0_16 c0_17 c0_18 c0_19 c0_20 κ x h=>Eq.trans (by kernel_rfl) (ag h)
def Mv {S:Type} (k:Nat):Rw S:=ae c6 xn fun t κ=>aa k (GH k t) (jm κ)
def y9 {S:Type} (k:Nat):Fx S:=fp 165 [(40,fI k),(41,jo (c5 k)),(42,xS k),(56,mi k),(58,hJ k),(59,gw k),(61,xK k),(63,sM k),(66,Mg k),(67,Dg k),(68,Ms k),(71,Mu k),(73,md k)] [(16,⟨[(2,.none),(6,.none),(8,some (100008,true)),(9,some (100009,false)),(10,some (100010,true)),(77,.none),(78,.none),(79,.none)],[(2,[.none,.none,.none,some (200131,true),some (200132,true),some (200133,true)]),(6,[.none]),(43,[.none,.none,.none,.none,.none,.none,.none,.none,.none,.none,.none,.none,.none,.none,.none,.none,.none,.none,.none,.none,.none])]⟩,am 14 6143)] k Tryz.f27 0
def Ju (r3:Tm) (r6:Int×List (Br Tm)×Int×Int×ByteArray×List Cl×List Tm×List (Br Tm)) (x4:Tm) (r8:Tm×Int) (b43_0 b43_15 b43_16:Int) (b43_17:ByteArray) (b43_18:List Cl) (b43_19:List Tm) (b43_20 parts10:List (Br Tm)) (v79:Int) (ws8:List Tm) (sys9:List (Br Tm)):St UU:=⟨[(2,(pt 2)),(6,(pt 6)),(8,(.own 100008 0)),(9,(.own 100009 0)),(10,(.own 100010 0)),(77,(sB r8.1.sys)),(78,(.int .i64 (r8.1.sys.length:Int))),(79,(iI v79))],[(2,.cells [(iI 0),(iI 0),(.str ByteArray.empty),(.own 200131 0),(.own 200132 0),(.own 200133 0)]),(6,.cells [(pt 43)]),(43,.cells [(iI b43_0),(sC r3.r),(iI x4.kind),(iI x4.n),(.str x4.name),(sC x4.r),(sT x4.kids),(sB x4.sys),(sB r6.2.1),(iI r6.2.2.1),(iI r6.2.2.2.1),(.str r6.2.2.2.2.1),(sC r6.2.2.2.2.2.1),(sT r6.2.2.2.2.2.2.1),(sB r6.2.2.2.2.2.2.2),(iI b43_15),(iI b43_16),(.str b43_17),(sC b43_18),(sT b43_19),(sB b43_20)])],[(200133,⟨0,ET.B,([]:List (Br Tm))⟩),(200132,⟨0,ET.T,([]:List Tm)⟩),(200131,⟨0,ET.C,([]:List Cl)⟩),(100010,⟨0,ET.B,parts10⟩),(100009,⟨0,ET.B,sys9⟩),(100008,⟨0,ET.T,ws8⟩)],[(200133,.wr),(200132,.wr),(200131,.wr),(100010,.wr),(100009,.app),(100008,.wr)]⟩
section
variable {S:Type} (k:Nat) (t:Tm) (κ:Out UU→Option S)
theorem U2 (r3 r6 x4 r8): ∀n b43_0 b43_15 b43_16 b43_17 b43_18 b43_19 b43_20 parts10 v79 ws8 sys9,(y9 k).lp κ 16 [] n (Ju r3 r6 x4 r8 b43_0 b43_15 b43_16 b43_17 b43_18 b43_19 b43_20 parts10 v79 ws8 sys9)=BU k (jm κ) r3 r6 x4 r8 n b43_0 b43_15 b43_16 b43_17 b43_18 b43_19 b43_20 parts10 v79 ws8 sys9:=adR (FV k (jm κ) r3 r6 x4 r8) rfl (fun _=>rfl) fun r b43_0 b43_15 b43_16 b43_17 b43_18 b43_19 b43_20 parts10 v79 ws8 sys9=>by kernel_rfl
end
theorem YR {S:Type} (o:Obj) (ho:ad o) (k:Nat):Tl o 27 (Mv k:Rw S):=af (y9 k) ⟨f7 o ho k,lv o ho k,Bc o ho k,nq o ho k,iJ o ho k,gX o ho k,A6 o ho k,vS o ho k,YA o ho k,HA o ho k,YN o ho k,YQ o ho k,ni o ho k,trivial⟩ Tryz.func27 (by kernel_rfl) fun t κ x h=>Eq.trans (b:=PN k (jm κ) (fun r3 r6 x4 r8 b43_0 b43_15 b43_16 b43_17 b43_18 b43_19 b43_20 parts10 v79 ws8 sys9=>(y9 k).lp κ 16 [] k (Ju r3 r6 x4 r8 b43_0 b43_15 b43_16 b43_17 b43_18 b43_19 b43_20 parts10 v79 ws8 sys9)) t) (by kernel_rfl) (Eq.trans (by simp only [U2];rfl) (ag h))
def Mw {S:Type} (k:Nat):Rw S:=ae c6 xn fun t κ=>aa k (AW k t) (jm κ)
def SP {S:Type} (k:Nat):Fx S:=fp 100 [(27,Mv k),(40,fI k),(41,jo (c5 k)),(42,xS k),(79,LR k),(80,LU k),(81,L0 k),(82,L3 k)] [] k Tryz.f33 0
theorem YS {S:Type} (o:Obj) (ho:ad o) (k:Nat):Tl o 33 (Mw k:Rw S):=af (SP k) ⟨YR o ho k,f7 o ho k,lv o ho k,Bc o ho k,Yc o ho k,Ye o ho k,Yk o ho k,Yl o ho k,trivial⟩ Tryz.func33 (by kernel_rfl) fun t κ x h=>Eq.trans (by kernel_rfl) (ag h)
def Di {S:Type} (k:Nat):Rw S:=ae gb xn fun a b κ=>aa k (jJ k a b) (ar κ)
def za {S:Type} (k:Nat):Fx S:=fp 26 [] [(4,aE [0,1,5] [],am 5 11)] k Tryz.f30 0
def Jv (a b:List Cl) (i5:Int):St UU:=⟨[(0,(sC a)),(1,(sC b)),(5,(iI i5))],[],[],[]⟩
section
variable {S:Type} (k:Nat) (a b:List Cl) (κ:Out UU→Option S)
theorem U3: ∀n i5,(za k).lp κ 4 [] n (Jv a b i5)=i_ k (ar κ) a b n i5:=b9 (mC k (ar κ) a b) rfl (fun _=>rfl) fun r i5=>by kernel_rfl
end
theorem HC {S:Type} (o:Obj) (ho:ad o) (k:Nat):Tl o 30 (Di k:Rw S):=af (za k) trivial Tryz.func30 (by kernel_rfl) fun a b κ x h=>Eq.trans (b:=yy k (ar κ) (fun i5=>(za k).lp κ 4 [] k (Jv a b i5)) a b) (by kernel_rfl) (Eq.trans (by simp only [U3];rfl) (ag h))
def sN {S:Type} (hd:dZ S):Rw S:=ae abd xn fun a b κ=>hd a b (ar κ)
def My {S:Type} (hd:dZ S) (k:Nat):Rw S:=ae abe xn fun a b κ=>aa k (qK hd k a b) (ar κ)
def zc {S:Type} (hd:dZ S) (k:Nat):Fx S:=fp 27 [(14,sN hd)] [(4,aE [0,1,5] [],am 5 11)] k Tryz.f38 0
def Jx (a b:List Tm) (i5:Int):St UU:=⟨[(0,(sT a)),(1,(sT b)),(5,(iI i5))],[],[],[]⟩
section
variable {S:Type} (hd:dZ S) (k:Nat) (a b:List Tm) (κ:Out UU→Option S)
theorem U5: ∀n i5,(zc hd k).lp κ 4 [] n (Jx a b i5)=oa hd k (ar κ) a b n i5:=b9 (uy hd k (ar κ) a b) rfl (fun _=>rfl) fun r i5=>by kernel_rfl
end
theorem YU {S:Type} (o:Obj) (ho:ad o) (hd:dZ S) (Hd:Tl o 14 (sN hd)) (k:Nat):Tl o 38 (My hd k:Rw S):=af (zc hd k) ⟨Hd,trivial⟩ Tryz.func38 (by kernel_rfl) fun a b κ x h=>Eq.trans (b:=Fa hd k (ar κ) (fun i5=>(zc hd k).lp κ 4 [] k (Jx a b i5)) a b) (by kernel_rfl) (Eq.trans (by simp only [U5];rfl) (ag h))
def zb {S:Type} (hd:dZ S) (k:Nat):Fx S:=fp 87 [(30,Di k),(38,My hd k)] [(4,aE [2,3,5] [(2,6),(3,6)],am 5 11)] k Tryz.f14 0
def Jw (a b:Tm) (i5:Int):St UU:=⟨[(2,(pt 2)),(3,(pt 3)),(5,(iI i5))],[(2,bT a),(3,bT b)],[],[]⟩
section
variable {S:Type} (hd:dZ S) (k:Nat) (a b:Tm) (κ:Out UU→Option S)
theorem U4: ∀n i5,(zb hd k).lp κ 4 [] n (Jw a b i5)=n9 hd k (ar κ) a b n i5:=b9 (uw hd k (ar κ) a b) rfl (fun _=>rfl) fun r i5=>by kernel_rfl
end
theorem By {S:Type} (o:Obj) (ho:ad o): ∀k:Nat,Tl o 14 (sN (dO k:dZ S))
 |0=>dx fun a b κ x h=>by cases h
 |k+1=>af (zb (dO k) k) ⟨HC o ho k,YU o ho (dO k) (By o ho k) k,trivial⟩ Tryz.func14 (by kernel_rfl) fun a b κ x h=>Eq.trans (b:=E9 (dO k) k (ar κ) (fun i5=>(zb (dO k) k).lp κ 4 [] k (Jw a b i5)) a b) (by kernel_rfl) (Eq.trans (by simp only [U4];rfl) h)
end
end Go.Proofs.YtgajalidbabccaaGreatDoor
namespace Go.Proofs.YtgajalidbabccaaGreatDoor
open Go PI
set_option linter.unusedVariables false
set_option maxRecDepth 100000
noncomputable section
def Mz {S:Type} (k:Nat):Rw S:=ae cn xn fun κ=>aa k (qz k) (ar κ)
def SQ {S:Type} (k:Nat):Fx S:=fp 69 [(14,sN (dO k)),(33,Mw k),(34,Ln k)] [] k Tryz.f10 0
theorem YV {S:Type} (o:Obj) (ho:ad o) (k:Nat):Tl o 10 (Mz k:Rw S):=af (SQ k) ⟨By o ho k,YS o ho k,XK o ho k,trivial⟩ Tryz.func10 (by kernel_rfl) fun κ x h=>Eq.trans (by kernel_rfl) (ag h)
def Dj {S:Type} (hd:fP S):Rw S:=ae c6 xn fun t κ=>hd t (a6 κ)
def kM {S:Type} (hd:fP S) (k:Nat):Fx S:=fp 86 [(11,Dj hd)] [(3,⟨[(1,.none),(2,.none),(3,.none),(4,.none)],[(1,[.none,.none,.none,.none,.none,.none]),(2,[.none,.none,.none,some (200131,true),some (200132,true),some (200133,true)]),(3,[.none,.none,.none,some (200195,false),some (200196,true),some (200197,true)])]⟩,am 5 11),(7,⟨[(1,.none),(2,.none),(3,.none),(5,.none)],[(1,[.none,.none,.none,.none,.none,.none]),(2,[.none,.none,.none,some (200131,true),some (200132,true),some (200133,true)]),(3,[.none,.none,.none,some (200195,false),some (200196,true),some (200197,true)])]⟩,am 6 23),(11,⟨[(1,.none),(2,.none),(3,.none),(5,.none),(6,.none),(7,.none)],[(1,[.none,.none,.none,.none,.none,.none]),(2,[.none,.none,.none,some (200131,true),some (200132,true),some (200133,true)]),(3,[.none,.none,.none,some (200195,false),some (200196,true),some (200197,true)]),(6,[some (200384,false),some (200385,true)])]⟩,am 14 5271)] k Tryz.f11 0
def Cu (t:Tm) (b3_4:List Tm) (i4:Int):St UU:=⟨[(1,(pt 1)),(2,(pt 2)),(3,(pt 3)),(4,(iI i4))],[(1,bT t),(2,.cells [(iI 0),(iI 0),(.str ByteArray.empty),(.own 200131 0),(.own 200132 0),(.own 200133 0)]),(3,.cells [(iI t.kind),(iI t.n),(.str t.name),(.own 200195 0),(.own 200196 0),(.own 200197 0)])],[(200197,⟨0,ET.B,([]:List (Br Tm))⟩),(200196,⟨0,ET.T,b3_4⟩),(200195,⟨0,ET.C,([]:List Cl)++t.r⟩),(200133,⟨0,ET.B,([]:List (Br Tm))⟩),(200132,⟨0,ET.T,([]:List Tm)⟩),(200131,⟨0,ET.C,([]:List Cl)⟩)],[(200197,.wr),(200196,.wr),(200195,.app),(200133,.wr),(200132,.wr),(200131,.wr)]⟩
def rS (t:Tm) (b3_4:List Tm) (b3_5:List (Br Tm)) (i5:Int):St UU:=⟨[(1,(pt 1)),(2,(pt 2)),(3,(pt 3)),(5,(iI i5))],[(1,bT t),(2,.cells [(iI 0),(iI 0),(.str ByteArray.empty),(.own 200131 0),(.own 200132 0),(.own 200133 0)]),(3,.cells [(iI t.kind),(iI t.n),(.str t.name),(.own 200195 0),(.own 200196 0),(.own 200197 0)])],[(200197,⟨0,ET.B,b3_5⟩),(200196,⟨0,ET.T,b3_4⟩),(200195,⟨0,ET.C,([]:List Cl)++t.r⟩),(200133,⟨0,ET.B,([]:List (Br Tm))⟩),(200132,⟨0,ET.T,([]:List Tm)⟩),(200131,⟨0,ET.C,([]:List Cl)⟩)],[(200197,.wr),(200196,.wr),(200195,.app),(200133,.wr),(200132,.wr),(200131,.wr)]⟩
def Jy (t:Tm) (b3_4:List Tm) (b3_5:List (Br Tm)) (x5:(Br Tm)) (i5:Int) (b6_1:List Tm) (v7:Int):St UU:=⟨[(1,(pt 1)),(2,(pt 2)),(3,(pt 3)),(5,(iI i5)),(6,(pt 6)),(7,(iI v7))],[(1,bT t),(2,.cells [(iI 0),(iI 0),(.str ByteArray.empty),(.own 200131 0),(.own 200132 0),(.own 200133 0)]),(3,.cells [(iI t.kind),(iI t.n),(.str t.name),(.own 200195 0),(.own 200196 0),(.own 200197 0)]),(6,.cells [(.own 200384 0),(.own 200385 0)])],[(200385,⟨0,ET.T,b6_1⟩),(200384,⟨0,ET.C,([]:List Cl)++x5.face⟩),(200197,⟨0,ET.B,b3_5⟩),(200196,⟨0,ET.T,b3_4⟩),(200195,⟨0,ET.C,([]:List Cl)++t.r⟩),(200133,⟨0,ET.B,([]:List (Br Tm))⟩),(200132,⟨0,ET.T,([]:List Tm)⟩),(200131,⟨0,ET.C,([]:List Cl)⟩)],[(200385,.wr),(200384,.app),(200197,.wr),(200196,.wr),(200195,.app),(200133,.wr),(200132,.wr),(200131,.wr)]⟩
section
variable {S:Type} (hd:fP S) (k:Nat) (t:Tm) (κ:Out UU→Option S)
theorem U8 (b3_4 b3_5 x5 i5 κ1): ∀n b6_1 v7,(kM hd k).lp κ 11 [κ1] n (Jy t b3_4 b3_5 x5 i5 b6_1 v7)=lN hd k (a6 κ) (fun b3_5 i5=>κ1 (rS t b3_4 b3_5 i5)) t b3_4 b3_5 x5 i5 n b6_1 v7:=aA (ut hd k (a6 κ) t b3_4 b3_5 x5 i5 (fun b3_5 i5=>κ1 (rS t b3_4 b3_5 i5))) rfl (fun _=>rfl) fun r b6_1 v7=>by kernel_rfl
theorem U7 (b3_4): ∀n b3_5 i5,(kM hd k).lp κ 7 [] n (rS t b3_4 b3_5 i5)=jc hd k (a6 κ) t b3_4 n b3_5 i5:=aA (fun own=>pN hd k (a6 κ) t b3_4 (fun b3_5 x5 i5 b6_1 v7=>lN hd k (a6 κ) own t b3_4 b3_5 x5 i5 k b6_1 v7) own) rfl (fun _=>rfl) fun r b3_5 i5=>Eq.trans (b:=pN hd k (a6 κ) t b3_4 (fun b3_5 x5 i5 b6_1 v7=>(kM hd k).lp κ 11 [r] k (Jy t b3_4 b3_5 x5 i5 b6_1 v7)) (fun b3_5 i5=>r (rS t b3_4 b3_5 i5)) b3_5 i5) (by kernel_rfl) (by simp only [U8])
theorem U6: ∀n b3_4 i4,(kM hd k).lp κ 3 [] n (Cu t b3_4 i4)=n8 hd k (a6 κ) t n b3_4 i4:=aA (fun own=>pM hd k (a6 κ) t (fun b3_4 b3_5 i5=>jc hd k (a6 κ) t b3_4 k b3_5 i5) own) rfl (fun _=>rfl) fun r b3_4 i4=>Eq.trans (b:=pM hd k (a6 κ) t (fun b3_4 b3_5 i5=>(kM hd k).lp κ 7 [] k (rS t b3_4 b3_5 i5)) (fun b3_4 i4=>r (Cu t b3_4 i4)) b3_4 i4) (by kernel_rfl) (by simp only [U7])
end
theorem If {S:Type} (o:Obj) (ho:ad o): ∀k:Nat,Tl o 11 (Dj (gS k:fP S))
 |0=>dx fun t κ x h=>by cases h
 |k+1=>af (kM (gS k) k) ⟨If o ho k,trivial⟩ Tryz.func11 (by kernel_rfl) fun t κ x h=>Eq.trans (b:=E7 (gS k) k (a6 κ) (fun b3_4 i4=>(kM (gS k) k).lp κ 3 [] k (Cu t b3_4 i4)) t) (by kernel_rfl) (Eq.trans (by simp only [U6];rfl) h)
def Dk {S:Type} (hd:fQ S):Rw S:=ae c6 xn fun t κ=>hd t (ay κ)
def kN {S:Type} (hd:fQ S) (k:Nat):Fx S:=fp 60 [(166,Dk hd)] [(3,aE [1,3,4] [(1,6)],am 5 11),(9,aE [1,3,6] [(1,6)],am 6 23),(12,aE [1,3,6,7] [(1,6)],am 12 1175)] k Tryz.f166 0
def Cv (t:Tm) (most3 i4:Int):St UU:=⟨[(1,(pt 1)),(3,(iI most3)),(4,(iI i4))],[(1,bT t)],[],[]⟩
def rT (t:Tm) (most3' i6:Int):St UU:=⟨[(1,(pt 1)),(3,(iI most3')),(6,(iI i6))],[(1,bT t)],[],[]⟩
def Jz (t:Tm) (i6:Int) (most3'' v7:Int):St UU:=⟨[(1,(pt 1)),(3,(iI most3'')),(6,(iI i6)),(7,(iI v7))],[(1,bT t)],[],[]⟩
section
variable {S:Type} (hd:fQ S) (k:Nat) (t:Tm) (κ:Out UU→Option S)
theorem Va (i6 κ1): ∀n most3'' v7,(kN hd k).lp κ 12 [κ1] n (Jz t i6 most3'' v7)=ke hd k (ay κ) (fun most3' i6=>κ1 (rT t most3' i6)) t i6 n most3'' v7:=aA (uu hd k (ay κ) t i6 (fun most3' i6=>κ1 (rT t most3' i6))) rfl (fun _=>rfl) fun r most3'' v7=>by kernel_rfl
theorem U_: ∀n most3' i6,(kN hd k).lp κ 9 [] n (rT t most3' i6)=jd hd k (ay κ) t n most3' i6:=aA (fun own=>pP hd k (ay κ) t (fun i6 most3'' v7=>ke hd k (ay κ) own t i6 k most3'' v7) own) rfl (fun _=>rfl) fun r most3' i6=>Eq.trans (b:=pP hd k (ay κ) t (fun i6 most3'' v7=>(kN hd k).lp κ 12 [r] k (Jz t i6 most3'' v7)) (fun most3' i6=>r (rT t most3' i6)) most3' i6) (by kernel_rfl) (by simp only [Va])
theorem U9: ∀n most3 i4,(kN hd k).lp κ 3 [] n (Cv t most3 i4)=lO hd k (ay κ) t n most3 i4:=aA (fun own=>pO hd k (ay κ) t (fun most3' i6=>jd hd k (ay κ) t k most3' i6) own) rfl (fun _=>rfl) fun r most3 i4=>Eq.trans (b:=pO hd k (ay κ) t (fun most3' i6=>(kN hd k).lp κ 9 [] k (rT t most3' i6)) (fun most3 i4=>r (Cv t most3 i4)) most3 i4) (by kernel_rfl) (by simp only [U_])
end
theorem Ig {S:Type} (o:Obj) (ho:ad o): ∀k:Nat,Tl o 166 (Dk (gT k:fQ S))
 |0=>dx fun t κ x h=>by cases h
 |k+1=>af (kN (gT k) k) ⟨Ig o ho k,trivial⟩ Tryz.func166 (by kernel_rfl) fun t κ x h=>Eq.trans (b:=E8 (gT k) k (ay κ) (fun most3 i4=>(kN (gT k) k).lp κ 3 [] k (Cv t most3 i4)) t) (by kernel_rfl) (Eq.trans (by simp only [U9];rfl) h)
def Dl {S:Type} (hd:fR S):Rw S:=ae c6 xn fun t κ=>hd t (ay κ)
def kO {S:Type} (hd:fR S) (k:Nat):Fx S:=fp 53 [(167,Dl hd)] [(3,aE [1,3,4] [(1,6)],am 5 11),(7,aE [1,3,5] [(1,6)],am 6 23),(10,aE [1,3,5,6] [(1,6)],am 12 1175)] k Tryz.f167 0
def Cw (t:Tm) (v3 i4:Int):St UU:=⟨[(1,(pt 1)),(3,(iI v3)),(4,(iI i4))],[(1,bT t)],[],[]⟩
def rU (t:Tm) (v3' i5:Int):St UU:=⟨[(1,(pt 1)),(3,(iI v3')),(5,(iI i5))],[(1,bT t)],[],[]⟩
def JA (t:Tm) (i5:Int) (v3'' v6:Int):St UU:=⟨[(1,(pt 1)),(3,(iI v3'')),(5,(iI i5)),(6,(iI v6))],[(1,bT t)],[],[]⟩
section
variable {S:Type} (hd:fR S) (k:Nat) (t:Tm) (κ:Out UU→Option S)
theorem Vd (i5 κ1): ∀n v3'' v6,(kO hd k).lp κ 10 [κ1] n (JA t i5 v3'' v6)=lP hd k (ay κ) (fun v3' i5=>κ1 (rU t v3' i5)) t i5 n v3'' v6:=aA (ux hd k (ay κ) t i5 (fun v3' i5=>κ1 (rU t v3' i5))) rfl (fun _=>rfl) fun r v3'' v6=>by kernel_rfl
theorem Vc: ∀n v3' i5,(kO hd k).lp κ 7 [] n (rU t v3' i5)=je hd k (ay κ) t n v3' i5:=aA (fun own=>pR hd k (ay κ) t (fun i5 v3'' v6=>lP hd k (ay κ) own t i5 k v3'' v6) own) rfl (fun _=>rfl) fun r v3' i5=>Eq.trans (b:=pR hd k (ay κ) t (fun i5 v3'' v6=>(kO hd k).lp κ 10 [r] k (JA t i5 v3'' v6)) (fun v3' i5=>r (rU t v3' i5)) v3' i5) (by kernel_rfl) (by simp only [Vd])
theorem Vb: ∀n v3 i4,(kO hd k).lp κ 3 [] n (Cw t v3 i4)=n_ hd k (ay κ) t n v3 i4:=aA (fun own=>pQ hd k (ay κ) t (fun v3' i5=>je hd k (ay κ) t k v3' i5) own) rfl (fun _=>rfl) fun r v3 i4=>Eq.trans (b:=pQ hd k (ay κ) t (fun v3' i5=>(kO hd k).lp κ 7 [] k (rU t v3' i5)) (fun v3 i4=>r (Cw t v3 i4)) v3 i4) (by kernel_rfl) (by simp only [Vc])
end
theorem Ih {S:Type} (o:Obj) (ho:ad o): ∀k:Nat,Tl o 167 (Dl (gU k:fR S))
 |0=>dx fun t κ x h=>by cases h
 |k+1=>af (kO (gU k) k) ⟨Ih o ho k,trivial⟩ Tryz.func167 (by kernel_rfl) fun t κ x h=>Eq.trans (b:=E_ (gU k) k (ay κ) (fun v3 i4=>(kO (gU k) k).lp κ 3 [] k (Cw t v3 i4)) t) (by kernel_rfl) (Eq.trans (by simp only [Vb];rfl) h)
def MA {S:Type} (k:Nat):Rw S:=ae c6 xn fun t κ=>aa k (vC k t) (ay κ)
def SR {S:Type} (k:Nat):Fx S:=fp 9 [(166,Dk (gT k)),(167,Dl (gU k))] [] k Tryz.f86 0
theorem YW {S:Type} (o:Obj) (ho:ad o) (k:Nat):Tl o 86 (MA k:Rw S):=af (SR k) ⟨Ig o ho k,Ih o ho k,trivial⟩ Tryz.func86 (by kernel_rfl) fun t κ x h=>Eq.trans (by kernel_rfl) (ag h)
def MB {S:Type} (k:Nat):Rw S:=ae d6 xn fun kind κ=>aa k (qJ k kind) (ay κ)
def SS {S:Type} (k:Nat):Fx S:=fp 14 [] [] k Tryz.f168 0
theorem YX {S:Type} (o:Obj) (ho:ad o) (k:Nat):Tl o 168 (MB k:Rw S):=af (SS k) trivial Tryz.func168 (by kernel_rfl) fun kind κ x h=>Eq.trans (by kernel_rfl) (ag h)
def MC {S:Type} (k:Nat):Rw S:=ae d6 xn fun kind κ=>aa k (na k kind) (ay κ)
def ST {S:Type} (k:Nat):Fx S:=fp 15 [] [] k Tryz.f169 0
theorem YY {S:Type} (o:Obj) (ho:ad o) (k:Nat):Tl o 169 (MC k:Rw S):=af (ST k) trivial Tryz.func169 (by kernel_rfl) fun kind κ x h=>Eq.trans (by kernel_rfl) (ag h)
def ME {S:Type} (k:Nat):Rw S:=ae Iy xn fun s κ=>aa k (vB k s) (ar κ)
def o8 {S:Type} (k:Nat):Fx S:=fp 45 [] [(2,aE [0,3] [],am 4 5),(1000006,aE [0,3,4] [],am 10 805)] k Tryz.f170 0
def rV (s:ByteArray) (i3:Int):St UU:=⟨[(0,(.str s)),(3,(iI i3))],[],[],[]⟩
def JC (s:ByteArray) (i3:Int) (x1:UInt8):St UU:=⟨[(0,(.str s)),(3,(iI i3)),(4,(.int .u8 (x1.toNat:Int)))],[],[],[]⟩
section
variable {S:Type} (k:Nat) (s:ByteArray) (κ:Out UU→Option S)
theorem Vg (i3 x1 κ0): ∀n,(o8 k).jn κ 1000006 [κ0] n (JC s i3 x1)=wO k (ar κ) (fun i3=>κ0 (rV s i3)) s i3 x1 n:=iW (zX k (ar κ) s i3 x1 (fun i3=>κ0 (rV s i3))) rfl (fun _=>rfl) (by kernel_rfl)
theorem Vf: ∀n i3,(o8 k).lp κ 2 [] n (rV s i3)=lQ k (ar κ) s n i3:=b9 (fun own=>pS k (ar κ) s (fun i3 x1=>wO k (ar κ) own s i3 x1 k) own) rfl (fun _=>rfl) fun r i3=>Eq.trans (b:=pS k (ar κ) s (fun i3 x1=>(o8 k).jn κ 1000006 [r] k (JC s i3 x1)) (fun i3=>r (rV s i3)) i3) (by kernel_rfl) (by simp only [Vg])
end
theorem Y0 {S:Type} (o:Obj) (ho:ad o) (k:Nat):Tl o 170 (ME k:Rw S):=af (o8 k) trivial Tryz.func170 (by kernel_rfl) fun s κ x h=>Eq.trans (b:=Fb k (ar κ) (fun i3=>(o8 k).lp κ 2 [] k (rV s i3)) s) (by kernel_rfl) (Eq.trans (by simp only [Vf];rfl) (ag h))
def xL {S:Type} (k:Nat):Rw S:=ae d6 xn fun a_n κ=>aa k (m6 k a_n) (ay κ)
def zd {S:Type} (k:Nat):Fx S:=fp 13 [] [(3,aE [0,3,4] [],am 5 11)] k Tryz.f317 0
def JD (a_n:Int) (p3 i4:Int):St UU:=⟨[(0,(iI a_n)),(3,(iI p3)),(4,(iI i4))],[],[],[]⟩
section
variable {S:Type} (k:Nat) (a_n:Int) (κ:Out UU→Option S)
theorem Vh: ∀n p3 i4,(zd k).lp κ 3 [] n (JD a_n p3 i4)=nR k (ay κ) a_n n p3 i4:=aA (t7 k (ay κ) a_n) rfl (fun _=>rfl) fun r p3 i4=>by kernel_rfl
end
theorem A7 {S:Type} (o:Obj) (ho:ad o) (k:Nat):Tl o 317 (xL k:Rw S):=af (zd k) trivial Tryz.func317 (by kernel_rfl) fun a_n κ x h=>Eq.trans (b:=EO k (ay κ) (fun p3 i4=>(zd k).lp κ 3 [] k (JD a_n p3 i4)) a_n) (by kernel_rfl) (Eq.trans (by simp only [Vh];rfl) (ag h))
def MF {S:Type} (k:Nat):Rw S:=ae rm xn fun s κ=>aa k (m0 k s) (ar κ)
def SW {S:Type} (k:Nat):Fx S:=fp 7 [(317,xL k)] [] k Tryz.f315 0
theorem Y1 {S:Type} (o:Obj) (ho:ad o) (k:Nat):Tl o 315 (MF k:Rw S):=af (SW k) ⟨A7 o ho k,trivial⟩ Tryz.func315 (by kernel_rfl) fun s κ x h=>Eq.trans (by kernel_rfl) (ag h)
def Dm {S:Type} (k:Nat):Rw S:=ae lw xn fun c κ=>aa k (qE k c) (ar κ)
def SX {S:Type} (k:Nat):Fx S:=fp 11 [(315,MF k)] [] k Tryz.f287 0
theorem HD {S:Type} (o:Obj) (ho:ad o) (k:Nat):Tl o 287 (Dm k:Rw S):=af (SX k) ⟨Y1 o ho k,trivial⟩ Tryz.func287 (by kernel_rfl) fun c κ x h=>Eq.trans (by kernel_rfl) (ag h)
def MG {S:Type} (k:Nat):Rw S:=ae rn xn fun a b κ=>aa k (vo k a b) (ar κ)
def SY {S:Type} (k:Nat):Fx S:=fp 23 [] [] k Tryz.f316 0
theorem Y2 {S:Type} (o:Obj) (ho:ad o) (k:Nat):Tl o 316 (MG k:Rw S):=af (SY k) trivial Tryz.func316 (by kernel_rfl) fun a b κ x h=>Eq.trans (by kernel_rfl) (ag h)
def MH {S:Type} (k:Nat):Rw S:=ae IK xn fun l c κ=>aa k (vt k l c) (ar κ)
def ze {S:Type} (k:Nat):Fx S:=fp 26 [(316,MG k)] [(2,aE [0,3,5] [(3,2)],am 4 5)] k Tryz.f288 0
def JE (c:Cl) (l:List Cl) (i5:Int):St UU:=⟨[(0,(sC l)),(3,(pt 3)),(5,(iI i5))],[(3,bC c)],[],[]⟩
section
variable {S:Type} (k:Nat) (l:List Cl) (c:Cl) (κ:Out UU→Option S)
theorem Vi: ∀n i5,(ze k).lp κ 2 [] n (JE c l i5)=nU k (ar κ) c l n i5:=b9 (ua k (ar κ) c l) rfl (fun _=>rfl) fun r i5=>by kernel_rfl
end
theorem Y3 {S:Type} (o:Obj) (ho:ad o) (k:Nat):Tl o 288 (MH k:Rw S):=af (ze k) ⟨Y2 o ho k,trivial⟩ Tryz.func288 (by kernel_rfl) fun l c κ x h=>Eq.trans (b:=ER k (ar κ) (fun i5=>(ze k).lp κ 2 [] k (JE c l i5)) l c) (by kernel_rfl) (Eq.trans (by simp only [Vi];rfl) (ag h))
def MI {S:Type} (k:Nat):Rw S:=ae rn xn fun a b κ=>aa k (vq k a b) (ar κ)
def SZ {S:Type} (k:Nat):Fx S:=fp 24 [] [] k Tryz.f289 0
theorem Y4 {S:Type} (o:Obj) (ho:ad o) (k:Nat):Tl o 289 (MI k:Rw S):=af (SZ k) trivial Tryz.func289 (by kernel_rfl) fun a b κ x h=>Eq.trans (by kernel_rfl) (ag h)
def ku {S:Type} (k:Nat):Rw S:=ae dI xn fun l κ=>aa k (gQ k l) (aq κ)
def kP {S:Type} (k:Nat):Fx S:=fp 84 [(287,Dm k),(288,MH k),(289,MI k)] [(2,aE [0,4] [],am 4 5),(8,⟨[(0,.none),(5,some (100005,false)),(6,.none)],[]⟩,am 6 23),(12,⟨[(0,.none),(5,some (100005,false)),(6,.none),(7,.none)],[]⟩,am 14 3223)] k Tryz.f246 0
def Cx (l:List Cl) (i4:Int):St UU:=⟨[(0,(sC l)),(4,(iI i4))],[],[],[]⟩
def rW (l:List Cl) (out5:List Cl) (i6:Int):St UU:=⟨[(0,(sC l)),(5,(.own 100005 0)),(6,(iI i6))],[],[(100005,⟨0,ET.C,out5⟩)],[(100005,.app)]⟩
def JF (l out5:List Cl) (i6:Int) (v7:Int):St UU:=⟨[(0,(sC l)),(5,(.own 100005 0)),(6,(iI i6)),(7,(iI v7))],[],[(100005,⟨0,ET.C,out5⟩)],[(100005,.app)]⟩
section
variable {S:Type} (k:Nat) (l:List Cl) (κ:Out UU→Option S)
theorem Vl (out5 i6 κ1): ∀n v7,(kP k).lp κ 12 [κ1] n (JF l out5 i6 v7)=lG k (aq κ) (fun out5 i6=>κ1 (rW l out5 i6)) l out5 i6 n v7:=b9 (t_ k (aq κ) l out5 i6 (fun out5 i6=>κ1 (rW l out5 i6))) rfl (fun _=>rfl) fun r v7=>by kernel_rfl
theorem Vk: ∀n out5 i6,(kP k).lp κ 8 [] n (rW l out5 i6)=i8 k (aq κ) l n out5 i6:=aA (fun own=>pA k (aq κ) l (fun out5 i6 v7=>lG k (aq κ) own l out5 i6 k v7) own) rfl (fun _=>rfl) fun r out5 i6=>Eq.trans (b:=pA k (aq κ) l (fun out5 i6 v7=>(kP k).lp κ 12 [r] k (JF l out5 i6 v7)) (fun out5 i6=>r (rW l out5 i6)) out5 i6) (by kernel_rfl) (by simp only [Vl])
theorem Vj: ∀n i4,(kP k).lp κ 2 [] n (Cx l i4)=nT k (aq κ) l n i4:=b9 (fun own=>pz k (aq κ) l (fun out5 i6=>i8 k (aq κ) l k out5 i6) own) rfl (fun _=>rfl) fun r i4=>Eq.trans (b:=pz k (aq κ) l (fun out5 i6=>(kP k).lp κ 8 [] k (rW l out5 i6)) (fun i4=>r (Cx l i4)) i4) (by kernel_rfl) (by simp only [Vk])
end
theorem lm {S:Type} (o:Obj) (ho:ad o) (k:Nat):Tl o 246 (ku k:Rw S):=af (kP k) ⟨HD o ho k,Y3 o ho k,Y4 o ho k,trivial⟩ Tryz.func246 (by kernel_rfl) fun l κ x h=>Eq.trans (b:=EQ k (aq κ) (fun i4=>(kP k).lp κ 2 [] k (Cx l i4)) l) (by kernel_rfl) (Eq.trans (by simp only [Vj];rfl) (ag h))
def hX {S:Type} (k:Nat):Rw S:=ae dI xn fun f κ=>aa k (dH k f) (ar κ)
def S0 {S:Type} (k:Nat):Fx S:=fp 17 [(30,Di k),(246,ku k)] [] k Tryz.f171 0
theorem iM {S:Type} (o:Obj) (ho:ad o) (k:Nat):Tl o 171 (hX k:Rw S):=af (S0 k) ⟨HC o ho k,lm o ho k,trivial⟩ Tryz.func171 (by kernel_rfl) fun f κ x h=>Eq.trans (by kernel_rfl) (ag h)
def kw {S:Type} (k:Nat):Rw S:=ae jV xn fun s i κ=>aa k (dp k s i) (ar κ)
def S1 {S:Type} (k:Nat):Fx S:=fp 20 [(317,xL k)] [] k Tryz.f290 0
theorem ln {S:Type} (o:Obj) (ho:ad o) (k:Nat):Tl o 290 (kw k:Rw S):=af (S1 k) ⟨A7 o ho k,trivial⟩ Tryz.func290 (by kernel_rfl) fun s i κ x h=>Eq.trans (by kernel_rfl) (ag h)
def me {S:Type} (k:Nat):Rw S:=ae abf xn fun l κ=>aa k (gP k l) (bG κ)
def zf {S:Type} (k:Nat):Fx S:=fp 20 [(317,xL k)] [(3,aE [0,3,4] [],am 5 11)] k Tryz.f291 0
def JG (l:List Int) (v3 i4:Int):St UU:=⟨[(0,(jt l .none)),(3,(iI v3)),(4,(iI i4))],[],[],[]⟩
section
variable {S:Type} (k:Nat) (l:List Int) (κ:Out UU→Option S)
theorem Vm: ∀n v3 i4,(zf k).lp κ 3 [] n (JG l v3 i4)=nP k (bG κ) l n v3 i4:=aA (tZ k (bG κ) l) rfl (fun _=>rfl) fun r v3 i4=>by kernel_rfl
end
theorem nj {S:Type} (o:Obj) (ho:ad o) (k:Nat):Tl o 291 (me k:Rw S):=af (zf k) ⟨A7 o ho k,trivial⟩ Tryz.func291 (by kernel_rfl) fun l κ x h=>Eq.trans (b:=EK k (bG κ) (fun v3 i4=>(zf k).lp κ 3 [] k (JG l v3 i4)) l) (by kernel_rfl) (Eq.trans (by simp only [Vm];rfl) (ag h))
def Dp {S:Type} (k:Nat):Rw S:=ae dI xn fun f κ=>aa k (qG k f) (bG κ)
def o9 {S:Type} (k:Nat):Fx S:=fp 43 [(290,kw k),(291,me k)] [(3,⟨[(0,.none),(3,some (100003,true)),(4,.none)],[]⟩,am 5 11),(7,⟨[(0,.none),(3,some (100003,true)),(4,.none),(5,.none),(6,.none)],[]⟩,am 13 2635)] k Tryz.f249 0
def rX (f:List Cl) (l3:List Int) (i4:Int):St UU:=⟨[(0,(sC f)),(3,(.own 100003 0)),(4,(iI i4))],[],[(100003,⟨0,ET.I,l3⟩)],[(100003,.wr)]⟩
def JH (f:List Cl) (l3:List Int) (i4:Int) (v5:Bool) (v6:Int):St UU:=⟨[(0,(sC f)),(3,(.own 100003 0)),(4,(iI i4)),(5,(.bool v5)),(6,(iI v6))],[],[(100003,⟨0,ET.I,l3⟩)],[(100003,.wr)]⟩
section
variable {S:Type} (k:Nat) (f:List Cl) (κ:Out UU→Option S)
theorem Vo (l3 i4 κ0): ∀n v5 v6,(o9 k).lp κ 7 [κ0] n (JH f l3 i4 v5 v6)=lH k (bG κ) (fun l3 i4=>κ0 (rX f l3 i4)) f l3 i4 n v5 v6:=aA (uc k (bG κ) f l3 i4 (fun l3 i4=>κ0 (rX f l3 i4))) rfl (fun _=>rfl) fun r v5 v6=>by kernel_rfl
theorem Vn: ∀n l3 i4,(o9 k).lp κ 3 [] n (rX f l3 i4)=j7 k (bG κ) f n l3 i4:=aA (fun own=>pB k (bG κ) f (fun l3 i4 v5 v6=>lH k (bG κ) own f l3 i4 k v5 v6) own) rfl (fun _=>rfl) fun r l3 i4=>Eq.trans (b:=pB k (bG κ) f (fun l3 i4 v5 v6=>(o9 k).lp κ 7 [r] k (JH f l3 i4 v5 v6)) (fun l3 i4=>r (rX f l3 i4)) l3 i4) (by kernel_rfl) (by simp only [Vo])
end
theorem HE {S:Type} (o:Obj) (ho:ad o) (k:Nat):Tl o 249 (Dp k:Rw S):=af (o9 k) ⟨ln o ho k,nj o ho k,trivial⟩ Tryz.func249 (by kernel_rfl) fun f κ x h=>Eq.trans (b:=EU k (bG κ) (fun l3 i4=>(o9 k).lp κ 3 [] k (rX f l3 i4)) f) (by kernel_rfl) (Eq.trans (by simp only [Vn];rfl) (ag h))
def mf {S:Type} (k:Nat):Rw S:=ae rm xn fun s κ=>aa k (gO k s) (xE κ)
def zg {S:Type} (k:Nat):Fx S:=fx 17 (fun _=>[]) (fun _=>false) [(290,kw k)] [(3,⟨[(0,.none),(3,some (100003,true)),(4,.none)],[]⟩,am 5 11)] k Tryz.f248 false [true] 0
def JI (s:Int) (out3:List Int) (i4:Int):St UU:=⟨[(0,(iU s)),(3,(.own 100003 0)),(4,(iI i4))],[],[(100003,⟨0,ET.I,out3⟩)],[(100003,.wr)]⟩
section
variable {S:Type} (k:Nat) (s:Int) (κ:Out UU→Option S)
theorem Vp: ∀n out3 i4,(zg k).lp κ 3 [] n (JI s out3 i4)=rz k (xE κ) s n out3 i4:=aA (zU k (xE κ) s) rfl (fun _=>rfl) fun r out3 i4=>by kernel_rfl
end
theorem nk {S:Type} (o:Obj) (ho:ad o) (k:Nat):Tl o 248 (mf k:Rw S):=af (zg k) ⟨ln o ho k,trivial⟩ Tryz.func248 (by kernel_rfl) fun s κ x h=>Eq.trans (b:=EJ k (xE κ) (fun out3 i4=>(zg k).lp κ 3 [] k (JI s out3 i4)) s) (by kernel_rfl) (Eq.trans (by simp only [Vp];rfl) (ag h))
def MK {S:Type} (k:Nat):Rw S:=ae wE xn fun f dims κ=>aa k (qL k f dims) (ar κ)
def S3 {S:Type} (k:Nat):Fx S:=fp 22 [(248,mf k),(249,Dp k)] [] k Tryz.f173 0
theorem Y6 {S:Type} (o:Obj) (ho:ad o) (k:Nat):Tl o 173 (MK k:Rw S):=af (S3 k) ⟨nk o ho k,HE o ho k,trivial⟩ Tryz.func173 (by kernel_rfl) fun f dims κ x h=>Eq.trans (by kernel_rfl) (ag h)
def xM {S:Type} (k:Nat):Rw S:=ae IA xn fun kind kid κ=>aa k (m9 k kind kid) (jl κ)
def o_ {S:Type} (k:Nat):Fx S:=fp 44 [] [(1000003,aE [0,1] [],am 2 3),(1000005,aE [0,1] [],am 3 7)] k Tryz.f174 0
def JJ (kind kid:Int):St UU:=⟨[(0,(iI kind)),(1,(iI kid))],[],[],[]⟩
def JK (kind kid:Int):St UU:=⟨[(0,(iI kind)),(1,(iI kid))],[],[],[]⟩
section
variable {S:Type} (k:Nat) (kind kid:Int) (κ:Out UU→Option S)
theorem Vr: ∀n,(o_ k).jn κ 1000005 [] n (JK kind kid)=wN k (jl κ) kind kid n:=iW (zW k (jl κ) kind kid) rfl (fun _=>rfl) (by kernel_rfl)
theorem Vq: ∀n,(o_ k).jn κ 1000003 [] n (JJ kind kid)=B4 k (jl κ) kind kid n:=iW (uq k (jl κ) kind kid (wN k (jl κ) kind kid k)) rfl (fun _=>rfl) (Eq.trans (b:=uq k (jl κ) kind kid ((o_ k).jn κ 1000005 [] k (JK kind kid))) (by kernel_rfl) (by simp only [Vr]))
end
theorem A8 {S:Type} (o:Obj) (ho:ad o) (k:Nat):Tl o 174 (xM k:Rw S):=af (o_ k) trivial Tryz.func174 (by kernel_rfl) fun kind kid κ x h=>Eq.trans (b:=E5 k (jl κ) ((o_ k).jn κ 1000003 [] k (JJ kind kid)) kind kid) (by kernel_rfl) (Eq.trans (by simp only [Vq];rfl) (ag h))
def Dq {S:Type} (k:Nat):Rw S:=ae lw xn fun c κ=>aa k (qC k c) (ar κ)
def zh {S:Type} (k:Nat):Fx S:=fp 18 [(290,kw k)] [(2,aE [1,3] [(1,2)],am 4 5)] k Tryz.f247 0
def JL (c:Cl) (i3:Int):St UU:=⟨[(1,(pt 1)),(3,(iI i3))],[(1,bC c)],[],[]⟩
section
variable {S:Type} (k:Nat) (c:Cl) (κ:Out UU→Option S)
theorem Vs: ∀n i3,(zh k).lp κ 2 [] n (JL c i3)=nS k (ar κ) c n i3:=b9 (t8 k (ar κ) c) rfl (fun _=>rfl) fun r i3=>by kernel_rfl
end
theorem HF {S:Type} (o:Obj) (ho:ad o) (k:Nat):Tl o 247 (Dq k:Rw S):=af (zh k) ⟨ln o ho k,trivial⟩ Tryz.func247 (by kernel_rfl) fun c κ x h=>Eq.trans (b:=EP k (ar κ) (fun i3=>(zh k).lp κ 2 [] k (JL c i3)) c) (by kernel_rfl) (Eq.trans (by simp only [Vs];rfl) (ag h))
def sO {S:Type} (k:Nat):Rw S:=ae dI xn fun f κ=>aa k (gR k f) (ar κ)
def zi {S:Type} (k:Nat):Fx S:=fp 18 [(171,hX k),(247,Dq k)] [(4,aE [0,3] [],am 5 11)] k Tryz.f172 0
def JM (f:List Cl) (i3:Int):St UU:=⟨[(0,(sC f)),(3,(iI i3))],[],[],[]⟩
section
variable {S:Type} (k:Nat) (f:List Cl) (κ:Out UU→Option S)
theorem Vt: ∀n i3,(zi k).lp κ 4 [] n (JM f i3)=n1 k (ar κ) f n i3:=b9 (uk k (ar κ) f) rfl (fun _=>rfl) fun r i3=>by kernel_rfl
end
theorem vT {S:Type} (o:Obj) (ho:ad o) (k:Nat):Tl o 172 (sO k:Rw S):=af (zi k) ⟨iM o ho k,HF o ho k,trivial⟩ Tryz.func172 (by kernel_rfl) fun f κ x h=>Eq.trans (b:=E2 k (ar κ) (fun i3=>(zi k).lp κ 4 [] k (JM f i3)) f) (by kernel_rfl) (Eq.trans (by simp only [Vt];rfl) (ag h))
def xN {S:Type} (k:Nat):Rw S:=ae d6 xn fun kind κ=>aa k (m_ k kind) (ay κ)
def S4 {S:Type} (k:Nat):Fx S:=fp 5 [] [] k Tryz.f175 0
theorem A9 {S:Type} (o:Obj) (ho:ad o) (k:Nat):Tl o 175 (xN k:Rw S):=af (S4 k) trivial Tryz.func175 (by kernel_rfl) fun kind κ x h=>Eq.trans (by kernel_rfl) (ag h)
def Dr {S:Type} (hd:dj S):Rw S:=ae IC xn fun t vars dims bound κ=>hd t vars dims bound (ar κ)
def dY {S:Type} (hd:dj S) (k:Nat):Fx S:=fp 187 [(87,Dr hd),(168,MB k),(169,MC k),(170,ME k),(171,hX k),(172,sO k),(173,MK k),(174,xM k),(175,xN k)] [(1000003,aE [1,2,3,4] [(4,6)],am 2 3),(1000008,aE [1,2,3,4] [(4,6)],am 3 7),(1000010,aE [1,2,3,4] [(4,6)],am 4 15),(1000021,aE [1,2,3,4] [(4,6)],am 5 31),(24,aE [1,2,3,4,9] [(4,6)],am 9 191),(32,aE [1,2,3,4,12] [(4,6)],am 10 383),(38,aE [1,2,3,4,12,13,14] [(4,6),(13,2)],am 18 117119)] k Tryz.f87 0
def JN (t:Tm) (vars dims:Int) (bound:Bool):St UU:=⟨[(1,(iI vars)),(2,(iI dims)),(3,(.bool bound)),(4,(pt 4))],[(4,bT t)],[],[]⟩
def JO (t:Tm) (vars dims:Int) (bound:Bool):St UU:=⟨[(1,(iI vars)),(2,(iI dims)),(3,(.bool bound)),(4,(pt 4))],[(4,bT t)],[],[]⟩
def JP (t:Tm) (vars dims:Int) (bound:Bool):St UU:=⟨[(1,(iI vars)),(2,(iI dims)),(3,(.bool bound)),(4,(pt 4))],[(4,bT t)],[],[]⟩
def JQ (t:Tm) (vars dims:Int) (bound:Bool):St UU:=⟨[(1,(iI vars)),(2,(iI dims)),(3,(.bool bound)),(4,(pt 4))],[(4,bT t)],[],[]⟩
def Cy (t:Tm) (vars dims:Int) (bound:Bool) (i9:Int):St UU:=⟨[(1,(iI vars)),(2,(iI dims)),(3,(.bool bound)),(4,(pt 4)),(9,(iI i9))],[(4,bT t)],[],[]⟩
def rY (t:Tm) (vars dims:Int) (bound:Bool) (i12:Int):St UU:=⟨[(1,(iI vars)),(2,(iI dims)),(3,(.bool bound)),(4,(pt 4)),(12,(iI i12))],[(4,bT t)],[],[]⟩
def JR (x11:(Br Tm)) (t:Tm) (vars i12 dims:Int) (bound:Bool) (v14:Int):St UU:=⟨[(1,(iI vars)),(2,(iI dims)),(3,(.bool bound)),(4,(pt 4)),(12,(iI i12)),(13,(pt 13)),(14,(iI v14))],[(4,bT t),(13,bB x11)],[],[]⟩
section
variable {S:Type} (hd:dj S) (k:Nat) (t:Tm) (vars dims:Int) (bound:Bool) (κ:Out UU→Option S)
theorem VA (x11 i12 κ5): ∀n v14,(dY hd k).lp κ 38 [κ5] n (JR x11 t vars i12 dims bound v14)=kc hd k (ar κ) (fun i12=>κ5 (rY t vars dims bound i12)) x11 t vars i12 dims bound n v14:=b9 (up hd k (ar κ) x11 t vars i12 dims bound (fun i12=>κ5 (rY t vars dims bound i12))) rfl (fun _=>rfl) fun r v14=>by kernel_rfl
theorem Vz: ∀n i12,(dY hd k).lp κ 32 [] n (rY t vars dims bound i12)=gf hd k (ar κ) t vars dims bound n i12:=b9 (fun own=>pJ hd k (ar κ) t vars dims bound (fun x11 i12 v14=>kc hd k (ar κ) own x11 t vars i12 dims bound k v14) own) rfl (fun _=>rfl) fun r i12=>Eq.trans (b:=pJ hd k (ar κ) t vars dims bound (fun x11 i12 v14=>(dY hd k).lp κ 38 [r] k (JR x11 t vars i12 dims bound v14)) (fun i12=>r (rY t vars dims bound i12)) i12) (by kernel_rfl) (by simp only [VA])
theorem Vy: ∀n i9,(dY hd k).lp κ 24 [] n (Cy t vars dims bound i9)=ja hd k (ar κ) t vars dims bound n i9:=b9 (fun own=>pI hd k (ar κ) t vars dims bound (fun i12=>gf hd k (ar κ) t vars dims bound k i12) own) rfl (fun _=>rfl) fun r i9=>Eq.trans (b:=pI hd k (ar κ) t vars dims bound (fun i12=>(dY hd k).lp κ 32 [] k (rY t vars dims bound i12)) (fun i9=>r (Cy t vars dims bound i9)) i9) (by kernel_rfl) (by simp only [Vz])
theorem Vx: ∀n,(dY hd k).jn κ 1000021 [] n (JQ t vars dims bound)=n7 hd k (ar κ) t vars dims bound n:=iW (uo hd k (ar κ) t vars dims bound (fun i9=>ja hd k (ar κ) t vars dims bound k i9)) rfl (fun _=>rfl) (Eq.trans (b:=uo hd k (ar κ) t vars dims bound (fun i9=>(dY hd k).lp κ 24 [] k (Cy t vars dims bound i9))) (by kernel_rfl) (by simp only [Vy]))
theorem Vw: ∀n,(dY hd k).jn κ 1000010 [] n (JP t vars dims bound)=n5 hd k (ar κ) t vars dims bound n:=iW (pH hd k (ar κ) t vars dims bound (n7 hd k (ar κ) t vars dims bound k)) rfl (fun _=>rfl) (Eq.trans (b:=pH hd k (ar κ) t vars dims bound ((dY hd k).jn κ 1000021 [] k (JQ t vars dims bound))) (by kernel_rfl) (by simp only [Vx]))
theorem Vv: ∀n,(dY hd k).jn κ 1000008 [] n (JO t vars dims bound)=rA hd k (ar κ) t vars dims bound n:=iW (pG hd k (ar κ) t vars dims bound (n5 hd k (ar κ) t vars dims bound k)) rfl (fun _=>rfl) (Eq.trans (b:=pG hd k (ar κ) t vars dims bound ((dY hd k).jn κ 1000010 [] k (JP t vars dims bound))) (by kernel_rfl) (by simp only [Vw]))
theorem Vu: ∀n,(dY hd k).jn κ 1000003 [] n (JN t vars dims bound)=wM hd k (ar κ) t vars dims bound n:=iW (um hd k (ar κ) t vars dims bound (rA hd k (ar κ) t vars dims bound k)) rfl (fun _=>rfl) (Eq.trans (b:=um hd k (ar κ) t vars dims bound ((dY hd k).jn κ 1000008 [] k (JO t vars dims bound))) (by kernel_rfl) (by simp only [Vv]))
end
theorem Ii {S:Type} (o:Obj) (ho:ad o): ∀k:Nat,Tl o 87 (Dr (cq k:dj S))
 |0=>dx fun t vars dims bound κ x h=>by cases h
 |k+1=>af (dY (cq k) k) ⟨Ii o ho k,YX o ho k,YY o ho k,Y0 o ho k,iM o ho k,vT o ho k,Y6 o ho k,A8 o ho k,A9 o ho k,trivial⟩ Tryz.func87 (by kernel_rfl) fun t vars dims bound κ x h=>Eq.trans (b:=E4 (cq k) k (ar κ) ((dY (cq k) k).jn κ 1000003 [] k (JN t vars dims bound)) t vars dims bound) (by kernel_rfl) (Eq.trans (by simp only [Vu];rfl) h)
def Ds {S:Type} (k:Nat):Rw S:=ae c6 xn fun t κ=>aa k (qI k t) (ay κ)
def S5 {S:Type} (k:Nat):Fx S:=fp 14 [(86,MA k),(87,Dr (cq k))] [] k Tryz.f36 0
theorem HG {S:Type} (o:Obj) (ho:ad o) (k:Nat):Tl o 36 (Ds k:Rw S):=af (S5 k) ⟨YW o ho k,Ii o ho k,trivial⟩ Tryz.func36 (by kernel_rfl) fun t κ x h=>Eq.trans (by kernel_rfl) (ag h)
def ML {S:Type} (k:Nat):Rw S:=ae nA xn fun t a b κ=>aa k (AL k t a b) (ay κ)
def S6 {S:Type} (k:Nat):Fx S:=fp 21 [(36,Ds k)] [] k Tryz.f176 0
theorem Y7 {S:Type} (o:Obj) (ho:ad o) (k:Nat):Tl o 176 (ML k:Rw S):=af (S6 k) ⟨HG o ho k,trivial⟩ Tryz.func176 (by kernel_rfl) fun t a b κ x h=>Eq.trans (by kernel_rfl) (ag h)
def sP {S:Type} (k:Nat):Rw S:=ae d6 xn fun a_e κ=>aa k (eR k a_e) (CY κ)
def S7 {S:Type} (k:Nat):Fx S:=fx 6 (fun _=>[]) (fun _=>false) [] [] k Tryz.f89 true [] 0
theorem vU {S:Type} (o:Obj) (ho:ad o) (k:Nat):Tl o 89 (sP k:Rw S):=af (S7 k) trivial Tryz.func89 (by kernel_rfl) fun a_e κ x h=>Eq.trans (by kernel_rfl) (ag h)
def MM {S:Type} (k:Nat):Rw S:=ae IG xn fun s a_from a_by κ=>aa k (jI k s a_from a_by) (sF κ)
def zj {S:Type} (k:Nat):Fx S:=fp 48 [(248,mf k),(291,me k)] [(5,⟨[(1,.none),(2,.none),(8,some (100008,true)),(9,.none)],[]⟩,am 6 23)] k Tryz.f292 0
def JS (a_from a_by:Int) (l8:List Int) (v9:Int):St UU:=⟨[(1,(iI a_from)),(2,(iI a_by)),(8,(.own 100008 0)),(9,(iI v9))],[],[(100008,⟨0,ET.I,l8⟩)],[(100008,.wr)]⟩
section
variable {S:Type} (k:Nat) (s a_from a_by:Int) (κ:Out UU→Option S)
theorem VB: ∀n l8 v9,(zj k).lp κ 5 [] n (JS a_from a_by l8 v9)=lE k (sF κ) a_from a_by n l8 v9:=aA (tY k (sF κ) a_from a_by) rfl (fun _=>rfl) fun r l8 v9=>by kernel_rfl
end
theorem Y8 {S:Type} (o:Obj) (ho:ad o) (k:Nat):Tl o 292 (MM k:Rw S):=af (zj k) ⟨nk o ho k,nj o ho k,trivial⟩ Tryz.func292 (by kernel_rfl) fun s a_from a_by κ x h=>Eq.trans (b:=tk k (sF κ) (fun l8 v9=>(zj k).lp κ 5 [] k (JS a_from a_by l8 v9)) s a_from a_by) (by kernel_rfl) (Eq.trans (by simp only [VB];rfl) (ag h))
def MN {S:Type} (k:Nat):Rw S:=ae IH xn fun c a_from a_by κ=>aa k (vr k c a_from a_by) (Lc κ)
def S8 {S:Type} (k:Nat):Fx S:=fp 42 [(287,Dm k),(292,MM k)] [] k Tryz.f251 0
theorem Y9 {S:Type} (o:Obj) (ho:ad o) (k:Nat):Tl o 251 (MN k:Rw S):=af (S8 k) ⟨HD o ho k,Y8 o ho k,trivial⟩ Tryz.func251 (by kernel_rfl) fun c a_from a_by κ x h=>Eq.trans (by kernel_rfl) (ag h)
def xO {S:Type} (k:Nat):Rw S:=ae BI xn fun f a_from a_by κ=>aa k (m7 k f a_from a_by) (aq κ)
def zk {S:Type} (k:Nat):Fx S:=fp 42 [(171,hX k),(246,ku k),(251,MN k)] [(5,⟨[(0,.none),(1,.none),(2,.none),(8,some (100008,true)),(9,.none)],[]⟩,am 6 23)] k Tryz.f179 0
def JT (f:List Cl) (a_from a_by:Int) (out8:List Cl) (i9:Int):St UU:=⟨[(0,(sC f)),(1,(iI a_from)),(2,(iI a_by)),(8,(.own 100008 0)),(9,(iI i9))],[],[(100008,⟨0,ET.C,out8⟩)],[(100008,.wr)]⟩
section
variable {S:Type} (k:Nat) (f:List Cl) (a_from a_by:Int) (κ:Out UU→Option S)
theorem VC: ∀n out8 i9,(zk k).lp κ 5 [] n (JT f a_from a_by out8 i9)=nW k (aq κ) f a_from a_by n out8 i9:=aA (ue k (aq κ) f a_from a_by) rfl (fun _=>rfl) fun r out8 i9=>by kernel_rfl
end
theorem A_ {S:Type} (o:Obj) (ho:ad o) (k:Nat):Tl o 179 (xO k:Rw S):=af (zk k) ⟨iM o ho k,lm o ho k,Y9 o ho k,trivial⟩ Tryz.func179 (by kernel_rfl) fun f a_from a_by κ x h=>Eq.trans (b:=EV k (aq κ) (fun out8 i9=>(zk k).lp κ 5 [] k (JT f a_from a_by out8 i9)) f a_from a_by) (by kernel_rfl) (Eq.trans (by simp only [VC];rfl) (ag h))
def MO {S:Type} (k:Nat):Rw S:=ae BI xn fun f a_from a_by κ=>aa k (qM k f a_from a_by) (aq κ)
def S9 {S:Type} (k:Nat):Fx S:=fp 17 [(179,xO k)] [] k Tryz.f250 0
theorem Y_ {S:Type} (o:Obj) (ho:ad o) (k:Nat):Tl o 250 (MO k:Rw S):=af (S9 k) ⟨A_ o ho k,trivial⟩ Tryz.func250 (by kernel_rfl) fun f a_from a_by κ x h=>Eq.trans (by kernel_rfl) (ag h)
end
end Go.Proofs.YtgajalidbabccaaGreatDoor
namespace Go.Proofs.YtgajalidbabccaaGreatDoor
open Go PI
set_option linter.unusedVariables false
set_option maxRecDepth 100000
noncomputable section
def Dt {S:Type} (hd:eM S):Rw S:=ae abg xn fun t v vby d dby κ=>hd t v vby d dby (a6 κ)
def ir {S:Type} (hd:eM S) (k:Nat):Fx S:=fp 174 [(89,sP k),(174,xM k),(175,xN k),(178,Dt hd),(250,MO k)] [(1000006,⟨[(1,.none),(2,.none),(3,.none),(4,.none),(5,.none),(10,.none),(11,.none)],[(5,[.none,.none,.none,.none,.none,.none]),(10,[.none,.none,.none,some (200643,true),some (200644,true),some (200645,true)]),(11,[.none,.none,.none,some (200707,true),some (200708,true),some (200709,true)])]⟩,am 3 7),(11,⟨[(1,.none),(2,.none),(3,.none),(4,.none),(5,.none),(10,.none),(11,.none),(14,.none)],[(5,[.none,.none,.none,.none,.none,.none]),(10,[.none,.none,.none,some (200643,true),some (200644,true),some (200645,true)]),(11,[.none,.none,.none,.none,some (200708,true),some (200709,true)])]⟩,am 9 191),(19,⟨[(1,.none),(2,.none),(3,.none),(4,.none),(5,.none),(10,.none),(11,.none),(18,.none)],[(5,[.none,.none,.none,.none,.none,.none]),(10,[.none,.none,.none,some (200643,true),some (200644,true),some (200645,true)]),(11,[.none,.none,.none,.none,some (200708,true),some (200709,true)])]⟩,am 10 383),(26,⟨[(1,.none),(2,.none),(3,.none),(4,.none),(5,.none),(10,.none),(11,.none),(18,.none),(21,.none),(22,.none)],[(5,[.none,.none,.none,.none,.none,.none]),(10,[.none,.none,.none,some (200643,true),some (200644,true),some (200645,true)]),(11,[.none,.none,.none,.none,some (200708,true),some (200709,true)]),(21,[.none,some (201345,true)])]⟩,am 20 379263)] k Tryz.f178 0
def JU (t:Tm) (v vby d dby:Int) (b11_1:Int):St UU:=⟨[(1,(iI v)),(2,(iI vby)),(3,(iI d)),(4,(iI dby)),(5,(pt 5)),(10,(pt 10)),(11,(pt 11))],[(5,bT t),(10,.cells [(iI 0),(iI 0),(.str ByteArray.empty),(.own 200643 0),(.own 200644 0),(.own 200645 0)]),(11,.cells [(iI t.kind),(iI b11_1),(.str t.name),(.own 200707 0),(.own 200708 0),(.own 200709 0)])],[(200709,⟨0,ET.B,([]:List (Br Tm))⟩),(200708,⟨0,ET.T,([]:List Tm)⟩),(200707,⟨0,ET.C,([]:List Cl)⟩),(200645,⟨0,ET.B,([]:List (Br Tm))⟩),(200644,⟨0,ET.T,([]:List Tm)⟩),(200643,⟨0,ET.C,([]:List Cl)⟩)],[(200709,.wr),(200708,.wr),(200707,.wr),(200645,.wr),(200644,.wr),(200643,.wr)]⟩
def Cz (t:Tm) (b11_1:Int) (r2:List Cl×Int) (v vby d dby:Int) (b11_4:List Tm) (i14:Int):St UU:=⟨[(1,(iI v)),(2,(iI vby)),(3,(iI d)),(4,(iI dby)),(5,(pt 5)),(10,(pt 10)),(11,(pt 11)),(14,(iI i14))],[(5,bT t),(10,.cells [(iI 0),(iI 0),(.str ByteArray.empty),(.own 200643 0),(.own 200644 0),(.own 200645 0)]),(11,.cells [(iI t.kind),(iI b11_1),(.str t.name),(sC r2.1),(.own 200708 0),(.own 200709 0)])],[(200709,⟨0,ET.B,([]:List (Br Tm))⟩),(200708,⟨0,ET.T,b11_4⟩),(200645,⟨0,ET.B,([]:List (Br Tm))⟩),(200644,⟨0,ET.T,([]:List Tm)⟩),(200643,⟨0,ET.C,([]:List Cl)⟩)],[(200709,.wr),(200708,.wr),(200645,.wr),(200644,.wr),(200643,.wr)]⟩
def rZ (t:Tm) (b11_1:Int) (r2:List Cl×Int) (b11_4:List Tm) (v vby d dby:Int) (b11_5:List (Br Tm)) (i18:Int):St UU:=⟨[(1,(iI v)),(2,(iI vby)),(3,(iI d)),(4,(iI dby)),(5,(pt 5)),(10,(pt 10)),(11,(pt 11)),(18,(iI i18))],[(5,bT t),(10,.cells [(iI 0),(iI 0),(.str ByteArray.empty),(.own 200643 0),(.own 200644 0),(.own 200645 0)]),(11,.cells [(iI t.kind),(iI b11_1),(.str t.name),(sC r2.1),(.own 200708 0),(.own 200709 0)])],[(200709,⟨0,ET.B,b11_5⟩),(200708,⟨0,ET.T,b11_4⟩),(200645,⟨0,ET.B,([]:List (Br Tm))⟩),(200644,⟨0,ET.T,([]:List Tm)⟩),(200643,⟨0,ET.C,([]:List Cl)⟩)],[(200709,.wr),(200708,.wr),(200645,.wr),(200644,.wr),(200643,.wr)]⟩
def JV (t:Tm) (b11_1:Int) (r2:List Cl×Int) (b11_4:List Tm) (b11_5:List (Br Tm)) (r9:List Cl×Int) (v i18 vby d dby:Int) (b21_1:List Tm) (v22:Int):St UU:=⟨[(1,(iI v)),(2,(iI vby)),(3,(iI d)),(4,(iI dby)),(5,(pt 5)),(10,(pt 10)),(11,(pt 11)),(18,(iI i18)),(21,(pt 21)),(22,(iI v22))],[(5,bT t),(10,.cells [(iI 0),(iI 0),(.str ByteArray.empty),(.own 200643 0),(.own 200644 0),(.own 200645 0)]),(11,.cells [(iI t.kind),(iI b11_1),(.str t.name),(sC r2.1),(.own 200708 0),(.own 200709 0)]),(21,.cells [(sC r9.1),(.own 201345 0)])],[(201345,⟨0,ET.T,b21_1⟩),(200709,⟨0,ET.B,b11_5⟩),(200708,⟨0,ET.T,b11_4⟩),(200645,⟨0,ET.B,([]:List (Br Tm))⟩),(200644,⟨0,ET.T,([]:List Tm)⟩),(200643,⟨0,ET.C,([]:List Cl)⟩)],[(201345,.wr),(200709,.wr),(200708,.wr),(200645,.wr),(200644,.wr),(200643,.wr)]⟩
section
variable {S:Type} (hd:eM S) (k:Nat) (t:Tm) (v vby d dby:Int) (κ:Out UU→Option S)
theorem VH (b11_1 r2 b11_4 b11_5 r9 i18 κ2): ∀n b21_1 v22,(ir hd k).lp κ 26 [κ2] n (JV t b11_1 r2 b11_4 b11_5 r9 v i18 vby d dby b21_1 v22)=g5 hd k (a6 κ) (fun b11_5 i18=>κ2 (rZ t b11_1 r2 b11_4 v vby d dby b11_5 i18)) t b11_1 r2 b11_4 b11_5 r9 v i18 vby d dby n b21_1 v22:=aA (uz hd k (a6 κ) t b11_1 r2 b11_4 b11_5 r9 v i18 vby d dby (fun b11_5 i18=>κ2 (rZ t b11_1 r2 b11_4 v vby d dby b11_5 i18))) rfl (fun _=>rfl) fun r b21_1 v22=>by kernel_rfl
theorem VG (b11_1 r2 b11_4): ∀n b11_5 i18,(ir hd k).lp κ 19 [] n (rZ t b11_1 r2 b11_4 v vby d dby b11_5 i18)=d8 hd k (a6 κ) t b11_1 r2 b11_4 v vby d dby n b11_5 i18:=aA (fun own=>pV hd k (a6 κ) t b11_1 r2 b11_4 v vby d dby (fun b11_5 r9 i18 b21_1 v22=>g5 hd k (a6 κ) own t b11_1 r2 b11_4 b11_5 r9 v i18 vby d dby k b21_1 v22) own) rfl (fun _=>rfl) fun r b11_5 i18=>Eq.trans (b:=pV hd k (a6 κ) t b11_1 r2 b11_4 v vby d dby (fun b11_5 r9 i18 b21_1 v22=>(ir hd k).lp κ 26 [r] k (JV t b11_1 r2 b11_4 b11_5 r9 v i18 vby d dby b21_1 v22)) (fun b11_5 i18=>r (rZ t b11_1 r2 b11_4 v vby d dby b11_5 i18)) b11_5 i18) (by kernel_rfl) (by simp only [VH])
theorem VF (b11_1 r2): ∀n b11_4 i14,(ir hd k).lp κ 11 [] n (Cz t b11_1 r2 v vby d dby b11_4 i14)=gg hd k (a6 κ) t b11_1 r2 v vby d dby n b11_4 i14:=aA (fun own=>pU hd k (a6 κ) t b11_1 r2 v vby d dby (fun b11_4 b11_5 i18=>d8 hd k (a6 κ) t b11_1 r2 b11_4 v vby d dby k b11_5 i18) own) rfl (fun _=>rfl) fun r b11_4 i14=>Eq.trans (b:=pU hd k (a6 κ) t b11_1 r2 v vby d dby (fun b11_4 b11_5 i18=>(ir hd k).lp κ 19 [] k (rZ t b11_1 r2 b11_4 v vby d dby b11_5 i18)) (fun b11_4 i14=>r (Cz t b11_1 r2 v vby d dby b11_4 i14)) b11_4 i14) (by kernel_rfl) (by simp only [VG])
theorem VE: ∀n b11_1,(ir hd k).jn κ 1000006 [] n (JU t v vby d dby b11_1)=wP hd k (a6 κ) t v vby d dby n b11_1:=BD (pT hd k (a6 κ) t v vby d dby (fun b11_1 r2 b11_4 i14=>gg hd k (a6 κ) t b11_1 r2 v vby d dby k b11_4 i14)) rfl (fun _=>rfl) (fun b11_1=>Eq.trans (b:=pT hd k (a6 κ) t v vby d dby (fun b11_1 r2 b11_4 i14=>(ir hd k).lp κ 11 [] k (Cz t b11_1 r2 v vby d dby b11_4 i14)) b11_1) (by kernel_rfl) (by simp only [VF]))
end
theorem Ij {S:Type} (o:Obj) (ho:ad o): ∀k:Nat,Tl o 178 (Dt (dq k:eM S))
 |0=>dx fun t v vby d dby κ x h=>by cases h
 |k+1=>af (ir (dq k) k) ⟨vU o ho k,A8 o ho k,A9 o ho k,Ij o ho k,Y_ o ho k,trivial⟩ Tryz.func178 (by kernel_rfl) fun t v vby d dby κ x h=>Eq.trans (b:=Fc (dq k) k (a6 κ) (fun b11_1=>(ir (dq k) k).jn κ 1000006 [] k (JU t v vby d dby b11_1)) t v vby d dby) (by kernel_rfl) (Eq.trans (by simp only [VE];rfl) h)
def MP {S:Type} (k:Nat):Rw S:=ae c6 xn fun t κ=>aa k (vE k t) (dL κ)
def S_ {S:Type} (k:Nat):Fx S:=fp 12 [] [] k Tryz.f177 0
theorem Za {S:Type} (o:Obj) (ho:ad o) (k:Nat):Tl o 177 (MP k:Rw S):=af (S_ k) trivial Tryz.func177 (by kernel_rfl) fun t κ x h=>Eq.trans (by kernel_rfl) (ag h)
def MQ {S:Type} (k:Nat):Rw S:=ae nA xn fun t a_from a_by κ=>aa k (vD k t a_from a_by) (dL κ)
def Ta {S:Type} (k:Nat):Fx S:=fp 26 [(176,ML k),(177,MP k),(178,Dt (dq k))] [] k Tryz.f88 0
theorem Zb {S:Type} (o:Obj) (ho:ad o) (k:Nat):Tl o 88 (MQ k:Rw S):=af (Ta k) ⟨Y7 o ho k,Za o ho k,Ij o ho k,trivial⟩ Tryz.func88 (by kernel_rfl) fun t a_from a_by κ x h=>Eq.trans (by kernel_rfl) (ag h)
def sQ {S:Type} (k:Nat):Rw S:=ae jV xn fun s i κ=>aa k (fl k s i) (bG κ)
def zl {S:Type} (k:Nat):Fx S:=fp 31 [(248,mf k),(291,me k)] [(4,⟨[(1,.none),(5,some (100005,true)),(6,some (100006,true)),(7,.none)],[]⟩,am 6 23)] k Tryz.f318 0
def JW (i:Int) (r1:List Int) (out6:List Int) (v7:Int):St UU:=⟨[(1,(iI i)),(5,(.own 100005 0)),(6,(.own 100006 0)),(7,(iI v7))],[],[(100006,⟨0,ET.I,out6⟩),(100005,⟨0,ET.I,r1⟩)],[(100006,.wr),(100005,.wr)]⟩
section
variable {S:Type} (k:Nat) (s i:Int) (κ:Out UU→Option S)
theorem VI (r1): ∀n out6 v7,(zl k).lp κ 4 [] n (JW i r1 out6 v7)=nQ k (bG κ) i r1 n out6 v7:=aA (t6 k (bG κ) i r1) rfl (fun _=>rfl) fun r out6 v7=>by kernel_rfl
end
theorem vV {S:Type} (o:Obj) (ho:ad o) (k:Nat):Tl o 318 (sQ k:Rw S):=af (zl k) ⟨nk o ho k,nj o ho k,trivial⟩ Tryz.func318 (by kernel_rfl) fun s i κ x h=>Eq.trans (b:=EM k (bG κ) (fun r1 out6 v7=>(zl k).lp κ 4 [] k (JW i r1 out6 v7)) s i) (by kernel_rfl) (Eq.trans (by simp only [VI];rfl) (ag h))
def sR {S:Type} (k:Nat):Rw S:=ae dI xn fun l κ=>aa k (lg k l) (aq κ)
def zn {S:Type} (k:Nat):Fx S:=fp 29 [(246,ku k),(247,Dq k)] [(3,⟨[(0,.none),(4,some (100004,true)),(5,.none)],[]⟩,am 5 11)] k Tryz.f334 0
def JY (l:List Cl) (out4:List Cl) (i5:Int):St UU:=⟨[(0,(sC l)),(4,(.own 100004 0)),(5,(iI i5))],[],[(100004,⟨0,ET.C,out4⟩)],[(100004,.wr)]⟩
section
variable {S:Type} (k:Nat) (l:List Cl) (κ:Out UU→Option S)
theorem VL: ∀n out4 i5,(zn k).lp κ 3 [] n (JY l out4 i5)=n4 k (aq κ) l n out4 i5:=aA (ul k (aq κ) l) rfl (fun _=>rfl) fun r out4 i5=>by kernel_rfl
end
theorem vW {S:Type} (o:Obj) (ho:ad o) (k:Nat):Tl o 334 (sR k:Rw S):=af (zn k) ⟨lm o ho k,HF o ho k,trivial⟩ Tryz.func334 (by kernel_rfl) fun l κ x h=>Eq.trans (b:=E3 k (aq κ) (fun out4 i5=>(zn k).lp κ 3 [] k (JY l out4 i5)) l) (by kernel_rfl) (Eq.trans (by simp only [VL];rfl) (ag h))
def MT {S:Type} (k:Nat):Rw S:=ae dI xn fun f κ=>aa k (vz k f) (aq κ)
def Tb {S:Type} (k:Nat):Fx S:=fp 11 [(171,hX k),(334,sR k)] [] k Tryz.f319 0
theorem Zd {S:Type} (o:Obj) (ho:ad o) (k:Nat):Tl o 319 (MT k:Rw S):=af (Tb k) ⟨iM o ho k,vW o ho k,trivial⟩ Tryz.func319 (by kernel_rfl) fun f κ x h=>Eq.trans (by kernel_rfl) (ag h)
def MU {S:Type} (k:Nat):Rw S:=ae lw xn fun c κ=>aa k (vw k c) (eF κ)
def zo {S:Type} (k:Nat):Fx S:=fp 37 [(246,ku k),(290,kw k),(291,me k)] [(3,⟨[(1,.none),(3,some (100003,true)),(4,.none)],[(1,[.none,.none])]⟩,am 5 11)] k Tryz.f336 0
def JZ (c:Cl) (out3:List Cl) (i4:Int):St UU:=⟨[(1,(pt 1)),(3,(.own 100003 0)),(4,(iI i4))],[(1,bC c)],[(100003,⟨0,ET.C,out3⟩)],[(100003,.wr)]⟩
section
variable {S:Type} (k:Nat) (c:Cl) (κ:Out UU→Option S)
theorem VM: ∀n out3 i4,(zo k).lp κ 3 [] n (JZ c out3 i4)=nZ k (eF κ) c n out3 i4:=aA (uh k (eF κ) c) rfl (fun _=>rfl) fun r out3 i4=>by kernel_rfl
end
theorem Ze {S:Type} (o:Obj) (ho:ad o) (k:Nat):Tl o 336 (MU k:Rw S):=af (zo k) ⟨lm o ho k,ln o ho k,nj o ho k,trivial⟩ Tryz.func336 (by kernel_rfl) fun c κ x h=>Eq.trans (b:=EZ k (eF κ) (fun out3 i4=>(zo k).lp κ 3 [] k (JZ c out3 i4)) c) (by kernel_rfl) (Eq.trans (by simp only [VM];rfl) (ag h))
def MV {S:Type} (k:Nat):Rw S:=ae jV xn fun s i κ=>aa k (qB k s i) (bG κ)
def Tc {S:Type} (k:Nat):Fx S:=fp 21 [(248,mf k),(291,me k),(318,sQ k)] [] k Tryz.f342 0
theorem Zf {S:Type} (o:Obj) (ho:ad o) (k:Nat):Tl o 342 (MV k:Rw S):=af (Tc k) ⟨nk o ho k,nj o ho k,vV o ho k,trivial⟩ Tryz.func342 (by kernel_rfl) fun s i κ x h=>Eq.trans (by kernel_rfl) (ag h)
def MW {S:Type} (k:Nat):Rw S:=ae abh xn fun a b κ=>aa k (qF k a b) (bG κ)
def zp {S:Type} (k:Nat):Fx S:=fp 22 [(248,mf k),(342,MV k)] [(3,⟨[(0,.none),(5,some (100005,true)),(6,.none)],[]⟩,am 5 11)] k Tryz.f341 0
def J7 (r1:List Int) (a0 i6:Int):St UU:=⟨[(0,(iU a0)),(5,(.own 100005 0)),(6,(iI i6))],[],[(100005,⟨0,ET.I,r1⟩)],[(100005,.wr)]⟩
section
variable {S:Type} (k:Nat) (a b:Int) (κ:Out UU→Option S)
theorem VN (r1): ∀n a0 i6,(zp k).lp κ 3 [] n (J7 r1 a0 i6)=nV k (bG κ) r1 n a0 i6:=aA (ub k (bG κ) r1) rfl (fun _=>rfl) fun r a0 i6=>by kernel_rfl
end
theorem Zg {S:Type} (o:Obj) (ho:ad o) (k:Nat):Tl o 341 (MW k:Rw S):=af (zp k) ⟨nk o ho k,Zf o ho k,trivial⟩ Tryz.func341 (by kernel_rfl) fun a b κ x h=>Eq.trans (b:=ES k (bG κ) (fun r1 a0 i6=>(zp k).lp κ 3 [] k (J7 r1 a0 i6)) a b) (by kernel_rfl) (Eq.trans (by simp only [VN];rfl) (ag h))
def Du {S:Type} (k:Nat):Rw S:=ae rn xn fun a b κ=>aa k (qD k a b) (Li κ)
def Td {S:Type} (k:Nat):Fx S:=fp 16 [(341,MW k)] [] k Tryz.f335 0
theorem HH {S:Type} (o:Obj) (ho:ad o) (k:Nat):Tl o 335 (Du k:Rw S):=af (Td k) ⟨Zg o ho k,trivial⟩ Tryz.func335 (by kernel_rfl) fun a b κ x h=>Eq.trans (by kernel_rfl) (ag h)
def Dv {S:Type} (k:Nat):Rw S:=ae gb xn fun f g κ=>aa k (iG k f g) (aq κ)
def pc {S:Type} (k:Nat):Fx S:=fp 45 [(171,hX k),(246,ku k),(335,Du k)] [(5,⟨[(0,.none),(1,.none),(6,some (100006,true)),(7,.none)],[]⟩,am 6 23),(8,⟨[(0,.none),(1,.none),(6,some (100006,true)),(7,.none),(8,.none)],[]⟩,am 12 1175)] k Tryz.f323 0
def r_ (f g:List Cl) (out6:List Cl) (i7:Int):St UU:=⟨[(0,(sC f)),(1,(sC g)),(6,(.own 100006 0)),(7,(iI i7))],[],[(100006,⟨0,ET.C,out6⟩)],[(100006,.wr)]⟩
def J8 (f g:List Cl) (i7:Int) (out6':List Cl) (v8:Int):St UU:=⟨[(0,(sC f)),(1,(sC g)),(6,(.own 100006 0)),(7,(iI i7)),(8,(iI v8))],[],[(100006,⟨0,ET.C,out6'⟩)],[(100006,.wr)]⟩
section
variable {S:Type} (k:Nat) (f g:List Cl) (κ:Out UU→Option S)
theorem VQ (i7 κ0): ∀n out6' v8,(pc k).lp κ 8 [κ0] n (J8 f g i7 out6' v8)=lJ k (aq κ) (fun out6 i7=>κ0 (r_ f g out6 i7)) f g i7 n out6' v8:=aA (uf k (aq κ) f g i7 (fun out6 i7=>κ0 (r_ f g out6 i7))) rfl (fun _=>rfl) fun r out6' v8=>by kernel_rfl
theorem VO: ∀n out6 i7,(pc k).lp κ 5 [] n (r_ f g out6 i7)=j8 k (aq κ) f g n out6 i7:=aA (fun own=>pC k (aq κ) f g (fun i7 out6' v8=>lJ k (aq κ) own f g i7 k out6' v8) own) rfl (fun _=>rfl) fun r out6 i7=>Eq.trans (b:=pC k (aq κ) f g (fun i7 out6' v8=>(pc k).lp κ 8 [r] k (J8 f g i7 out6' v8)) (fun out6 i7=>r (r_ f g out6 i7)) out6 i7) (by kernel_rfl) (by simp only [VQ])
end
theorem HI {S:Type} (o:Obj) (ho:ad o) (k:Nat):Tl o 323 (Dv k:Rw S):=af (pc k) ⟨iM o ho k,lm o ho k,HH o ho k,trivial⟩ Tryz.func323 (by kernel_rfl) fun f g κ x h=>Eq.trans (b:=EW k (aq κ) (fun out6 i7=>(pc k).lp κ 5 [] k (r_ f g out6 i7)) f g) (by kernel_rfl) (Eq.trans (by simp only [VO];rfl) (ag h))
def Dw {S:Type} (k:Nat):Rw S:=ae dI xn fun f κ=>aa k (m8 k f) (aq κ)
def zq {S:Type} (k:Nat):Fx S:=fp 34 [(171,hX k),(323,Dv k),(336,MU k)] [(6,aE [0,4,5,6] [],am 7 47)] k Tryz.f324 0
def J9 (f:List Cl) (v4:List Cl) (v5 i6:Int):St UU:=⟨[(0,(sC f)),(4,(sC v4)),(5,(iI v5)),(6,(iI i6))],[],[],[]⟩
section
variable {S:Type} (k:Nat) (f:List Cl) (κ:Out UU→Option S)
theorem VR: ∀n v4 v5 i6,(zq k).lp κ 6 [] n (J9 f v4 v5 i6)=nX k (aq κ) f n v4 v5 i6:=dT (ug k (aq κ) f) rfl (fun _=>rfl) fun r v4 v5 i6=>by kernel_rfl
end
theorem HJ {S:Type} (o:Obj) (ho:ad o) (k:Nat):Tl o 324 (Dw k:Rw S):=af (zq k) ⟨iM o ho k,HI o ho k,Ze o ho k,trivial⟩ Tryz.func324 (by kernel_rfl) fun f κ x h=>Eq.trans (b:=EX k (aq κ) (fun v4 v5 i6=>(zq k).lp κ 6 [] k (J9 f v4 v5 i6)) f) (by kernel_rfl) (Eq.trans (by simp only [VR];rfl) (ag h))
def MX {S:Type} (k:Nat):Rw S:=ae dI xn fun f κ=>aa k (qH k f) (aq κ)
def Te {S:Type} (k:Nat):Fx S:=fp 18 [(324,Dw k),(334,sR k)] [] k Tryz.f320 0
theorem Zh {S:Type} (o:Obj) (ho:ad o) (k:Nat):Tl o 320 (MX k:Rw S):=af (Te k) ⟨HJ o ho k,vW o ho k,trivial⟩ Tryz.func320 (by kernel_rfl) fun f κ x h=>Eq.trans (by kernel_rfl) (ag h)
def MY {S:Type} (k:Nat):Rw S:=ae gb xn fun f g κ=>aa k (jK k f g) (aq κ)
def pd {S:Type} (k:Nat):Fx S:=fp 45 [(172,sO k),(334,sR k),(335,Du k)] [(5,⟨[(0,.none),(1,.none),(6,some (100006,true)),(7,.none)],[]⟩,am 6 23),(8,⟨[(0,.none),(1,.none),(6,some (100006,true)),(7,.none),(8,.none)],[]⟩,am 12 1175)] k Tryz.f321 0
def sa (f g:List Cl) (out6:List Cl) (i7:Int):St UU:=⟨[(0,(sC f)),(1,(sC g)),(6,(.own 100006 0)),(7,(iI i7))],[],[(100006,⟨0,ET.C,out6⟩)],[(100006,.wr)]⟩
def J_ (f g:List Cl) (i7:Int) (out6':List Cl) (v8:Int):St UU:=⟨[(0,(sC f)),(1,(sC g)),(6,(.own 100006 0)),(7,(iI i7)),(8,(iI v8))],[],[(100006,⟨0,ET.C,out6'⟩)],[(100006,.wr)]⟩
section
variable {S:Type} (k:Nat) (f g:List Cl) (κ:Out UU→Option S)
theorem VT (i7 κ0): ∀n out6' v8,(pd k).lp κ 8 [κ0] n (J_ f g i7 out6' v8)=lK k (aq κ) (fun out6 i7=>κ0 (sa f g out6 i7)) f g i7 n out6' v8:=aA (ui k (aq κ) f g i7 (fun out6 i7=>κ0 (sa f g out6 i7))) rfl (fun _=>rfl) fun r out6' v8=>by kernel_rfl
theorem VS: ∀n out6 i7,(pd k).lp κ 5 [] n (sa f g out6 i7)=j_ k (aq κ) f g n out6 i7:=aA (fun own=>pF k (aq κ) f g (fun i7 out6' v8=>lK k (aq κ) own f g i7 k out6' v8) own) rfl (fun _=>rfl) fun r out6 i7=>Eq.trans (b:=pF k (aq κ) f g (fun i7 out6' v8=>(pd k).lp κ 8 [r] k (J_ f g i7 out6' v8)) (fun out6 i7=>r (sa f g out6 i7)) out6 i7) (by kernel_rfl) (by simp only [VT])
end
theorem Zi {S:Type} (o:Obj) (ho:ad o) (k:Nat):Tl o 321 (MY k:Rw S):=af (pd k) ⟨vT o ho k,vW o ho k,HH o ho k,trivial⟩ Tryz.func321 (by kernel_rfl) fun f g κ x h=>Eq.trans (b:=E0 k (aq κ) (fun out6 i7=>(pd k).lp κ 5 [] k (sa f g out6 i7)) f g) (by kernel_rfl) (Eq.trans (by simp only [VS];rfl) (ag h))
def MZ {S:Type} (k:Nat):Rw S:=ae gb xn fun f g κ=>aa k (fm k f g) (aq κ)
def Tg {S:Type} (k:Nat):Fx S:=fp 22 [(172,sO k),(334,sR k)] [] k Tryz.f322 0
theorem Zj {S:Type} (o:Obj) (ho:ad o) (k:Nat):Tl o 322 (MZ k:Rw S):=af (Tg k) ⟨vT o ho k,vW o ho k,trivial⟩ Tryz.func322 (by kernel_rfl) fun f g κ x h=>Eq.trans (by kernel_rfl) (ag h)
def M0 {S:Type} (k:Nat):Rw S:=ae wG xn fun f i a_r κ=>aa k (vA k f i a_r) (aq κ)
def zr {S:Type} (k:Nat):Fx S:=fp 90 [(171,hX k),(172,sO k),(290,kw k),(318,sQ k),(319,MT k),(320,MX k),(321,MY k),(322,MZ k)] [(5,aE [0,1,2,8,9] [],am 6 23)] k Tryz.f293 0
def Kb (f:List Cl) (i:Int) (a_r:List Cl) (v8:List Cl) (v9:Int):St UU:=⟨[(0,(sC f)),(1,(iI i)),(2,(sC a_r)),(8,(sC v8)),(9,(iI v9))],[],[],[]⟩
section
variable {S:Type} (k:Nat) (f:List Cl) (i:Int) (a_r:List Cl) (κ:Out UU→Option S)
theorem VX: ∀n v8 v9,(zr k).lp κ 5 [] n (Kb f i a_r v8 v9)=lL k (aq κ) f i a_r n v8 v9:=aA (uj k (aq κ) f i a_r) rfl (fun _=>rfl) fun r v8 v9=>by kernel_rfl
end
theorem Zk {S:Type} (o:Obj) (ho:ad o) (k:Nat):Tl o 293 (M0 k:Rw S):=af (zr k) ⟨iM o ho k,vT o ho k,ln o ho k,vV o ho k,Zd o ho k,Zh o ho k,Zi o ho k,Zj o ho k,trivial⟩ Tryz.func293 (by kernel_rfl) fun f i a_r κ x h=>Eq.trans (b:=E1 k (aq κ) (fun v8 v9=>(zr k).lp κ 5 [] k (Kb f i a_r v8 v9)) f i a_r) (by kernel_rfl) (Eq.trans (by simp only [VX];rfl) (ag h))
def M1 {S:Type} (k:Nat):Rw S:=ae gb xn fun f g κ=>aa k (vu k f g) (aq κ)
def Th {S:Type} (k:Nat):Fx S:=fp 22 [(171,hX k),(246,ku k)] [] k Tryz.f325 0
theorem Zl {S:Type} (o:Obj) (ho:ad o) (k:Nat):Tl o 325 (M1 k:Rw S):=af (Th k) ⟨iM o ho k,lm o ho k,trivial⟩ Tryz.func325 (by kernel_rfl) fun f g κ x h=>Eq.trans (by kernel_rfl) (ag h)
def M2 {S:Type} (k:Nat):Rw S:=ae wG xn fun f i a_r κ=>aa k (vv k f i a_r) (aq κ)
def pe {S:Type} (k:Nat):Fx S:=fp 93 [(171,hX k),(290,kw k),(318,sQ k),(323,Dv k),(324,Dw k),(325,M1 k)] [(5,aE [0,1,2,8,9] [],am 6 23),(1000017,aE [0,1,2,8,9,11,12] [],am 15 31895)] k Tryz.f294 0
def sb (f:List Cl) (i:Int) (a_r:List Cl) (v8:List Cl) (v9:Int):St UU:=⟨[(0,(sC f)),(1,(iI i)),(2,(sC a_r)),(8,(sC v8)),(9,(iI v9))],[],[],[]⟩
def Kc (f:List Cl) (i:Int) (a_r v8:List Cl) (v9:Int) (g11:List Cl) (v12:Int):St UU:=⟨[(0,(sC f)),(1,(iI i)),(2,(sC a_r)),(8,(sC v8)),(9,(iI v9)),(11,(sC g11)),(12,(iI v12))],[],[],[]⟩
section
variable {S:Type} (k:Nat) (f:List Cl) (i:Int) (a_r:List Cl) (κ:Out UU→Option S)
theorem VZ (v8 v9 κ0): ∀n g11 v12,(pe k).jn κ 1000017 [κ0] n (Kc f i a_r v8 v9 g11 v12)=nY k (aq κ) (fun v8 v9=>κ0 (sb f i a_r v8 v9)) f i a_r v8 v9 n g11 v12:=Iu (zV k (aq κ) f i a_r v8 v9 (fun v8 v9=>κ0 (sb f i a_r v8 v9))) rfl (fun _=>rfl) (fun g11 v12=>by kernel_rfl)
theorem VY: ∀n v8 v9,(pe k).lp κ 5 [] n (sb f i a_r v8 v9)=j9 k (aq κ) f i a_r n v8 v9:=aA (fun own=>pD k (aq κ) f i a_r (fun v8 v9 g11 v12=>nY k (aq κ) own f i a_r v8 v9 k g11 v12) own) rfl (fun _=>rfl) fun r v8 v9=>Eq.trans (b:=pD k (aq κ) f i a_r (fun v8 v9 g11 v12=>(pe k).jn κ 1000017 [r] k (Kc f i a_r v8 v9 g11 v12)) (fun v8 v9=>r (sb f i a_r v8 v9)) v8 v9) (by kernel_rfl) (by simp only [VZ])
end
theorem Zm {S:Type} (o:Obj) (ho:ad o) (k:Nat):Tl o 294 (M2 k:Rw S):=af (pe k) ⟨iM o ho k,ln o ho k,vV o ho k,HI o ho k,HJ o ho k,Zl o ho k,trivial⟩ Tryz.func294 (by kernel_rfl) fun f i a_r κ x h=>Eq.trans (b:=EY k (aq κ) (fun v8 v9=>(pe k).lp κ 5 [] k (sb f i a_r v8 v9)) f i a_r) (by kernel_rfl) (Eq.trans (by simp only [VY];rfl) (ag h))
def M3 {S:Type} (k:Nat):Rw S:=ae abi xn fun f isFace i a_r depth κ=>aa k (qO k f isFace i a_r depth) (aq κ)
def Ti {S:Type} (k:Nat):Fx S:=fp 48 [(179,xO k),(249,Dp k),(290,kw k),(293,M0 k),(294,M2 k)] [] k Tryz.f252 0
theorem Zn {S:Type} (o:Obj) (ho:ad o) (k:Nat):Tl o 252 (M3 k:Rw S):=af (Ti k) ⟨A_ o ho k,HE o ho k,ln o ho k,Zk o ho k,Zm o ho k,trivial⟩ Tryz.func252 (by kernel_rfl) fun f isFace i a_r depth κ x h=>Eq.trans (by kernel_rfl) (ag h)
def M4 {S:Type} (k:Nat):Rw S:=ae jV xn fun s i κ=>aa k (mZ k s i) (bG κ)
def zt {S:Type} (k:Nat):Fx S:=fp 35 [(248,mf k),(291,me k),(318,sQ k)] [(3,⟨[(1,.none),(5,some (100005,true)),(6,.none)],[]⟩,am 5 11)] k Tryz.f295 0
def Kd (i:Int) (l5:List Int) (v6:Int):St UU:=⟨[(1,(iI i)),(5,(.own 100005 0)),(6,(iI v6))],[],[(100005,⟨0,ET.I,l5⟩)],[(100005,.wr)]⟩
section
variable {S:Type} (k:Nat) (s i:Int) (κ:Out UU→Option S)
theorem V0: ∀n l5 v6,(zt k).lp κ 3 [] n (Kd i l5 v6)=lD k (bG κ) i n l5 v6:=aA (tX k (bG κ) i) rfl (fun _=>rfl) fun r l5 v6=>by kernel_rfl
end
theorem Zo {S:Type} (o:Obj) (ho:ad o) (k:Nat):Tl o 295 (M4 k:Rw S):=af (zt k) ⟨nk o ho k,nj o ho k,vV o ho k,trivial⟩ Tryz.func295 (by kernel_rfl) fun s i κ x h=>Eq.trans (b:=EI k (bG κ) (fun l5 v6=>(zt k).lp κ 3 [] k (Kd i l5 v6)) s i) (by kernel_rfl) (Eq.trans (by simp only [V0];rfl) (ag h))
def M5 {S:Type} (k:Nat):Rw S:=ae wE xn fun f i κ=>aa k (qN k f i) (eF κ)
def zu {S:Type} (k:Nat):Fx S:=fp 37 [(246,ku k),(295,M4 k)] [(3,⟨[(0,.none),(1,.none),(5,some (100005,true)),(6,.none)],[]⟩,am 5 11)] k Tryz.f253 0
def Ke (f:List Cl) (i:Int) (out5:List Cl) (v6:Int):St UU:=⟨[(0,(sC f)),(1,(iI i)),(5,(.own 100005 0)),(6,(iI v6))],[],[(100005,⟨0,ET.C,out5⟩)],[(100005,.wr)]⟩
section
variable {S:Type} (k:Nat) (f:List Cl) (i:Int) (κ:Out UU→Option S)
theorem V1: ∀n out5 v6,(zu k).lp κ 3 [] n (Ke f i out5 v6)=oe k (eF κ) f i n out5 v6:=aA (uA k (eF κ) f i) rfl (fun _=>rfl) fun r out5 v6=>by kernel_rfl
end
theorem Zp {S:Type} (o:Obj) (ho:ad o) (k:Nat):Tl o 253 (M5 k:Rw S):=af (zu k) ⟨lm o ho k,Zo o ho k,trivial⟩ Tryz.func253 (by kernel_rfl) fun f i κ x h=>Eq.trans (b:=Fe k (eF κ) (fun out5 v6=>(zu k).lp κ 3 [] k (Ke f i out5 v6)) f i) (by kernel_rfl) (Eq.trans (by simp only [V1];rfl) (ag h))
def Dx {S:Type} (hd:fS S):Rw S:=ae abj xn fun t i a_r depth drop κ=>hd t i a_r depth drop (a6 κ)
def kQ {S:Type} (hd:fS S) (k:Nat):Fx S:=fp 174 [(89,sP k),(174,xM k),(175,xN k),(180,Dx hd),(252,M3 k),(253,M5 k)] [(9,⟨[(1,.none),(2,.none),(3,.none),(4,.none),(5,.none),(10,.none),(11,.none),(14,.none)],[(5,[.none,.none,.none,.none,.none,.none]),(10,[.none,.none,.none,some (200643,true),some (200644,true),some (200645,true)]),(11,[.none,.none,.none,.none,some (200708,true),some (200709,true)])]⟩,am 9 191),(17,⟨[(1,.none),(2,.none),(3,.none),(4,.none),(5,.none),(10,.none),(11,.none),(18,.none)],[(5,[.none,.none,.none,.none,.none,.none]),(10,[.none,.none,.none,some (200643,true),some (200644,true),some (200645,true)]),(11,[.none,.none,.none,.none,some (200708,true),some (200709,true)])]⟩,am 10 383),(27,⟨[(1,.none),(2,.none),(3,.none),(4,.none),(5,.none),(10,.none),(11,.none),(18,.none),(21,.none),(22,.none)],[(5,[.none,.none,.none,.none,.none,.none]),(10,[.none,.none,.none,some (200643,true),some (200644,true),some (200645,true)]),(11,[.none,.none,.none,.none,some (200708,true),some (200709,true)]),(21,[.none,some (201345,true)])]⟩,am 22 1558911)] k Tryz.f180 0
def CB (t:Tm) (i:Int) (a_r:List Cl) (depth:Int) (drop:Bool) (b11_3:List Cl) (b11_4:List Tm) (v14:Int):St UU:=⟨[(1,(iI i)),(2,(sC a_r)),(3,(iI depth)),(4,(.bool drop)),(5,(pt 5)),(10,(pt 10)),(11,(pt 11)),(14,(iI v14))],[(5,bT t),(10,.cells [(iI 0),(iI 0),(.str ByteArray.empty),(.own 200643 0),(.own 200644 0),(.own 200645 0)]),(11,.cells [(iI t.kind),(iI t.n),(.str t.name),(sC b11_3),(.own 200708 0),(.own 200709 0)])],[(200709,⟨0,ET.B,([]:List (Br Tm))⟩),(200708,⟨0,ET.T,b11_4⟩),(200645,⟨0,ET.B,([]:List (Br Tm))⟩),(200644,⟨0,ET.T,([]:List Tm)⟩),(200643,⟨0,ET.C,([]:List Cl)⟩)],[(200709,.wr),(200708,.wr),(200645,.wr),(200644,.wr),(200643,.wr)]⟩
def sc (t:Tm) (b11_3:List Cl) (b11_4:List Tm) (i:Int) (a_r:List Cl) (depth:Int) (drop:Bool) (b11_5:List (Br Tm)) (v18:Int):St UU:=⟨[(1,(iI i)),(2,(sC a_r)),(3,(iI depth)),(4,(.bool drop)),(5,(pt 5)),(10,(pt 10)),(11,(pt 11)),(18,(iI v18))],[(5,bT t),(10,.cells [(iI 0),(iI 0),(.str ByteArray.empty),(.own 200643 0),(.own 200644 0),(.own 200645 0)]),(11,.cells [(iI t.kind),(iI t.n),(.str t.name),(sC b11_3),(.own 200708 0),(.own 200709 0)])],[(200709,⟨0,ET.B,b11_5⟩),(200708,⟨0,ET.T,b11_4⟩),(200645,⟨0,ET.B,([]:List (Br Tm))⟩),(200644,⟨0,ET.T,([]:List Tm)⟩),(200643,⟨0,ET.C,([]:List Cl)⟩)],[(200709,.wr),(200708,.wr),(200645,.wr),(200644,.wr),(200643,.wr)]⟩
def Kf (t:Tm) (b11_3:List Cl) (b11_4:List Tm) (b11_5:List (Br Tm)) (i v18:Int) (a_r:List Cl) (depth:Int) (drop:Bool) (b21_0:List Cl) (b21_1:List Tm) (v22:Int):St UU:=⟨[(1,(iI i)),(2,(sC a_r)),(3,(iI depth)),(4,(.bool drop)),(5,(pt 5)),(10,(pt 10)),(11,(pt 11)),(18,(iI v18)),(21,(pt 21)),(22,(iI v22))],[(5,bT t),(10,.cells [(iI 0),(iI 0),(.str ByteArray.empty),(.own 200643 0),(.own 200644 0),(.own 200645 0)]),(11,.cells [(iI t.kind),(iI t.n),(.str t.name),(sC b11_3),(.own 200708 0),(.own 200709 0)]),(21,.cells [(sC b21_0),(.own 201345 0)])],[(201345,⟨0,ET.T,b21_1⟩),(200709,⟨0,ET.B,b11_5⟩),(200708,⟨0,ET.T,b11_4⟩),(200645,⟨0,ET.B,([]:List (Br Tm))⟩),(200644,⟨0,ET.T,([]:List Tm)⟩),(200643,⟨0,ET.C,([]:List Cl)⟩)],[(201345,.wr),(200709,.wr),(200708,.wr),(200645,.wr),(200644,.wr),(200643,.wr)]⟩
section
variable {S:Type} (hd:fS S) (k:Nat) (t:Tm) (i:Int) (a_r:List Cl) (depth:Int) (drop:Bool) (κ:Out UU→Option S)
theorem V4 (b11_3 b11_4 b11_5 v18 κ1): ∀n b21_0 b21_1 v22,(kQ hd k).lp κ 27 [κ1] n (Kf t b11_3 b11_4 b11_5 i v18 a_r depth drop b21_0 b21_1 v22)=jf hd k (a6 κ) (fun b11_5 v18=>κ1 (sc t b11_3 b11_4 i a_r depth drop b11_5 v18)) t b11_3 b11_4 b11_5 i v18 a_r depth drop n b21_0 b21_1 v22:=dT (uB hd k (a6 κ) t b11_3 b11_4 b11_5 i v18 a_r depth drop (fun b11_5 v18=>κ1 (sc t b11_3 b11_4 i a_r depth drop b11_5 v18))) rfl (fun _=>rfl) fun r b21_0 b21_1 v22=>by kernel_rfl
theorem V3 (b11_3 b11_4): ∀n b11_5 v18,(kQ hd k).lp κ 17 [] n (sc t b11_3 b11_4 i a_r depth drop b11_5 v18)=gh hd k (a6 κ) t b11_3 b11_4 i a_r depth drop n b11_5 v18:=aA (fun own=>pX hd k (a6 κ) t b11_3 b11_4 i a_r depth drop (fun b11_5 v18 b21_0 b21_1 v22=>jf hd k (a6 κ) own t b11_3 b11_4 b11_5 i v18 a_r depth drop k b21_0 b21_1 v22) own) rfl (fun _=>rfl) fun r b11_5 v18=>Eq.trans (b:=pX hd k (a6 κ) t b11_3 b11_4 i a_r depth drop (fun b11_5 v18 b21_0 b21_1 v22=>(kQ hd k).lp κ 27 [r] k (Kf t b11_3 b11_4 b11_5 i v18 a_r depth drop b21_0 b21_1 v22)) (fun b11_5 v18=>r (sc t b11_3 b11_4 i a_r depth drop b11_5 v18)) b11_5 v18) (by kernel_rfl) (by simp only [V4])
theorem V2: ∀n b11_3 b11_4 v14,(kQ hd k).lp κ 9 [] n (CB t i a_r depth drop b11_3 b11_4 v14)=kf hd k (a6 κ) t i a_r depth drop n b11_3 b11_4 v14:=dT (fun own=>pW hd k (a6 κ) t i a_r depth drop (fun b11_3 b11_4 b11_5 v18=>gh hd k (a6 κ) t b11_3 b11_4 i a_r depth drop k b11_5 v18) own) rfl (fun _=>rfl) fun r b11_3 b11_4 v14=>Eq.trans (b:=pW hd k (a6 κ) t i a_r depth drop (fun b11_3 b11_4 b11_5 v18=>(kQ hd k).lp κ 17 [] k (sc t b11_3 b11_4 i a_r depth drop b11_5 v18)) (fun b11_3 b11_4 v14=>r (CB t i a_r depth drop b11_3 b11_4 v14)) b11_3 b11_4 v14) (by kernel_rfl) (by simp only [V3])
end
theorem Ik {S:Type} (o:Obj) (ho:ad o): ∀k:Nat,Tl o 180 (Dx (eS k:fS S))
 |0=>dx fun t i a_r depth drop κ x h=>by cases h
 |k+1=>af (kQ (eS k) k) ⟨vU o ho k,A8 o ho k,A9 o ho k,Ik o ho k,Zn o ho k,Zp o ho k,trivial⟩ Tryz.func180 (by kernel_rfl) fun t i a_r depth drop κ x h=>Eq.trans (b:=Ff (eS k) k (a6 κ) (fun b11_3 b11_4 v14=>(kQ (eS k) k).lp κ 9 [] k (CB t i a_r depth drop b11_3 b11_4 v14)) t i a_r depth drop) (by kernel_rfl) (Eq.trans (by simp only [V2];rfl) h)
def M6 {S:Type} (k:Nat):Rw S:=ae BM xn fun t i a_r κ=>aa k (vF k t i a_r) (a6 κ)
def Tj {S:Type} (k:Nat):Fx S:=fp 27 [(89,sP k),(179,xO k),(180,Dx (eS k))] [] k Tryz.f90 0
theorem Zq {S:Type} (o:Obj) (ho:ad o) (k:Nat):Tl o 90 (M6 k:Rw S):=af (Tj k) ⟨vU o ho k,A_ o ho k,Ik o ho k,trivial⟩ Tryz.func90 (by kernel_rfl) fun t i a_r κ x h=>Eq.trans (by kernel_rfl) (ag h)
def M7 {S:Type} (k:Nat):Rw S:=ae c6 xn fun t κ=>aa k (AM k t) (a6 κ)
def Tk {S:Type} (k:Nat):Fx S:=fp 22 [(88,MQ k),(89,sP k),(90,M6 k)] [] k Tryz.f37 0
theorem Zr {S:Type} (o:Obj) (ho:ad o) (k:Nat):Tl o 37 (M7 k:Rw S):=af (Tk k) ⟨Zb o ho k,vU o ho k,Zq o ho k,trivial⟩ Tryz.func37 (by kernel_rfl) fun t κ x h=>Eq.trans (by kernel_rfl) (ag h)
def M8 {S:Type} (k:Nat):Rw S:=ae c6 xn fun t κ=>aa k (vG k t) (dL κ)
def To {S:Type} (k:Nat):Fx S:=fp 22 [(36,Ds k),(37,M7 k)] [] k Tryz.f13 0
theorem Zs {S:Type} (o:Obj) (ho:ad o) (k:Nat):Tl o 13 (M8 k:Rw S):=af (To k) ⟨HG o ho k,Zr o ho k,trivial⟩ Tryz.func13 (by kernel_rfl) fun t κ x h=>Eq.trans (by kernel_rfl) (ag h)
def xP {S:Type} (k:Nat):Rw S:=ae c6 xn fun t κ=>aa k (vj k t) (ar κ)
def Tp {S:Type} (k:Nat):Fx S:=fp 40 [(9,C0 (fq k)),(10,Mz k),(11,Dj (gS k)),(12,Db k),(13,M8 k),(14,sN (dO k))] [] k Tryz.f3 0
theorem Zt {S:Type} (o:Obj) (ho:ad o) (k:Nat):Tl o 3 (xP k:Rw S):=af (Tp k) ⟨Ia o ho k,YV o ho k,If o ho k,Hv o ho k,Zs o ho k,By o ho k,trivial⟩ Tryz.func3 (by kernel_rfl) fun t κ x h=>Eq.trans (by kernel_rfl) (ag h)
end
end Go.Proofs.YtgajalidbabccaaGreatDoor
namespace Go.Proofs.YtgajalidbabccaaGreatDoor
open Go PI
set_option linter.unusedVariables false
set_option maxRecDepth 100000
noncomputable section
section
variable {S:Type} (k:Nat) (c0_0 c0_1 c0_2:Int) (c0_3:ByteArray) (c0_4:List Cl) (c0_5:List Tm) (c0_6 c0_7:List (Br Tm)) (κ:Out UU→Option S)
end
section
variable {S:Type} (k:Nat) (c0_0 c0_1 c0_2:Int) (c0_3:ByteArray) (c0_4:List Cl) (c0_5:List Tm) (c0_6 c0_7:List (Br Tm)) (c1:Int) (κ:Out UU→Option S)
end
section
variable {S:Type} (k:Nat) (t a:Tm) (sys:List (Br Tm)) (κ:Out UU→Option S)
end
section
variable {S:Type} (k:Nat) (t:Tm) (c0_0 c0_1 c0_2:Int) (c0_3:ByteArray) (c0_4:List Cl) (c0_5:List Tm) (c0_6 c0_7:List (Br Tm)) (κ:Out UU→Option S)
end
section
variable {S:Type} (k:Nat) (c0_0 c0_1 c0_2:Int) (c0_3:ByteArray) (c0_4:List Cl) (c0_5:List Tm) (c0_6 c0_7:List (Br Tm)) (κ:Out UU→Option S)
end
section
variable {S:Type} (k:Nat) (l c1:List (Br Tm)) (c2:Int) (κ:Out UU→Option S)
end
section
variable {S:Type} (k:Nat) (l:List (Br Tm)) (c1 c2:Tm) (c3:Int) (κ:Out UU→Option S)
end
section
variable {S:Type} (k:Nat) (l:List (Br Tm)) (c0 c1:Tm) (κ:Out UU→Option S)
end
section
variable {S:Type} (k:Nat) (kind:Int) (kids:List Tm) (κ:Out UU→Option S)
end
section
variable {S:Type} (k:Nat) (a_k a:Tm) (sys:List (Br Tm)) (κ:Out UU→Option S)
end
section
variable {S:Type} (k:Nat) (kind:Int) (sys:List (Br Tm)) (κ:Out UU→Option S)
end
section
variable {S:Type} (k:Nat) (kind:Int) (l:List (Br Tm)) (κ:Out UU→Option S)
end
section
variable {S:Type} (k:Nat) (l:List Tm) (κ:Out UU→Option S)
end
end
end Go.Proofs.YtgajalidbabccaaGreatDoor
namespace Go.Proofs.YtgajalidbabccaaGreatDoor
open Go PI
set_option linter.unusedVariables false
set_option maxRecDepth 100000
noncomputable section
section
variable {S:Type} (k:Nat) (t a:Tm) (sys:List (Br Tm)) (κ:Out UU→Option S)
end
section
variable {S:Type} (hd:Ur S) (k:Nat) (t:Tm) (a_n:Int) (κ:Out UU→Option S)
end
section
variable {S:Type} (k:Nat) (t:Tm) (a_from a_by:Int) (κ:Out UU→Option S)
end
section
variable {S:Type} (k:Nat) (t:Tm) (vars dims:Int) (κ:Out UU→Option S)
end
section
variable {S:Type} (hd:Us S) (k:Nat) (t:Tm) (a_n:Int) (u:Tm) (vars dims:Int) (κ:Out UU→Option S)
end
section
variable {S:Type} (k:Nat) (line a:Tm) (sys:List (Br Tm)) (κ:Out UU→Option S)
end
section
variable {S:Type} (k:Nat) (a_k a:Tm) (sys:List (Br Tm)) (κ:Out UU→Option S)
end
section
variable {S:Type} (k:Nat) (kind:Int) (kids:List Tm) (κ:Out UU→Option S)
end
section
variable {S:Type} (k:Nat) (a:Tm) (sys:List (Br Tm)) (κ:Out UU→Option S)
end
section
variable {S:Type} (k:Nat) (g:Tm) (κ:Out UU→Option S)
end
end
end Go.Proofs.YtgajalidbabccaaGreatDoor
namespace Go.Proofs.YtgajalidbabccaaGreatDoor
open Go PI
set_option linter.unusedVariables false
set_option maxRecDepth 100000
noncomputable section
section
variable {S:Type} (k:Nat) (t:Tm) (κ:Out UU→Option S)
end
section
variable {S:Type} (hd:Uq S) (k:Nat) (t:Tm) (κ:Out UU→Option S)
end
section
variable {S:Type} (k:Nat) (a b:Tm) (κ:Out UU→Option S)
end
section
variable {S:Type} (hd:Un S) (k:Nat) (t:Tm) (κ:Out UU→Option S)
end
section
variable {S:Type} (k:Nat) (t:Tm) (vars many:Int) (κ:Out UU→Option S)
end
section
variable {S:Type} (hd:Uo S) (k:Nat) (t:Tm) (κ:Out UU→Option S)
end
theorem ai8 {S:Type} (o:Obj) (ho:ad o) (k:Nat):Tl o 3 (xP k:Rw S):=Zt o ho k
end
end Go.Proofs.YtgajalidbabccaaGreatDoor
namespace Go.Proofs.YtgajalidbabccaaGreatDoor
open Go PI
set_option linter.unusedVariables false
set_option linter.unusedSimpArgs false
variable {S:Type} {k:Nat}
def bE {α β:Type} (x:Except Int α) (f:α→Except Int β):Except Int β:=match x with
 | .error e=> .error e
 | .ok a=>f a
theorem aS {α β:Type} (a:α) (f:α→Except Int β):bE (.ok a) f=f a:=rfl
theorem W7 {α β:Type} (e:Int) (f:α→Except Int β):bE (.error e) f= .error e:=rfl
theorem bA {α β:Type} {x:Except Int α} {f:α→Except Int β} {b:β} (h:bE x f= .ok b): ∃a,x= .ok a∧f a= .ok b:=by
 cases x with
 |error e=>cases h
 |ok a=>exact ⟨a,rfl,h⟩
theorem cD {α β:Type} {x:Except Int α} {f:α→Except Int β} {e:Int} (h:bE x f= .error e):x= .error e∨ ∃a,x= .ok a∧f a= .error e:=by
 cases x with
 |error e=>injection h with h;grind
 |ok a=>exact .inr ⟨a,rfl,h⟩
def cJ (x:List Cl×Int):Except Int (List Cl):=if x.2=0 then .ok x.1 else .error x.2
theorem kE {x:List Cl×Int} (h:x.2=0):cJ x= .ok x.1:=if_pos h
theorem kG {x:List Cl×Int} (h:x.2≠0):cJ x= .error x.2:=if_neg h
theorem tp {x:List Cl×Int} {l:List Cl} (h:cJ x= .ok l):x.2=0∧x.1=l:=by
 grind [cJ]
theorem Fw {x:List Cl×Int} {e:Int} (h:cJ x= .error e):x.2≠0∧x.2=e:=by
 grind [cJ]
def EN (e:Int):Prop:=0≤e∧e≤1000
theorem q_:EN 0:=by unfold EN;omega
theorem jQ:EN 2:=by unfold EN;omega
theorem en3:EN 3:=by unfold EN;omega
theorem aag:EN 10:=by unfold EN;omega
theorem om (l:List Cl):EN (aW l).2:=by
 grind [aW,en3,q_,jQ]
theorem wq {step:List Cl→Cl→List Cl×Int} (hs: ∀h c,EN (step h c).2): ∀ {r h:List Cl},EN (aY step h r).2:=by
 intro r
 induction r<;>grind [q_,aY]
theorem adI (s i b:Int):EN (ct s i b).2:=by
 grind [ct,jQ,dS,q_,aag]
theorem ady (c:Cl) (i b:Int):EN (c7 c i b).2:=by
 grind [c7,adI,jQ]
theorem wV (f:List Cl) (i b:Int):EN (bo f i b).2:=by
 unfold bo
 split
 ·split
  ·exact om _
  ·exact wq fun h c=>ady c i b
 ·exact jQ
theorem Q2 {n b x y:Nat} (h:dy n b x=dy n b y):x=y:=by
 grind [dy]
theorem aji (n b:Nat) {l:List Nat} (h:l.Nodup):(l.map (dy n b)).Nodup:=
 List.Pairwise.map (S:=fun a b=>a≠b) (R:=fun a b=>a≠b) _ (fun x y hxy h=>hxy (Q2 h)) h
theorem adG {m n b:Nat} (h:(dS m n b).2=0) (j:Nat):(dS m n b).1.testBit j=true↔ ∃x,x<24∧m.testBit x=true∧dy n b x=j:=by
 rw [Cc] at h ⊢
 split<;>grind [mt,aji,mF,mem_bitsN]
theorem WW {m:Nat} (h:m<16777216):m&&&M24=m:=by
 apply Nat.eq_of_testBit_eq
 grind [fT,mG]
theorem adE {m n b:Nat} (hm:m<16777216) (h:b=0∨24≤n):dS m n b=(m,0):=by
 rw [Cc,if_neg]
 ·have:(bu m).map (dy n b)=bu m:=by
   refine (List.map_congr_left fun x hx=> ?_).trans (List.map_id _)
   grind [mem_bitsN,dy]
  simp_all [D9,WW]
 grind [mem_bitsN]
theorem adz {c:Cl} {i b:Int} (hc:RC c) (hi:0≤i) (hb:0≤b) (h:b=0∨24≤i):c7 c i b=(c,0):=by
 have h1:c.pos.toNat<16777216:=by have:=hc.1;omega
 have h2:c.neg.toNat<16777216:=by have:=hc.2;omega
 have hs: ∀s:Int,0≤s→s.toNat<16777216→ct s i b=(s,0):=fun s h0 hs=>by
  grind [ct,adE]
 unfold c7
 rw [if_pos ((ye hc.ok).2 hc),hs _ hc.1.1 h1,hs _ hc.2.1 h2];rfl
theorem aau {i b:Int}: ∀ {r h:List Cl},(aY (dh i b) h r).2=0→(∀c∈r,(c7 c i b).2=0)∧(aY (dh i b) h r).1=h++r.map fun c=>(c7 c i b).1:=by
 intro r
 induction r<;>grind [aY,dh]
theorem aav {i b:Int}: ∀ {r h:List Cl},(∀c∈r,c7 c i b=(c,0))→aY (dh i b) h r=(h++r,0):=by
 intro r
 induction r<;>grind [aY,dh]
theorem adA {f:List Cl} {i b:Int} (hf:RF f) (hi:0≤i) (hb:0≤b) (h:b=0∨24≤i):bo f i b=(f,0):=by
 unfold bo
 rw [if_pos hf.right,aav fun c hc=>adz (hf.rc hc) hi hb h,if_pos rfl]
 exact hf.1
theorem adB {f:List Cl} {i b:Int} (h:(bo f i b).2=0): ∀c∈(bo f i b).1,∃d∈f,(c7 d i b).2=0∧c=(c7 d i b).1:=by
 grind [bo,aau,aW,mem_mins]
theorem Xm {c:Cl}:bn c=false↔ ∀j,¬ (c.pos.toNat.testBit j=true∧c.neg.toNat.testBit j=true):=by
 unfold bn
 rw [Bool.not_eq_false',decide_eq_true_eq]
 constructor
 ·intro h j ⟨h1,h2⟩
  have:(c.pos.toNat&&&c.neg.toNat).testBit j=true:=by grind
  grind
 ·intro h
  apply Nat.eq_of_testBit_eq
  grind
theorem adH {s i b:Int} (h:(ct s i b).2=0) {j:Nat} (hj:(ct s i b).1.toNat.testBit j=true): ∃x,s.toNat.testBit x=true∧dy i.toNat b.toNat x=j:=by
 unfold ct at h hj
 split at h
 ·cases h
 ·next hn=>
  rw [if_neg hn] at hj
  have h':(dS s.toNat i.toNat b.toNat).2=0:=by
   omega
  obtain ⟨x,_,h2,h3⟩:=(adG h' j).1 hj
  grind
theorem adx {c:Cl} {i b:Int} (h:(c7 c i b).2=0) (hc:bn c=false):bn (c7 c i b).1=false:=by
 grind [Xm,c7,adH,Q2]
def cm (d b:Int) (f:List Cl):Except Int (List Cl):=if b=0∨d≥24 then .ok f else cJ (bo f d b)
theorem DO {d b:Int} {f g:List Cl} (hf:RF f) (h:cm d b f= .ok g):RF g:=by
 grind [cm,tp,kh]
theorem yf {d b:Int} {f:List Cl} {e:Int} (h:cm d b f= .error e):0<e∧e≤1000:=by
 grind [cm,Fw,wV,EN]
theorem af1 {d b:Int} {f g:List Cl} (hf:f.all (fun c=> !bn c)=true) (h:cm d b f= .ok g):g.all (fun c=> !bn c)=true:=by
 grind [cm,tp,adB,adx]
theorem yg (d b:Int):cm d b []= .ok []:=by
 unfold cm
 split
 all_goals rfl
mutual
def bp (vb db v d:Int):Tm→Except Int Tm
 | .mk kd n nm r ks sys=>
  if kd=1∧n≥v∧n>1000000000-vb then .error 100
  else bE (cm d db r) fun r'=>bE (dR vb db v d kd 0 ks) fun ks'=>bE (dC vb db v d kd sys) fun sys'=> .ok (.mk kd (if kd=1∧n≥v then n+vb else n) nm r' ks' sys')
def dR (vb db v d kd:Int) (i:Nat):List Tm→Except Int (List Tm)
 |[]=> .ok []
 |t::l=>bE (bp vb db (v+df kd i) (d+bL kd i) t) fun t'=>bE (dR vb db v d kd (i+1) l) fun l'=> .ok (t'::l')
def dC (vb db v d kd:Int):List (Br Tm)→Except Int (List (Br Tm))
 |[]=> .ok []
 |b::l=>bE (rG vb db v d kd b) fun b'=>bE (dC vb db v d kd l) fun l'=> .ok (b'::l')
def rG (vb db v d kd:Int):Br Tm→Except Int (Br Tm)
 | .mk f ks=>bE (cm d db f) fun f'=>bE (dr vb db v d kd ks) fun ks'=> .ok (.mk f' ks')
def dr (vb db v d kd:Int):List Tm→Except Int (List Tm)
 |[]=> .ok []
 |t::l=>bE (bp vb db v (d+au kd) t) fun t'=>bE (dr vb db v d kd l) fun l'=> .ok (t'::l')
end
mutual
def RowsT:Tm→Prop
 | .mk kd n nm r ks sys=>(RF r∧(kd=1→r=[])∧0≤kd)∧dk ks∧dM sys
def dk:List Tm→Prop
 |[]=>True
 |t::l=>RowsT t∧dk l
def dM:List (Br Tm)→Prop
 |[]=>True
 |b::l=>kZ b∧dM l
def kZ:Br Tm→Prop
 | .mk f ks=>RF f∧dk ks
end
theorem rowsK_iff: ∀ {l:List Tm},dk l↔ ∀t∈l,RowsT t:=by
 intro l
 induction l<;>grind [dk]
theorem DR {b:Br Tm}:kZ b↔RF b.face∧ ∀t∈b.kids,RowsT t:=by cases b;rw [kZ,rowsK_iff]
theorem rowsS_iff: ∀ {l:List (Br Tm)},dM l↔ ∀b∈l,RF b.face∧ ∀t∈b.kids,RowsT t:=by
 intro l
 induction l<;>grind [dM,DR]
end Go.Proofs.YtgajalidbabccaaGreatDoor
namespace Go.Proofs.YtgajalidbabccaaGreatDoor
open Go PI
set_option linter.unusedVariables false
set_option linter.unusedSimpArgs false
variable {S:Type} {k:Nat}
inductive F2 {α β:Type} (R:α→β→Prop):List α→List β→Prop
 |nil:F2 R [] []
 |cons {a:α} {b:β} {l:List α} {m:List β}:R a b→F2 R l m→F2 R (a::l) (b::m)
theorem F2.len {α β:Type} {R:α→β→Prop} {l:List α} {m:List β} (h:F2 R l m):m.length=l.length:=by
 induction h<;>grind
theorem F2.imp {α β:Type} {R Q:α→β→Prop} {l:List α} {m:List β} (h:F2 R l m) (hq: ∀a b,R a b→Q a b):F2 Q l m:=by
 induction h<;>grind [nil,cons]
theorem adC {vb db v d kd:Int} {R:Tm→Tm→Prop}: ∀ {l:List Tm} {i:Nat} {l':List Tm},(∀x∈l,∀v d x',bp vb db v d x= .ok x'→R x x')→dR vb db v d kd i l= .ok l'→F2 R l l':=by
 intro l
 induction l with
 |nil=>intro i l' _ h;rw [dR] at h;injection h with h;subst h;exact .nil
 |cons t l ih=>
  intro i l' hr h
  rw [dR] at h
  obtain ⟨t',h1,h⟩:=bA h
  obtain ⟨m,h2,h⟩:=bA h
  injection h with h;subst h
  exact .cons (hr t (by simp) _ _ _ h1) (ih (fun x hx=>hr x (by simp [hx])) h2)
theorem adD {vb db v d kd:Int} {R:Tm→Tm→Prop}: ∀ {l:List Tm} {l':List Tm},(∀x∈l,∀v d x',bp vb db v d x= .ok x'→R x x')→dr vb db v d kd l= .ok l'→F2 R l l':=by
 intro l
 induction l with
 |nil=>intro l' _ h;rw [dr] at h;injection h with h;subst h;exact .nil
 |cons t l ih=>
  intro l' hr h
  rw [dr] at h
  obtain ⟨t',h1,h⟩:=bA h
  obtain ⟨m,h2,h⟩:=bA h
  injection h with h;subst h
  exact .cons (hr t (by simp) _ _ _ h1) (ih (fun x hx=>hr x (by simp [hx])) h2)
theorem adJ {vb db v d kd:Int} {R:Tm→Tm→Prop}: ∀ {l l':List (Br Tm)},(∀b∈l,∀x∈b.kids,∀v d x',bp vb db v d x= .ok x'→R x x')→dC vb db v d kd l= .ok l'→
  F2 (fun b b'=>cm d db b.face= .ok b'.face∧F2 R b.kids b'.kids) l l':=by
 intro l
 induction l with
 |nil=>intro l' _ h;rw [dC] at h;injection h with h;subst h;exact .nil
 |cons b l ih=>
  intro l' hr h
  rw [dC] at h
  obtain ⟨b',h1,h⟩:=bA h
  obtain ⟨m,h2,h⟩:=bA h
  injection h with h;subst h
  cases b with
  |mk f ks=>
   rw [rG] at h1
   obtain ⟨f',h3,h1⟩:=bA h1
   obtain ⟨ks',h4,h1⟩:=bA h1
   injection h1 with h1;subst h1
   exact .cons ⟨h3,adD (hr ⟨f,ks⟩ (by simp)) h4⟩ (ih (fun b hb=>hr b (by simp [hb])) h2)
theorem wX {f:List Cl} {d:Int} (h:24≤d):cG f d=true:=by
 grind [cG,mem_bitsN]
def Up (x x':Tm):Prop:=av x'=av x∧aD x'=aD x∧x'.kind=x.kind∧(OkT x→OkT x'∧(RowsT x→RowsT x')∧ ∀dd dd',24≤dd→24≤dd'→aQ false (-1) dd x=true→aQ false (-1) dd' x'=true)
theorem Q4 {l l':List Tm} (h:F2 Up l l'):bt l'=bt l:=by
 induction h with
 |nil=>rfl
 |cons h1 _ ih=>rw [bt,bt,h1.1,ih]
theorem Q7 {l l':List Tm} (h:F2 Up l l'):aN l'=aN l:=by
 induction h with
 |nil=>rfl
 |cons h1 _ ih=>rw [aN,aN,h1.2.1,ih]
theorem ajp {l l':List (Br Tm)} (h:F2 (fun b b':Br Tm=>F2 Up b.kids b'.kids) l l'):bU l'=bU l:=by
 induction h with
 |nil=>rfl
 |cons h1 _ ih=>grind [bU,qU,Q4]
theorem ajq {l l':List (Br Tm)} (h:F2 (fun b b':Br Tm=>F2 Up b.kids b'.kids) l l'):aZ l'=aZ l:=by
 induction h with
 |nil=>rfl
 |cons h1 _ ih=>grind [aZ,td,Q7]
theorem Q5 {l l':List Tm} (h:F2 Up l l'):bO l→bO l':=by
 induction h with
 |nil=>exact id
 |cons h1 _ ih=>rw [bO,bO];exact fun h=>⟨(h1.2.2.2 h.1).1,ih h.2⟩
theorem Q6 {l l':List Tm} (h:F2 Up l l'):bO l→dk l→dk l':=by
 induction h with
 |nil=>simp
 |cons h1 _ ih=>rw [bO,dk,dk];exact fun h g=>⟨(h1.2.2.2 h.1).2.1 g.1,ih h.2 g.2⟩
theorem Q9 (v:Int):ca (-1) v= -1:=by rfl
theorem ajn {kd dd dd':Int} (h1:24≤dd) (h2:24≤dd') {l l':List Tm} (h:F2 Up l l'): ∀ {i:Nat},bO l→bz false (-1) dd kd i l=true→bz false (-1) dd' kd i l'=true:=by
 induction h with
 |nil=>exact fun _ h=>h
 |cons h3 _ ih=>
  intro i
  rw [bO,bz,bz,Bool.and_eq_true,Bool.and_eq_true,Q9]
  have:=iy kd i
  exact fun h g=>⟨(h3.2.2.2 h.1).2.2 _ _ (by omega) (by omega) g.1,ih h.2 g.2⟩
theorem ajo {kd dd dd':Int} (h1:24≤dd) (h2:24≤dd') {l l':List Tm} (h:F2 Up l l'):bO l→bY false (-1) dd kd l=true→bY false (-1) dd' kd l'=true:=by
 induction h with
 |nil=>exact fun _ h=>h
 |cons h3 _ ih=>
  rw [bO,bY,bY,Bool.and_eq_true,Bool.and_eq_true]
  have:=d9 kd
  exact fun h g=>⟨(h3.2.2.2 h.1).2.2 _ _ (by omega) (by omega) g.1,ih h.2 g.2⟩
def mB (d db:Int) (b b':Br Tm):Prop:=cm d db b.face= .ok b'.face∧F2 Up b.kids b'.kids
theorem N6 {d db:Int} {f g:List Cl} (h:cm d db f= .ok g) (hf:ao f) (hl:f.length<1073741824):ao g∧g.length<1073741824:=by
 unfold cm at h
 split at h
 ·grind
 ·obtain ⟨h1,rfl⟩:=tp h
  have:=kh h1
  exact ⟨this.2,by have:=this.len;omega⟩
theorem N7 {d db:Int} {f g:List Cl} (h:cm d db f= .ok g) (hf:ao f) (hr:a8 f=true):a8 g=true:=(DO ((eH hf).1 hr) h).right
theorem N5 {d db:Int} {f g:List Cl} (h:cm d db f= .ok g) (hf:ao f) (hr:ck f=true):ck g=true:=by
 grind [ck,N7,af1]
theorem af0 {d db:Int} {f g:List Cl} (h:cm d db f= .ok g) (hf:f.length=0):g.length=0:=by
 grind [yg]
theorem ajk {d db:Int} {l l':List (Br Tm)} (h:F2 (mB d db) l l'):bP l→bP l':=by
 induction h with
 |nil=>exact id
 |cons h1 _ ih=>
  rw [bP,bP,l6,l6]
  intro h
  have h3:=N6 h1.1 h.1.1.1 h.1.1.2.1
  exact ⟨⟨⟨h3.1,h3.2,by have:=h1.2.len;omega⟩,okK_iff.1 (Q5 h1.2 (okK_iff.2 h.1.2))⟩,ih h.2⟩
theorem ajm {d db:Int} {l l':List (Br Tm)} (h:F2 (mB d db) l l'):bP l→dM l→dM l':=by
 induction h with
 |nil=>simp
 |cons h1 _ ih=>
  rw [bP,l6,dM,dM,DR,DR]
  intro h g
  exact ⟨⟨DO g.1.1 h1.1,rowsK_iff.1 (Q6 h1.2 (okK_iff.2 h.1.2) (rowsK_iff.2 g.1.2))⟩,ih h.2 g.2⟩
theorem ajj {d db kd dd dd':Int} (h1:24≤dd) (h2:24≤dd') {l l':List (Br Tm)} (h:F2 (mB d db) l l'):bP l→b8 false (-1) dd kd l=true→b8 false (-1) dd' kd l'=true:=by
 induction h with
 |nil=>exact fun _ h=>h
 | @cons a b _ _ h3 _ ih=>
  rw [bP,l6,b8,b8,Bool.and_eq_true,Bool.and_eq_true]
  intro h g
  refine ⟨?_,ih h.2 g.2⟩
  cases a;cases b
  have g1:=g.1
  rw [k_] at g1 ⊢
  exact ajo h1 h2 h3.2 (okK_iff.2 h.1.2) g1
theorem ajl {d db kd dd dd':Int} (h1:24≤dd) (h2:24≤dd') {l l':List (Br Tm)} (h:F2 (mB d db) l l'):bP l→l.all (cE kd dd)=true→l'.all (cE kd dd')=true:=by
 induction h with
 |nil=>simp
 | @cons a b _ _ h3 _ ih=>
  rw [bP,l6,List.all_cons,List.all_cons,Bool.and_eq_true,Bool.and_eq_true]
  intro h g
  refine ⟨?_,ih h.2 g.2⟩
  have g1:=g.1
  unfold cE at g1 ⊢
  rw [Bool.and_eq_true,Bool.and_eq_true,decide_eq_true_eq] at g1 ⊢
  rw [h3.2.len]
  exact ⟨g1.1,N5 h3.1 h.1.1.1 g1.2.1,wX h2⟩
theorem Q3 {d db:Int} {l l':List (Br Tm)} (h:F2 (mB d db) l l'):F2 (fun b b':Br Tm=>F2 Up b.kids b'.kids) l l':=h.imp fun _ _ h=>h.2
theorem adK {vb db:Int} (hvb:0≤vb) (hvb':vb≤1000000000) (t:Tm): ∀v d t',bp vb db v d t= .ok t'→Up t t':=by
 induction t using h9 with
 |h kd n nm r ks sys ih1 ih2=>
  intro v d t' h
  rw [bp] at h
  split at h
  ·cases h
  next hv=>
  obtain ⟨r',hr,h⟩:=bA h
  obtain ⟨ks',hk,h⟩:=bA h
  obtain ⟨sys',hs,h⟩:=bA h
  injection h with h;subst h
  have fk:F2 Up ks ks':=adC (fun x hx v d x'=>ih1 x hx v d x') hk
  have fs:F2 (mB d db) sys sys':=adJ (fun b hb x hx v d x'=>ih2 b hb x hx v d x') hs
  refine ⟨?_, ?_,rfl,fun hok=> ?_⟩
  ·grind [av,Q4,ajp,Q3]
  ·grind [aD,Q7,ajq,Q3]
  ·obtain ⟨o1,o2,o3,o4,o5,o6,o7⟩:=hok.node
   have hok':=hok
   rw [OkT] at hok'
   obtain ⟨_,ok,os⟩:=hok'
   have hr':=N6 hr o4 o5
   have o2':=o2
   unfold aF at o2'
   refine ⟨?_, ?_, ?_⟩
   ·rw [OkT]
    refine ⟨⟨o1, ?_,o3,hr'.1,hr'.2,by rw [fk.len];exact o6,by rw [fs.len];exact o7⟩,Q5 fk ok,ajk fs os⟩
    grind [aF]
   ·grind [RowsT,DO,Q6,ajm,yg]
   ·intro dd dd' h1 h2
    rw [aQ,aQ]
    simp only [Bool.false_and,Bool.not_false,Bool.true_and,Bool.and_eq_true]
    rintro ⟨a,b,c⟩
    refine ⟨?_,ajn h1 h2 fk ok b,ajj h1 h2 fs os c⟩
    unfold du at a ⊢
    simp only [Bool.and_eq_true,decide_eq_true_eq,fk.len,fs.len] at a ⊢
    grind [af0,N7,wX,N5,ajl]
theorem abZ {kd:Int} {n:Nat} (h:d7 kd=n):0≤kd:=by
 grind [d7]
theorem WU {bd:Bool} (t:Tm): ∀ {vars dims:Int},OkT t→aQ bd vars dims t=true→RowsT t:=by
 induction t using h9 with
 |h kd n nm r ks sys ih1 ih2=>
  intro vars dims hok h
  rw [aQ,Bool.and_eq_true,Bool.and_eq_true,Bool.and_eq_true] at h
  obtain ⟨_,a,b,c⟩:=h
  obtain ⟨o1,o2,o3,o4,o5,o6,o7⟩:=hok.node
  have hok':=hok
  rw [OkT] at hok'
  obtain ⟨_,ok,os⟩:=hok'
  have hkids: ∀ {l:List Tm} {i:Nat},(∀x∈l,∀ {vars dims:Int},OkT x→aQ bd vars dims x=true→RowsT x)→bO l→bz bd vars dims kd i l=true→dk l:=by
   intro l
   induction l<;>grind [dk,bz,bO]
  rw [FO,List.all_eq_true] at c
  unfold du at a
  simp only [Bool.and_eq_true,decide_eq_true_eq] at a
  obtain ⟨⟨a1,a2,a3,a4⟩,a5⟩:=a
  have r0: ∀ {l:List Cl},l.length=0→RF l:=fun h=>by
   grind [oL]
  rw [RowsT]
  have hfaces:(sys=[]∨sys.all (cE kd dims)=true)∧RF r∧(kd=1→r=[]):=by
   have nosys:cj kd=0→sys=[]:=fun h=>List.length_eq_zero_iff.1 (a4 h)
   by_cases c1:kd=1
   ·rw [if_pos c1] at a5
    simp only [Bool.and_eq_true,decide_eq_true_eq] at a5
    exact ⟨.inl (nosys (by subst c1;decide)),r0 a5.1,fun _=>List.length_eq_zero_iff.1 a5.1⟩
   ·rw [if_neg c1] at a5
    by_cases c2:kd=2
    ·rw [if_pos c2] at a5
     simp only [Bool.and_eq_true,decide_eq_true_eq] at a5
     exact ⟨.inl (nosys (by subst c2;decide)),r0 a5.1,fun h=>absurd h c1⟩
    ·rw [if_neg c2] at a5
     by_cases c3:kd=13∨kd=21∨kd=26
     ·rw [if_pos c3,Bool.and_eq_true] at a5
      exact ⟨.inl (nosys (by rcases c3 with rfl|rfl|rfl<;>decide)),(eH o4).1 a5.1,fun h=>absurd h c1⟩
     ·rw [if_neg c3] at a5
      by_cases c4:kd=14
      ·rw [if_pos c4,Bool.and_eq_true] at a5
       unfold ck at a5
       rw [Bool.and_eq_true] at a5
       exact ⟨.inl (nosys (by subst c4;decide)),(eH o4).1 a5.1.1,fun h=>absurd h c1⟩
      grind
  refine ⟨⟨hfaces.2.1,hfaces.2.2,abZ a1⟩,hkids (fun x hx=>ih1 x hx) ok b, ?_⟩
  rw [rowsS_iff]
  intro br hbr
  have hc:=c br hbr
  rw [List.all_eq_true] at hc
  have hob:=hok.br hbr
  refine ⟨?_,fun x hx=>ih2 br hbr x hx (hob.2 x hx) (hc x hx)⟩
  rcases hfaces.1 with h|h<;>grind [cE,ck,eH]
theorem rH {vb db:Int} (t:Tm): ∀ {v d e},bp vb db v d t= .error e→0<e∧e≤1000:=by
 induction t using h9 with
 |h kd n nm r ks sys ih1 ih2=>
  intro v d e h
  rw [bp] at h
  split at h
  ·grind
  rcases cD h with h|⟨_,_,h⟩
  ·exact yf h
  have hkids: ∀ {l:List Tm} {i:Nat},(∀x∈l,∀ {v d e},bp vb db v d x= .error e→0<e∧e≤1000)→dR vb db v d kd i l= .error e→0<e∧e≤1000:=by
   intro l
   induction l with
   |nil=>grind [dR]
   |cons t l ih=>
    intro i hl h
    rw [dR] at h
    rcases cD h with h|⟨_,_,h⟩
    ·exact hl t (by simp) h
    grind [cD]
  have hmore: ∀ {l:List Tm},(∀x∈l,∀ {v d e},bp vb db v d x= .error e→0<e∧e≤1000)→ ∀ {e},dr vb db v d kd l= .error e→0<e∧e≤1000:=by
   intro l
   induction l with
   |nil=>grind [dr]
   |cons t l ih=>
    intro hl e h
    rw [dr] at h
    rcases cD h with h|⟨_,_,h⟩
    ·grind
    ·rcases cD h with h|⟨_,_,h⟩
     ·exact ih (fun x hx=>hl x (by simp [hx])) h
     simp_all
  have hsys: ∀ {l:List (Br Tm)},(∀b∈l,∀x∈b.kids,∀ {v d e},bp vb db v d x= .error e→0<e∧e≤1000)→dC vb db v d kd l= .error e→0<e∧e≤1000:=by
   intro l
   induction l with
   |nil=>grind [dC]
   |cons b l ih=>
    intro hl h
    rw [dC] at h
    rcases cD h with h|⟨_,_,h⟩
    ·cases b with
     |mk f ks'=>
      rw [rG] at h
      rcases cD h with h|⟨_,_,h⟩
      ·exact yf h
      ·rcases cD h with h|⟨_,_,h⟩
       ·exact hmore (hl (Br.mk f ks') (by simp)) h
       ·cases h
    grind [cD]
  grind [cD]
end Go.Proofs.YtgajalidbabccaaGreatDoor
namespace Go.Proofs.YtgajalidbabccaaGreatDoor
open Go PI
set_option linter.unusedVariables false
set_option linter.unusedSimpArgs false
variable {S:Type} {k:Nat}
abbrev dc:=Int→List Cl→Except Int (List Cl)
mutual
def aI (fo fa:dc) (d:Int):Tm→Except Int Tm
 | .mk kd n nm r ks sys=>bE (if kd=14 then fa d r else fo d r) fun r'=>bE (a_ fo fa d kd 0 ks) fun ks'=>bE (aK fo fa d kd sys) fun sys'=> .ok (.mk kd n nm r' ks' sys')
def a_ (fo fa:dc) (d kd:Int) (i:Nat):List Tm→Except Int (List Tm)
 |[]=> .ok []
 |t::l=>bE (aI fo fa (d+bL kd i) t) fun t'=>bE (a_ fo fa d kd (i+1) l) fun l'=> .ok (t'::l')
def aK (fo fa:dc) (d kd:Int):List (Br Tm)→Except Int (List (Br Tm))
 |[]=> .ok []
 |b::l=>bE (eJ fo fa d kd b) fun o=>bE (aK fo fa d kd l) fun l'=> .ok (o++l')
def eJ (fo fa:dc) (d kd:Int):Br Tm→Except Int (List (Br Tm))
 | .mk f ks=>bE (fa d f) fun f'=>if f'.length=0 then .ok [] else bE (bg fo fa d kd ks) fun ks'=> .ok [.mk f' ks']
def bg (fo fa:dc) (d kd:Int):List Tm→Except Int (List Tm)
 |[]=> .ok []
 |t::l=>bE (aI fo fa (d+au kd) t) fun t'=>bE (bg fo fa d kd l) fun l'=> .ok (t'::l')
end
theorem ajs {fo fa:dc} {d kd:Int} {R:Tm→Tm→Prop}: ∀ {l:List Tm} {i:Nat} {l':List Tm},(∀x∈l,∀d x',aI fo fa d x= .ok x'→R x x')→a_ fo fa d kd i l= .ok l'→F2 R l l':=by
 intro l
 induction l with
 |nil=>intro i l' _ h;rw [a_] at h;injection h with h;subst h;exact .nil
 |cons t l ih=>
  intro i l' hr h
  rw [a_] at h
  obtain ⟨t',h1,h⟩:=bA h
  obtain ⟨m,h2,h⟩:=bA h
  injection h with h;subst h
  exact .cons (hr t (by simp) _ _ h1) (ih (fun x hx=>hr x (by simp [hx])) h2)
theorem aju {fo fa:dc} {d kd:Int} {R:Tm→Tm→Prop}: ∀ {l:List Tm} {l':List Tm},(∀x∈l,∀d x',aI fo fa d x= .ok x'→R x x')→bg fo fa d kd l= .ok l'→F2 R l l':=by
 intro l
 induction l with
 |nil=>intro l' _ h;rw [bg] at h;injection h with h;subst h;exact .nil
 |cons t l ih=>
  intro l' hr h
  rw [bg] at h
  obtain ⟨t',h1,h⟩:=bA h
  obtain ⟨m,h2,h⟩:=bA h
  injection h with h;subst h
  exact .cons (hr t (by simp) _ _ h1) (ih (fun x hx=>hr x (by simp [hx])) h2)
def Wk (x x':Tm):Prop:=av x'≤av x∧aD x'≤aD x∧x'.kind=x.kind∧(OkT x→RowsT x→OkT x'∧RowsT x')
theorem Rh {l l':List Tm} (h:F2 Wk l l'):bt l'≤bt l:=by
 induction h with
 |nil=>simp
 |cons h1 _ ih=>rw [bt,bt];have:=h1.1;omega
theorem Rj {l l':List Tm} (h:F2 Wk l l'):aN l'≤aN l:=by
 induction h with
 |nil=>simp
 |cons h1 _ ih=>rw [aN,aN];have:=h1.2.1;omega
theorem Ri {l l':List Tm} (h:F2 Wk l l'):bO l→dk l→bO l'∧dk l':=by
 induction h with
 |nil=>grind
 |cons h1 _ ih=>
  rw [bO,bO,dk,dk]
  intro h g
  have a:=h1.2.2.2 h.1 g.1
  grind
theorem ajx {fo fa:dc} {d kd:Int} (hfa: ∀d f g,RF f→fa d f= .ok g→RF g): ∀ {l l':List (Br Tm)},(∀b∈l,∀x∈b.kids,∀d x',aI fo fa d x= .ok x'→Wk x x')→aK fo fa d kd l= .ok l'→
  bU l'≤bU l∧aZ l'≤aZ l∧l'.length≤l.length∧(bP l→dM l→bP l'∧dM l'):=by
 intro l
 induction l with
 |nil=>grind [aK]
 |cons b l ih=>
  intro l' hr h
  rw [aK] at h
  obtain ⟨o,h1,h⟩:=bA h
  obtain ⟨m,h2,h⟩:=bA h
  injection h with h;subst h
  obtain ⟨i1,i2,i3,i4⟩:=ih (fun b hb=>hr b (by simp [hb])) h2
  cases b with
  |mk f ks=>
   rw [eJ] at h1
   obtain ⟨f',h3,h1⟩:=bA h1
   split at h1
   ·grind [bU,aZ,bP,dM]
   ·obtain ⟨ks',h4,h1⟩:=bA h1
    injection h1 with h1;subst h1
    have f2:F2 Wk ks ks':=aju (hr ⟨f,ks⟩ (by simp)) h4
    have hd:=Rh f2
    have hs:=Rj f2
    refine ⟨?_, ?_, ?_,fun ho hg=> ?_⟩
    ·grind [bU,vN]
    ·grind [aZ,mu]
    ·grind
    ·rw [bP,kU] at ho;rw [dM,kZ] at hg
     have a:=Ri f2 ho.1.2 hg.1.2
     have b:=i4 ho.2 hg.2
     have c:=hfa d f f' hg.1.1 h3
     show bP (Br.mk f' ks'::m)∧dM (Br.mk f' ks'::m)
     rw [bP,kU,dM,kZ]
     exact ⟨⟨⟨⟨c.2,by have:=c.len;omega,by rw [f2.len];simp_all⟩,a.1⟩,b.1⟩,⟨c,a.2⟩,b.2⟩
theorem Rd {fo fa:dc} (hfo: ∀d f g,RF f→fo d f= .ok g→RF g) (hfa: ∀d f g,RF f→fa d f= .ok g→RF g) (h0: ∀d,fo d []= .ok []) (t:Tm): ∀d t',aI fo fa d t= .ok t'→Wk t t':=by
 induction t using h9 with
 |h kd n nm r ks sys ih1 ih2=>
  intro d t' h
  rw [aI] at h
  obtain ⟨r',hr,h⟩:=bA h
  obtain ⟨ks',hk,h⟩:=bA h
  obtain ⟨sys',hs,h⟩:=bA h
  injection h with h;subst h
  have fk:F2 Wk ks ks':=ajs ih1 hk
  obtain ⟨s1,s2,s3,s4⟩:=ajx hfa ih2 hs
  refine ⟨?_, ?_,rfl,fun hok hro=> ?_⟩
  ·rw [av,av];have:=Rh fk;omega
  ·rw [aD,aD];have:=Rj fk;omega
  ·rw [OkT] at hok;rw [RowsT] at hro
   obtain ⟨⟨o1,o2,o3,o4,o5,o6,o7⟩,ok,os⟩:=hok
   obtain ⟨⟨a,b,z⟩,c,e⟩:=hro
   have hk:=Ri fk ok c
   have hs:=s4 os e
   have hrf:RF r':=by
    grind
   rw [OkT,RowsT]
   refine ⟨⟨⟨o1,o2,o3,hrf.2,by have:=hrf.len;omega,by rw [fk.len];exact o6,by omega⟩,hk.1,hs.1⟩,⟨hrf,fun h1=> ?_,z⟩,hk.2,hs.2⟩
   grind
section
variable {fo fa:dc} {G:Int→List Cl→List Cl}
def cA (f:dc) (G:Int→List Cl→List Cl):dc:=fun d l=>bE (f d l) fun m=> .ok (G d m)
def aw (G:Int→List Cl→List Cl):dc:=fun d l=> .ok (G d l)
theorem yD (t:Tm): ∀d,∃t',aI (aw G) (aw G) d t= .ok t':=by
 induction t using h9 with
 |h kd n nm r ks sys ih1 ih2=>
  intro d
  have hk: ∀ {l:List Tm} {i:Nat},(∀x∈l,∀d,∃t',aI (aw G) (aw G) d x= .ok t')→ ∃l',a_ (aw G) (aw G) d kd i l= .ok l':=by
   intro l
   induction l with
   |nil=>simp_all [a_]
   |cons t l ih=>
    intro i h
    obtain ⟨t',e⟩:=h t (by simp) (d+bL kd i)
    obtain ⟨l',e'⟩:=ih (i:=i+1) fun x hx=>h x (by simp [hx])
    grind [a_,aS]
  have hm: ∀ {l:List Tm},(∀x∈l,∀d,∃t',aI (aw G) (aw G) d x= .ok t')→ ∃l',bg (aw G) (aw G) d kd l= .ok l':=by
   intro l
   induction l with
   |nil=>simp_all [bg]
   |cons t l ih=>
    intro h
    obtain ⟨t',e⟩:=h t (by simp) (d+au kd)
    obtain ⟨l',e'⟩:=ih fun x hx=>h x (by simp [hx])
    grind [bg,aS]
  have hs: ∀ {l:List (Br Tm)},(∀b∈l,∀x∈b.kids,∀d,∃t',aI (aw G) (aw G) d x= .ok t')→ ∃l',aK (aw G) (aw G) d kd l= .ok l':=by
   intro l
   induction l with
   |nil=>simp_all [aK]
   |cons b l ih=>
    intro h
    obtain ⟨l',e'⟩:=ih fun b hb=>h b (by simp [hb])
    cases b with
    |mk f ks=>
     obtain ⟨ks',e⟩:=hm (h ⟨f,ks⟩ (by simp))
     have: ∃o,eJ (aw G) (aw G) d kd (.mk f ks)= .ok o:=by
      grind [eJ,aw,aS]
     grind [aK,aS]
  obtain ⟨ks',ek⟩:=hk (i:=0) ih1
  obtain ⟨sys',es⟩:=hs ih2
  simp_all [aw,aI,aS]
theorem ajt (d kd:Int): ∀ (l:List Tm) (i:Nat),∃l',a_ (aw G) (aw G) d kd i l= .ok l':=by
 intro l
 induction l with
 |nil=>simp_all [a_]
 |cons t l ih=>
  intro i
  obtain ⟨t',e⟩:=yD (G:=G) t (d+bL kd i)
  obtain ⟨l',e'⟩:=ih (i+1)
  grind [a_,aS]
theorem Rc (d kd:Int): ∀ (l:List Tm),∃l',bg (aw G) (aw G) d kd l= .ok l':=by
 intro l
 induction l with
 |nil=>simp_all [bg]
 |cons t l ih=>
  obtain ⟨t',e⟩:=yD (G:=G) t (d+au kd)
  grind [bg,aS]
theorem ajr (d kd:Int) (b:Br Tm): ∃o,eJ (aw G) (aw G) d kd b= .ok o:=by
 cases b with
 |mk f ks=>
  obtain ⟨ks',e⟩:=Rc (G:=G) d kd ks
  rw [eJ,aw,aS]
  split<;>simp_all [aS]
theorem ajw (d kd:Int): ∀ (l:List (Br Tm)),∃l',aK (aw G) (aw G) d kd l= .ok l':=by
 intro l
 induction l with
 |nil=>simp_all [aK]
 |cons b l ih=>
  obtain ⟨l',e'⟩:=ih
  obtain ⟨o,e⟩:=ajr (G:=G) d kd b
  grind [aK,aS]
theorem ajv (d kd:Int): ∀ (a b:List (Br Tm)),aK fo fa d kd (a++b)=bE (aK fo fa d kd a) fun a'=>bE (aK fo fa d kd b) fun b'=> .ok (a'++b'):=by
 intro a
 induction a with
 |nil=>intro b;rw [List.nil_append,aK,aS];cases aK fo fa d kd b<;>rfl
 |cons x a ih=>
  intro b
  rw [List.cons_append,aK,aK,ih]
  cases eJ fo fa d kd x with
  |error e=>rfl
  |ok o=>
   rw [aS,aS]
   cases aK fo fa d kd a with
   |error e=>rfl
   |ok a'=>
    rw [aS,aS]
    cases aK fo fa d kd b with
    |error e=>rfl
    |ok b'=>grind [aS]
theorem ajy (hfa: ∀d f g,RF f→fa d f= .ok g→RF g) (hG: ∀d f,RF f→((G d f).length=0↔f.length=0)) (t:Tm): ∀d,RowsT t→bE (aI fo fa d t) (aI (aw G) (aw G) d)=aI (cA fo G) (cA fa G) d t:=by
 induction t using h9 with
 |h kd n nm r ks sys ih1 ih2=>
  intro d hrows
  rw [RowsT] at hrows
  obtain ⟨_,hrk,hrs⟩:=hrows
  have hk: ∀ {l:List Tm} {i:Nat},(∀x∈l,∀d,RowsT x→bE (aI fo fa d x) (aI (aw G) (aw G) d)=aI (cA fo G) (cA fa G) d x)→dk l→bE (a_ fo fa d kd i l) (a_ (aw G) (aw G) d kd i)=a_ (cA fo G) (cA fa G) d kd i l:=by
   intro l
   induction l with
   |nil=>grind [a_,aS]
   |cons t l ih=>
    intro i h hr
    rw [dk] at hr
    have h1:=h t (by simp) (d+bL kd i) hr.1
    have h2:=ih (i:=i+1) (fun x hx=>h x (by simp [hx])) hr.2
    rw [a_,a_,←h1,←h2]
    cases aI fo fa (d+bL kd i) t with
    |error e=>rfl
    |ok t'=>
     rw [aS,aS]
     obtain ⟨t'',e⟩:=yD (G:=G) t' (d+bL kd i)
     rw [e,aS]
     cases a_ fo fa d kd (i+1) l with
     |error e=>rfl
     |ok l'=>
      grind [aS,a_]
  have hm: ∀ {l:List Tm},(∀x∈l,∀d,RowsT x→bE (aI fo fa d x) (aI (aw G) (aw G) d)=aI (cA fo G) (cA fa G) d x)→dk l→bE (bg fo fa d kd l) (bg (aw G) (aw G) d kd)=bg (cA fo G) (cA fa G) d kd l:=by
   intro l
   induction l with
   |nil=>grind [bg,aS]
   |cons t l ih=>
    intro h hr
    rw [dk] at hr
    have h1:=h t (by simp) (d+au kd) hr.1
    have h2:=ih (fun x hx=>h x (by simp [hx])) hr.2
    rw [bg,bg,←h1,←h2]
    cases aI fo fa (d+au kd) t with
    |error e=>rfl
    |ok t'=>
     rw [aS,aS]
     obtain ⟨t'',e⟩:=yD (G:=G) t' (d+au kd)
     rw [e,aS]
     cases bg fo fa d kd l with
     |error e=>rfl
     |ok l'=>
      grind [aS,bg]
  have hb: ∀ {b:Br Tm},(∀x∈b.kids,∀d,RowsT x→bE (aI fo fa d x) (aI (aw G) (aw G) d)=aI (cA fo G) (cA fa G) d x)→kZ b→bE (eJ fo fa d kd b) (aK (aw G) (aw G) d kd)=eJ (cA fo G) (cA fa G) d kd b:=by
   intro b h hr
   cases b with
   |mk f ks'=>
    rw [kZ] at hr
    have h2:=hm h hr.2
    rw [eJ,eJ]
    show _=bE (bE (fa d f) fun m=> .ok (G d m)) _
    cases hf:fa d f with
    |error e=>rfl
    |ok f'=>
     rw [aS,aS,aS]
     have hg:=hG d f' (hfa d f f' hr.1 hf)
     by_cases h0:f'.length=0
     ·grind [aS,aK]
     ·rw [if_neg h0,if_neg (fun h=>h0 (hg.1 h)),←h2]
      cases bg fo fa d kd ks' with
      |error e=>rfl
      |ok l'=>
       rw [aS,aS,aS,aK,eJ]
       show bE (bE (.ok (G d f')) _) _=_
       rw [aS,if_neg (fun h=>h0 (hg.1 h))]
       obtain ⟨l'',e⟩:=Rc (G:=G) d kd l'
       grind [aS,aK]
  have hs: ∀ {l:List (Br Tm)},(∀b∈l,∀x∈b.kids,∀d,RowsT x→bE (aI fo fa d x) (aI (aw G) (aw G) d)=aI (cA fo G) (cA fa G) d x)→dM l→bE (aK fo fa d kd l) (aK (aw G) (aw G) d kd)=aK (cA fo G) (cA fa G) d kd l:=by
   intro l
   induction l with
   |nil=>grind [aK,aS]
   |cons b l ih=>
    intro h hr
    rw [dM] at hr
    have h1:=hb (h b (by simp)) hr.1
    have h2:=ih (fun b hb=>h b (by simp [hb])) hr.2
    rw [aK,aK,←h1,←h2]
    cases eJ fo fa d kd b with
    |error e=>rfl
    |ok o=>
     rw [aS,aS]
     obtain ⟨o',e⟩:=ajw (G:=G) d kd o
     rw [e,aS]
     cases aK fo fa d kd l with
     |error e=>rfl
     |ok l'=>
      grind [aS,ajv]
  rw [aI,aI,←hk (i:=0) ih1 hrk,←hs ih2 hrs]
  have hrow:(if kd=14 then cA fa G d r else cA fo G d r)=bE (if kd=14 then fa d r else fo d r) fun m=> .ok (G d m):=by split<;>rfl
  rw [hrow]
  cases (if kd=14 then fa d r else fo d r) with
  |error e=>rfl
  |ok r'=>
   rw [aS,aS,aS]
   cases a_ fo fa d kd 0 ks with
   |error e=>rfl
   |ok ks'=>
    rw [aS,aS]
    obtain ⟨ks'',ek⟩:=ajt (G:=G) d kd ks' 0
    rw [ek,aS]
    cases aK fo fa d kd sys with
    |error e=>rfl
    |ok sys'=>
     grind [aS,aI,aw]
end
end Go.Proofs.YtgajalidbabccaaGreatDoor
namespace Go.Proofs.YtgajalidbabccaaGreatDoor
open Go PI
set_option linter.unusedVariables false
set_option linter.unusedSimpArgs false
set_option maxRecDepth 20000
variable {S:Type} {k:Nat}
theorem IU (kd:Int):(kd<0∨kd>28)∨(∃n:Nat,n<29∧kd=n):=by
 by_cases h:kd<0∨kd>28
 ·omega
 ·exact .inr ⟨kd.toNat,by omega,by omega⟩
theorem agf (kd:Int) (ret:Int→Option S):vI k kd ret=ret (d7 kd):=by
 simp only [vI,QI]
 rcases IU kd with h|⟨n,hn,rfl⟩
 ·simp only [b7,beq_iff_eq]
  unfold d7
  rw [if_pos h]
  repeat rw [if_neg (by omega)]
 ·unfold d7
  rw [if_neg (by omega),Int.toNat_natCast]
  match n,hn with
  |0,_=>rfl
  |1,_=>rfl
  |2,_=>rfl
  |3,_=>rfl
  |4,_=>rfl
  |5,_=>rfl
  |6,_=>rfl
  |7,_=>rfl
  |8,_=>rfl
  |9,_=>rfl
  |10,_=>rfl
  |11,_=>rfl
  |12,_=>rfl
  |13,_=>rfl
  |14,_=>rfl
  |15,_=>rfl
  |16,_=>rfl
  |17,_=>rfl
  |18,_=>rfl
  |19,_=>rfl
  |20,_=>rfl
  |21,_=>rfl
  |22,_=>rfl
  |23,_=>rfl
  |24,_=>rfl
  |25,_=>rfl
  |26,_=>rfl
  |27,_=>rfl
  |28,_=>rfl
  |n+29,h=>omega
theorem ag1 (kd:Int) (ret:Int→Option S):qJ k kd ret=ret (d7 kd):=by
 simp only [qJ,Qn,aH]
 unfold d7
 rcases IU kd with h|⟨n,hn,rfl⟩
 ·grind
 ·rw [if_neg (by omega),if_neg (by omega),if_neg (by omega),uO (by omega),ww,Int.toNat_natCast]
  simp_all [kidsT]
theorem oP (kd i:Int) (ret:Int×Int→Option S):fw k kd i ret=ret (df kd i,bL kd i):=by
 simp only [fw,QF,b7,beq_iff_eq]
 grind [df,bL]
theorem D5 (hk:Fu k) (kd i:Int) (ret:Int×Int→Option S):m9 k kd i ret=ret (df kd i,bL kd i):=by
 obtain ⟨q,rfl⟩: ∃q,k=q+1:=⟨k-1,by omega⟩
 simp only [m9,E5,B4,uq,wN,zW,b7,beq_iff_eq]
 grind [df,bL]
theorem Ow (kd:Int) (ret:Int→Option S):jL k kd ret=ret (cj kd):=by
 grind [jL,QJ,b7,cj]
theorem OT (kd:Int) (ret:Int→Option S):na k kd ret=ret (cj kd):=by
 grind [na,Qp,b7,cj]
theorem D6 (kd:Int) (ret:Int→Option S):m_ k kd ret=ret (au kd):=by
 grind [m_,Qo,b7,au]
theorem Gb (s t:ByteArray):(s==t)=decide (s=t):=by
 obtain ⟨a⟩:=s;obtain ⟨b⟩:=t
 show (a==b)=_
 grind
theorem CJ (s:ByteArray):(s==ByteArray.empty)=decide (s.size=0):=by
 simp_all [Gb]
theorem oS (s:ByteArray):(s.size:Int)=(s.data.toList.length:Int):=by
 rfl
def g8 (p:List UInt8) (r:List UInt8):Bool:=match p with
 |[]=>lY r
 |_::_=>r.all fun d=>ji d||ng d
theorem KQ (p:List UInt8) (x:UInt8) (r:List UInt8):g8 p (x::r)=((ji x||(decide (p≠[])&&ng x))&&g8 (p++[x]) r):=by
 cases p<;>grind [g8,lY]
theorem KR {p:List UInt8}:g8 p []=decide (p.length≠0):=by
 cases p with
 |nil=>rfl
 |cons c l=>rfl
theorem acE (hk:Fu k) (ret:Bool→Option S) {s:ByteArray} (hs:s.size<2147483648):
  ∀ (r p:List UInt8) (m:Nat),s.data.toList=p++r→r.length<m→lV k ret s m (p.length:Int)=ret (g8 p r):=by
 obtain ⟨q,rfl⟩: ∃q,k=q+1:=⟨k-1,by omega⟩
 have hs':s.data.toList.length<2147483648:=by simp_all
 intro r
 induction r with
 |nil=>
  grind [ak,lV,p8,oS,ai,CJ,KR]
 |cons x r ih=>
  intro p m h hm
  obtain ⟨m,rfl,hm'⟩:=ak hm
  obtain ⟨e1,e2,e3,e4⟩:=az h (by omega)
  have hi:=ih (p++[x]) m e4 hm'
  rw [KQ]
  simp only [lV,p8,oS,e1,aj,e2,Option.bind_some,aH,wS,z8,e3,hi]
  have hl: ∀b:Bool,b=ji x→ab (!b) (ab (((p.length:Nat):Int)==0) (ret false) (if ((x.toNat:Nat):Int)<48 then ret false else if ((x.toNat:Nat):Int)>57 then ret false else ret (g8 (p++[x]) r))) (ret (g8 (p++[x]) r))=ret ((ji x||(decide (p≠[])&&ng x))&&g8 (p++[x]) r):=by
   grind [b7,List.length_pos_iff,ng]
  grind [ji]
theorem agG (hk:Fu k) {s:ByteArray} (hs:s.size<2147483648) (ret:Bool→Option S):vK k s ret=ret (lY s.data.toList):=by
 simp only [vK,Fo]
 have:=acE hk ret hs s.data.toList [] k rfl (by grind [oS])
 exact this
theorem ada (hk:Fu k) (ret:Bool→Option S) {s:ByteArray} (hs:s.size<2147483648):
  ∀ (r p:List UInt8) (m:Nat),s.data.toList=p++r→r.length<m→lQ k ret s m (p.length:Int)=ret (g8 p r):=by
 obtain ⟨q,rfl⟩: ∃q,k=q+1:=⟨k-1,by omega⟩
 have hs':s.data.toList.length<2147483648:=by simp_all
 intro r
 induction r with
 |nil=>
  intro p m h hm
  obtain ⟨m,rfl,hm'⟩:=ak hm
  simp only [lQ,pS,oS,cQ h,ai,KR]
  rw [h,List.append_nil]
  congr 1
  grind
 |cons x r ih=>
  intro p m h hm
  obtain ⟨m,rfl,hm'⟩:=ak hm
  obtain ⟨e1,e2,e3,e4⟩:=az h (by omega)
  have hi:=ih (p++[x]) m e4 hm'
  rw [KQ]
  have hb: ∀n:Nat,(((n:Nat):Int)==95)=decide (n=95):=fun n=>by
   grind
  simp only [lQ,pS,oS,e1,aj,e2,Option.bind_some,aH,wO,zX,e3,hi,hb]
  have hlt:ji x=(decide (97≤x.toNat)&&decide (x.toNat≤122)||decide (65≤x.toNat)&&decide (x.toNat≤90)||decide (x.toNat=95)):=rfl
  have hdt:ng x=(decide (48≤x.toNat)&&decide (x.toNat≤57)):=rfl
  generalize g8 (p++[x]) r=z
  have hj:(ab (!decide (x.toNat=95)) (if ((x.toNat:Nat):Int)<97 then if ((x.toNat:Nat):Int)<65 then ret false else if ((x.toNat:Nat):Int)>90 then ret false else ret z
    else if ((x.toNat:Nat):Int)>122 then if ((x.toNat:Nat):Int)<65 then ret false else if ((x.toNat:Nat):Int)>90 then ret false else ret z else ret z) (ret z))=ret (ji x&&z):=by
   grind [ai,decide_eq_false,aj]
  grind [List.length_pos_iff]
theorem ag9 (hk:Fu k) {s:ByteArray} (hs:s.size<2147483648) (ret:Bool→Option S):vB k s ret=ret (lY s.data.toList):=by
 simp only [vB,Fb]
 have:=ada hk ret hs s.data.toList [] k rfl (by grind [oS])
 exact this
end Go.Proofs.YtgajalidbabccaaGreatDoor
namespace Go.Proofs.YtgajalidbabccaaGreatDoor
open Go PI
set_option linter.unusedVariables false
set_option linter.unusedSimpArgs false
set_option maxRecDepth 20000
variable {S:Type} {k:Nat}
theorem ot (n:Nat):(((n:Nat):Int)==0)=decide (n=0):=by grind
theorem acI (hk:Fu k) (ret:Bool→Option S) {t:Tm} {dims:Int} (hd:0≤dims) (hd':dims<9223372036854775808) (hs: ∀b∈t.sys,ao b.face∧b.face.length<1073741824) (hlen:t.sys.length<1073741824):
  ∀ (r p:List (Br Tm)) (m:Nat),t.sys=p++r→r.length<m→jh k ret t dims m (p.length:Int)=ret (r.all (cE t.kind dims)&&decide (t.r.length=0)):=by
 intro r
 induction r with
 |nil=>
  grind [ak,jh,uI,ai,ot]
 |cons x r ih=>
  intro p m h hm
  obtain ⟨m,rfl,hm'⟩:=ak hm
  obtain ⟨e1,e2,e3,e4⟩:=az h (by omega)
  have hx:=hs x (by grind)
  have hb:((x.kids.length:Int)==cj t.kind)=decide ((x.kids.length:Int)=cj t.kind):=by rfl
  simp only [jh,uI,e1,aj,e2,Option.bind_some,al hk,Ow,DZ hk hx.1 (show x.face.length<2147483648 by omega),OZ hk hx.1 (show x.face.length<4294967296 by omega) hd hd',e3,ih (p++[x]) m e4 hm',List.all_cons,hb]
  grind [cE,decide,Int,ck,aj,ai]
theorem ahh {S:Type} (b c:Bool) (ret:Bool→Option S):ab b (ret c) (ret false)=ret (b&&c):=by
 cases b<;>rfl
def ma (vars dims:Int) (t:Tm):Bool:=
 if t.kind=1 then decide (t.r.length=0)&&(decide (0≤t.n)&&decide (vars<0∨t.n<vars))
   else if t.kind=2 then decide (t.r.length=0)&&lY t.name.data.toList
   else if t.kind=13∨t.kind=21∨t.kind=26 then a8 t.r&&cG t.r dims
   else if t.kind=14 then ck t.r&&cG t.r dims
   else t.sys.all (cE t.kind dims)&&decide (t.r.length=0)
theorem K8 (vars dims:Int) (t:Tm):du vars dims t=((decide (d7 t.kind=t.kids.length)&&(decide (t.kind=1∨t.n=0)&&(decide (t.kind=2∨t.name.size=0)&&decide (cj t.kind=0→t.sys.length=0))))&&ma vars dims t):=by
 cases t;rfl
def WF (t:Tm):Prop:=aF t.kind∧aF t.n∧t.name.size<1073741824∧ao t.r∧t.r.length<1073741824∧t.kids.length<1073741824∧t.sys.length<1073741824
theorem OkT.no {t:Tm} (h:OkT t):WF t:=by cases t;exact h.node
theorem OkT.ki {t x:Tm} (h:OkT t) (hx:x∈t.kids):OkT x:=by cases t;exact h.kid hx
theorem OkT.bi {t:Tm} {b:Br Tm} (h:OkT t) (hb:b∈t.sys):(ao b.face∧b.face.length<1073741824∧b.kids.length<1073741824)∧ ∀t∈b.kids,OkT t:=by cases t;exact h.br hb
theorem agM (hk:Fu k) {t:Tm} (ht:OkT t) {vars dims:Int} (hd:0≤dims) (hd':dims<9223372036854775808) (ret:Bool→Option S):wT k ret t vars dims k=ret (ma vars dims t):=by
 obtain ⟨o1,o2,o3,o4,o5,o6,o7⟩:=ht.no
 have hb:=fun b hb=>(ht.bi (b:=b) hb).1
 obtain ⟨q,hq⟩: ∃q,k=q+1:=⟨k-1,by omega⟩
 have: ∀j,j=q+1→wT k ret t vars dims j=p9 k ret t vars dims (fun v109=>jh k ret t dims k v109):=by rintro j rfl;rfl
 rw [this k hq]
 have hl:=acI hk ret hd hd' (fun b h=>⟨(hb b h).1,(hb b h).2.1⟩) o7 t.sys [] k rfl (by omega)
 have hl:jh k ret t dims k 0=_:=hl
 simp only [p9,al hk,agG hk (show t.name.size<2147483648 by omega),oR hk o4 (show t.r.length<2147483648 by omega),DZ hk o4 (show t.r.length<2147483648 by omega),OZ hk o4 (show t.r.length<4294967296 by omega) hd hd',hl,ot,ahh]
 grind [b7,ma]
theorem agL (hk:Fu k) {t:Tm} (ht:OkT t) {vars dims:Int} (hd:0≤dims) (hd':dims<9223372036854775808) (ret:Bool→Option S):qQ k t vars dims ret=ret (du vars dims t):=by
 have hq:(d7 t.kind==(t.kids.length:Int))=decide (d7 t.kind=t.kids.length):=by rfl
 have hp:(cj t.kind==0)=decide (cj t.kind=0):=bR _
 simp only [qQ,Fp,al hk,agf,Ow,agM hk ht hd hd',CJ,hq,hp,bR,K8]
 have hsy:ab (decide (cj t.kind=0)) (ab (decide (((t.sys.length:Nat):Int)>0)) (ret false) (ret (ma vars dims t))) (ret (ma vars dims t))=ret (decide (cj t.kind=0→t.sys.length=0)&&ma vars dims t):=by
  rw [aH,aH]
  by_cases h1:cj t.kind=0
  ·rw [if_pos h1]
   by_cases h2:t.sys.length=0<;>grind
  grind
 grind [aj,ai,decide_eq_false]
end Go.Proofs.YtgajalidbabccaaGreatDoor
