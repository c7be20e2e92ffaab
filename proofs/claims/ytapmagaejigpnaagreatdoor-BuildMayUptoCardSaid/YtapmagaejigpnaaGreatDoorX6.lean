/- Part 6 of a proof: the sources, with their names and remarks, lie in wip/. -/
import Derived.Test.YtapmagaejigpnaaGreatDoorX5
namespace Go.Proofs.YtapmagaejigpnaaGreatDoor
open Go PI
set_option linter.unusedVariables false
set_option maxRecDepth 100000
noncomputable section
def Ef {S:Type} (k:Nat):Rw S:=af ON uu fun l a_from c0 c1 κ=>aa k (rQ k l a_from c0 c1) (tz c0 c1 κ)
def uQ {S:Type} (k:Nat):Fx S:=fx 33 (fun|23=>[true,false]|_=>[]) (fun _=>false) [(98,Ee k)] [(2,⟨[(1,some (100001,true)),(2,.none),(13,.none),(14,.none),(15,.none)],[(1000000,[.none]),(1000001,[.none])]⟩,aE 4 5)] k Tryz.f97 false [] 2
def CI (c0 c1:Int) (l:List Cl) (v1:List Cl) (v15:Int):St UU:=⟨[(1,(.own 100001 0)),(2,(.func 98 [] [(pt 1000000),(pt 1000001)])),(13,(sC l)),(14,(.int .i64 (l.length:Int))),(15,(iI v15))],[(1000000,bI c0),(1000001,bI c1)],[(100001,⟨0,ET.C,v1⟩)],[(100001,.wr)]⟩
section
variable {S:Type} (k:Nat) (l a_from:List Cl) (c0 c1:Int) (κ:Out UU→Option S)
theorem KD: ∀n v1 v15,(uQ k).lp κ 2 [] n (CI c0 c1 l v1 v15)=l_ k (tz c0 c1 κ) c0 c1 l n v1 v15:=bL (qB k (tz c0 c1 κ) c0 c1 l) rfl (fun _=>rfl) fun r v1 v15=>by kernel_rfl
end
theorem MW {S:Type} (o:Obj) (ho:ae o) (k:Nat):Tl o 97 (Ef k:Rw S):=ai (uQ k) ⟨MV o ho k,trivial⟩ Tryz.func97 (by kernel_rfl) fun l a_from c0 c1 κ x h=>Eq.trans (b:=zd k (tz c0 c1 κ) (fun v1 v15=>(uQ k).lp κ 2 [] k (CI c0 c1 l v1 v15)) l a_from c0 c1) (by kernel_rfl) (Eq.trans (by simp only [KD];rfl) (ak h))
def mQ {S:Type} (k:Nat):Rw S:=af OO xn fun f a_from a_by κ=>aa k (iX k f a_from a_by) (aY κ)
def Jc {S:Type} (k:Nat):Fx S:=fx 31 (fun|21=>[false,true,false]|_=>[]) (fun _=>false) [(21,xK k),(96,tQ k),(97,Ef k),(100,gK k)] [] k Tryz.f57 false [] 0
theorem oy {S:Type} (o:Obj) (ho:ae o) (k:Nat):Tl o 57 (mQ k:Rw S):=ai (Jc k) ⟨AO o ho k,v6 o ho k,MW o ho k,g5 o ho k,trivial⟩ Tryz.func57 (by kernel_rfl) fun f a_from a_by κ x h=>Eq.trans (by kernel_rfl) (ak h)
def xM {S:Type} (k:Nat):Rw S:=af OP dP fun f c0 κ=>aa k (gq k f c0) (Du κ)
def Jd {S:Type} (k:Nat):Fx S:=fp 23 [(52,iq k),(57,mQ k),(85,io k)] [] k Tryz.f53 1
theorem AQ {S:Type} (o:Obj) (ho:ae o) (k:Nat):Tl o 53 (xM k:Rw S):=ai (Jd k) ⟨je o ho k,oy o ho k,jd o ho k,trivial⟩ Tryz.func53 (by kernel_rfl) fun f c0 κ x h=>Eq.trans (by kernel_rfl) (ak h)
def Eh {S:Type} (k:Nat):Rw S:=af BJ xn fun l κ=>aa k (rL k l) (bm κ)
def uR {S:Type} (k:Nat):Fx S:=fp 15 [(84,po k)] [(2,bG [5,6,7] [],aE 4 5)] k Tryz.f176 0
def CJ (l:List (List Cl)) (v7:Int):St UU:=⟨[(5,(t_ l .none)),(6,(.int .i64 (l.length:Int))),(7,(iI v7))],[],[],[]⟩
section
variable {S:Type} (k:Nat) (l:List (List Cl)) (κ:Out UU→Option S)
theorem KE: ∀n v7,(uR k).lp κ 2 [] n (CJ l v7)=l6 k (bm κ) l n v7:=eh (qx k (bm κ) l) rfl (fun _=>rfl) fun r v7=>by kernel_rfl
end
theorem MY {S:Type} (o:Obj) (ho:ae o) (k:Nat):Tl o 176 (Eh k:Rw S):=ai (uR k) ⟨sn o ho k,trivial⟩ Tryz.func176 (by kernel_rfl) fun l κ x h=>Eq.trans (b:=y8 k (bm κ) (fun v7=>(uR k).lp κ 2 [] k (CJ l v7)) l) (by kernel_rfl) (Eq.trans (by simp only [KE];rfl) (ak h))
def xN {S:Type} (k:Nat):Rw S:=af kh xn fun f g κ=>aa k (n5 k f g) (aY κ)
def Je {S:Type} (k:Nat):Fx S:=fp 14 [(100,gK k)] [] k Tryz.f162 0
theorem AR {S:Type} (o:Obj) (ho:ae o) (k:Nat):Tl o 162 (xN k:Rw S):=ai (Je k) ⟨g5 o ho k,trivial⟩ Tryz.func162 (by kernel_rfl) fun f g κ x h=>Eq.trans (by kernel_rfl) (ak h)
def Ei {S:Type} (k:Nat):Rw S:=af kh xn fun f g κ=>aa k (rE k f g) (aY κ)
def Jf {S:Type} (k:Nat):Fx S:=fp 19 [(162,xN k),(176,Eh k)] [] k Tryz.f133 0
theorem MZ {S:Type} (o:Obj) (ho:ae o) (k:Nat):Tl o 133 (Ei k:Rw S):=ai (Jf k) ⟨AR o ho k,MY o ho k,trivial⟩ Tryz.func133 (by kernel_rfl) fun f g κ x h=>Eq.trans (by kernel_rfl) (ak h)
def Ej {S:Type} (k:Nat):Rw S:=af OQ dP fun f g c0 κ=>aa k (iV k f g c0) (Du κ)
def Jg {S:Type} (k:Nat):Fx S:=fp 26 [(52,iq k),(85,io k),(133,Ei k)] [] k Tryz.f86 1
theorem M0 {S:Type} (o:Obj) (ho:ae o) (k:Nat):Tl o 86 (Ej k:Rw S):=ai (Jg k) ⟨je o ho k,jd o ho k,MZ o ho k,trivial⟩ Tryz.func86 (by kernel_rfl) fun f g c0 κ x h=>Eq.trans (by kernel_rfl) (ak h)
def Ek {S:Type} (k:Nat):Rw S:=af OR xn fun l_0 l_1 f a_from κ=>aa k (oa k l_0 l_1 f a_from) (Sb κ)
def Jh {S:Type} (k:Nat):Fx S:=fp 31 [(57,mQ k)] [] k Tryz.f190 0
theorem M1 {S:Type} (o:Obj) (ho:ae o) (k:Nat):Tl o 190 (Ek k:Rw S):=ai (Jh k) ⟨oy o ho k,trivial⟩ Tryz.func190 (by kernel_rfl) fun l_0 l_1 f a_from κ x h=>Eq.trans (by kernel_rfl) (ak h)
def tR {S:Type} (hd:eC S):Rw S:=af OS xn fun l_0 l_1 t v d κ=>hd l_0 l_1 t v d (dJ κ)
def gR {S:Type} (hd:eC S) (k:Nat):Fx S:=fp 128 [(110,kP k),(141,tR hd),(190,Ek k)] [(1000006,⟨[(2,.none),(3,.none),(4,.none),(5,.none),(8,.none),(9,.none)],[(4,[.none,.none]),(5,[.none,.none,.none,.none,.none,.none]),(8,[.none,.none,.none,some (200515,true),some (200516,true),some (200517,true)]),(9,[.none,.none,.none,.none,some (200580,true),some (200581,true)])]⟩,aE 3 7),(7,⟨[(2,.none),(3,.none),(4,.none),(5,.none),(8,.none),(9,.none),(55,.none),(56,.none),(57,.none)],[(4,[.none,.none]),(5,[.none,.none,.none,.none,.none,.none]),(8,[.none,.none,.none,some (200515,true),some (200516,true),some (200517,true)]),(9,[.none,.none,.none,.none,some (200580,true),some (200581,true)])]⟩,aE 6 23),(16,⟨[(2,.none),(3,.none),(4,.none),(8,.none),(9,.none),(14,.none),(88,.none),(89,.none),(90,.none)],[(4,[.none,.none]),(8,[.none,.none,.none,some (200515,true),some (200516,true),some (200517,true)]),(9,[.none,.none,.none,.none,some (200580,true),some (200581,true)])]⟩,aE 9 191),(20,⟨[(2,.none),(3,.none),(4,.none),(8,.none),(9,.none),(14,.none),(17,.none),(88,.none),(89,.none),(90,.none),(101,.none),(102,.none),(103,.none)],[(4,[.none,.none]),(8,[.none,.none,.none,some (200515,true),some (200516,true),some (200517,true)]),(9,[.none,.none,.none,.none,some (200580,true),some (200581,true)]),(17,[.none,some (201089,true)])]⟩,aE 19 183487)] k Tryz.f141 0
def CK (l_0 l_1:Int) (t:Tm) (r2:List Cl) (v d:Int) (b9_1:Int):St UU:=⟨[(2,(iI v)),(3,(iI d)),(4,(pt 4)),(5,(pt 5)),(8,(pt 8)),(9,(pt 9))],[(4,.cells [(iI l_0),(iI l_1)]),(5,bT t),(8,.cells [(iI 0),(iI 0),(.str ByteArray.empty),(.own 200515 0),(.own 200516 0),(.own 200517 0)]),(9,.cells [(iI t.kind),(iI b9_1),(.str t.name),(sC r2),(.own 200580 0),(.own 200581 0)])],[(200581,⟨0,ET.B,([]:List (Br Tm))⟩),(200580,⟨0,ET.T,([]:List Tm)⟩),(200517,⟨0,ET.B,([]:List (Br Tm))⟩),(200516,⟨0,ET.T,([]:List Tm)⟩),(200515,⟨0,ET.C,([]:List Cl)⟩)],[(200581,.wr),(200580,.wr),(200517,.wr),(200516,.wr),(200515,.wr)]⟩
def w5 (l_0 l_1:Int) (t:Tm) (b9_1:Int) (r2:List Cl) (v d:Int) (b9_4:List Tm) (v57:Int):St UU:=⟨[(2,(iI v)),(3,(iI d)),(4,(pt 4)),(5,(pt 5)),(8,(pt 8)),(9,(pt 9)),(55,(sT t.kids)),(56,(.int .i64 (t.kids.length:Int))),(57,(iI v57))],[(4,.cells [(iI l_0),(iI l_1)]),(5,bT t),(8,.cells [(iI 0),(iI 0),(.str ByteArray.empty),(.own 200515 0),(.own 200516 0),(.own 200517 0)]),(9,.cells [(iI t.kind),(iI b9_1),(.str t.name),(sC r2),(.own 200580 0),(.own 200581 0)])],[(200581,⟨0,ET.B,([]:List (Br Tm))⟩),(200580,⟨0,ET.T,b9_4⟩),(200517,⟨0,ET.B,([]:List (Br Tm))⟩),(200516,⟨0,ET.T,([]:List Tm)⟩),(200515,⟨0,ET.C,([]:List Cl)⟩)],[(200581,.wr),(200580,.wr),(200517,.wr),(200516,.wr),(200515,.wr)]⟩
def oU (l_0 l_1:Int) (t:Tm) (b9_1:Int) (r2:List Cl) (b9_4:List Tm) (v d:Int) (b9_5:List (Br Tm)) (more14 v90:Int):St UU:=⟨[(2,(iI v)),(3,(iI d)),(4,(pt 4)),(8,(pt 8)),(9,(pt 9)),(14,(iI more14)),(88,(sB t.sys)),(89,(.int .i64 (t.sys.length:Int))),(90,(iI v90))],[(4,.cells [(iI l_0),(iI l_1)]),(8,.cells [(iI 0),(iI 0),(.str ByteArray.empty),(.own 200515 0),(.own 200516 0),(.own 200517 0)]),(9,.cells [(iI t.kind),(iI b9_1),(.str t.name),(sC r2),(.own 200580 0),(.own 200581 0)])],[(200581,⟨0,ET.B,b9_5⟩),(200580,⟨0,ET.T,b9_4⟩),(200517,⟨0,ET.B,([]:List (Br Tm))⟩),(200516,⟨0,ET.T,([]:List Tm)⟩),(200515,⟨0,ET.C,([]:List Cl)⟩)],[(200581,.wr),(200580,.wr),(200517,.wr),(200516,.wr),(200515,.wr)]⟩
def CL (r12:List Cl) (l_0 l_1:Int) (t:Tm) (b9_1:Int) (r2:List Cl) (b9_4:List Tm) (b9_5:List (Br Tm)) (x10:(Br Tm)) (more14 v d v90:Int) (b17_1:List Tm) (v103:Int):St UU:=⟨[(2,(iI v)),(3,(iI d)),(4,(pt 4)),(8,(pt 8)),(9,(pt 9)),(14,(iI more14)),(17,(pt 17)),(88,(sB t.sys)),(89,(.int .i64 (t.sys.length:Int))),(90,(iI v90)),(101,(sT x10.kids)),(102,(.int .i64 (x10.kids.length:Int))),(103,(iI v103))],[(4,.cells [(iI l_0),(iI l_1)]),(8,.cells [(iI 0),(iI 0),(.str ByteArray.empty),(.own 200515 0),(.own 200516 0),(.own 200517 0)]),(9,.cells [(iI t.kind),(iI b9_1),(.str t.name),(sC r2),(.own 200580 0),(.own 200581 0)]),(17,.cells [(sC r12),(.own 201089 0)])],[(201089,⟨0,ET.T,b17_1⟩),(200581,⟨0,ET.B,b9_5⟩),(200580,⟨0,ET.T,b9_4⟩),(200517,⟨0,ET.B,([]:List (Br Tm))⟩),(200516,⟨0,ET.T,([]:List Tm)⟩),(200515,⟨0,ET.C,([]:List Cl)⟩)],[(201089,.wr),(200581,.wr),(200580,.wr),(200517,.wr),(200516,.wr),(200515,.wr)]⟩
section
variable {S:Type} (hd:eC S) (k:Nat) (l_0 l_1:Int) (t:Tm) (v d:Int) (κ:Out UU→Option S)
theorem KJ (r12 b9_1 r2 b9_4 b9_5 x10 more14 v90 κ2): ∀n b17_1 v103,(gR hd k).lp κ 20 [κ2] n (CL r12 l_0 l_1 t b9_1 r2 b9_4 b9_5 x10 more14 v d v90 b17_1 v103)=jt hd k (dJ κ) (fun b9_5 more14 v90=>κ2 (oU l_0 l_1 t b9_1 r2 b9_4 v d b9_5 more14 v90)) r12 l_0 l_1 t b9_1 r2 b9_4 b9_5 x10 more14 v d v90 n b17_1 v103:=bL (qM hd k (dJ κ) r12 l_0 l_1 t b9_1 r2 b9_4 b9_5 x10 more14 v d v90 (fun b9_5 more14 v90=>κ2 (oU l_0 l_1 t b9_1 r2 b9_4 v d b9_5 more14 v90))) rfl (fun _=>rfl) fun r b17_1 v103=>by kernel_rfl
theorem KH (b9_1 r2 b9_4): ∀n b9_5 more14 v90,(gR hd k).lp κ 16 [] n (oU l_0 l_1 t b9_1 r2 b9_4 v d b9_5 more14 v90)=ef hd k (dJ κ) l_0 l_1 t b9_1 r2 b9_4 v d n b9_5 more14 v90:=kC (fun own=>nB hd k (dJ κ) l_0 l_1 t b9_1 r2 b9_4 v d (fun r12 b9_5 x10 more14 v90 b17_1 v103=>jt hd k (dJ κ) own r12 l_0 l_1 t b9_1 r2 b9_4 b9_5 x10 more14 v d v90 k b17_1 v103) own) rfl (fun _=>rfl) fun r b9_5 more14 v90=>Eq.trans (b:=nB hd k (dJ κ) l_0 l_1 t b9_1 r2 b9_4 v d (fun r12 b9_5 x10 more14 v90 b17_1 v103=>(gR hd k).lp κ 20 [r] k (CL r12 l_0 l_1 t b9_1 r2 b9_4 b9_5 x10 more14 v d v90 b17_1 v103)) (fun b9_5 more14 v90=>r (oU l_0 l_1 t b9_1 r2 b9_4 v d b9_5 more14 v90)) b9_5 more14 v90) (by kernel_rfl) (by simp only [KJ])
theorem KG (b9_1 r2): ∀n b9_4 v57,(gR hd k).lp κ 7 [] n (w5 l_0 l_1 t b9_1 r2 v d b9_4 v57)=ic hd k (dJ κ) l_0 l_1 t b9_1 r2 v d n b9_4 v57:=bL (fun own=>nA hd k (dJ κ) l_0 l_1 t b9_1 r2 v d (fun b9_4 b9_5 more14 v90=>ef hd k (dJ κ) l_0 l_1 t b9_1 r2 b9_4 v d k b9_5 more14 v90) own) rfl (fun _=>rfl) fun r b9_4 v57=>Eq.trans (b:=nA hd k (dJ κ) l_0 l_1 t b9_1 r2 v d (fun b9_4 b9_5 more14 v90=>(gR hd k).lp κ 16 [] k (oU l_0 l_1 t b9_1 r2 b9_4 v d b9_5 more14 v90)) (fun b9_4 v57=>r (w5 l_0 l_1 t b9_1 r2 v d b9_4 v57)) b9_4 v57) (by kernel_rfl) (by simp only [KH])
theorem KF (r2): ∀n b9_1,(gR hd k).jn κ 1000006 [] n (CK l_0 l_1 t r2 v d b9_1)=oJ hd k (dJ κ) l_0 l_1 t r2 v d n b9_1:=BC (ve hd k (dJ κ) l_0 l_1 t r2 v d (fun b9_1 b9_4 v57=>ic hd k (dJ κ) l_0 l_1 t b9_1 r2 v d k b9_4 v57)) rfl (fun _=>rfl) (fun b9_1=>Eq.trans (b:=ve hd k (dJ κ) l_0 l_1 t r2 v d (fun b9_1 b9_4 v57=>(gR hd k).lp κ 7 [] k (w5 l_0 l_1 t b9_1 r2 v d b9_4 v57)) b9_1) (by kernel_rfl) (by simp only [KG]))
end
theorem ws {S:Type} (o:Obj) (ho:ae o): ∀k:Nat,Tl o 141 (tR (cZ k:eC S))
 |0=>iC fun l_0 l_1 t v d κ x h=>by cases h
 |k+1=>ai (gR (cZ k) k) ⟨lJ o ho k,ws o ho k,M1 o ho k,trivial⟩ Tryz.func141 (by kernel_rfl) fun l_0 l_1 t v d κ x h=>Eq.trans (b:=zm (cZ k) k (dJ κ) (fun r2 b9_1=>(gR (cZ k) k).jn κ 1000006 [] k (CK l_0 l_1 t r2 v d b9_1)) l_0 l_1 t v d) (by kernel_rfl) (Eq.trans (by simp only [KF];rfl) h)
def Em {S:Type} (k:Nat):Rw S:=af BL H9 fun c0 c1 c2 κ=>aa k (rX k c0 c1 c2) (Sc c0 c1 c2 κ)
def Ji {S:Type} (k:Nat):Fx S:=fp 10 [(141,tR (cZ k))] [] k Tryz.f142 3
theorem M2 {S:Type} (o:Obj) (ho:ae o) (k:Nat):Tl o 142 (Em k:Rw S):=ai (Ji k) ⟨ws o ho k,trivial⟩ Tryz.func142 (by kernel_rfl) fun c0 c1 c2 κ x h=>Eq.trans (by kernel_rfl) (ak h)
def Eo {S:Type} (k:Nat):Rw S:=af OT H9 fun t numbers c0 c1 c2 κ=>aa k (vL k t numbers c0 c1 c2) (tA c0 c1 c2 κ)
def uS {S:Type} (k:Nat):Fx S:=⟨⟨30,(fun _=>[]),(fun _=>false),.none,fun|6=>true|7=>true|_=>false⟩,[(91,mO k),(142,Em k)],[(5,⟨[(2,.none),(6,.none),(7,.none),(17,.none),(18,.none),(19,.none)],[(1000000,[.none]),(1000001,[.none,.none,.none,.none,.none,.none]),(1000002,[.none]),(5000006,[.none,.none,.none,some (320200387,true),some (320200388,true),some (320200389,true)]),(5000007,[.none])]⟩,aE 5 11)],k,Tryz.f139,false,[],3,some (ra 16 189 Tryz.f189 k)⟩
def CM (c0:Int) (c1:Tm) (c2:Int) (numbers:List Int) (v19:Int):St UU:=⟨[(2,(.func 142 [] [(pt 1000000),(pt 1000001),(pt 1000002)])),(6,(pt 5000006)),(7,(pt 5000007)),(17,(kV numbers .none)),(18,(.int .i64 (numbers.length:Int))),(19,(iI v19))],[(1000000,bI c0),(1000001,bT c1),(1000002,bI c2),(5000006,.cells [(iI 0),(iI 0),(.str ByteArray.empty),(.own 320200387 0),(.own 320200388 0),(.own 320200389 0)]),(5000007,bI 0)],[(320200389,⟨0,ET.B,([]:List (Br Tm))⟩),(320200388,⟨0,ET.T,([]:List Tm)⟩),(320200387,⟨0,ET.C,([]:List Cl)⟩)],[(320200389,.wr),(320200388,.wr),(320200387,.wr)]⟩
section
variable {S:Type} (k:Nat) (t:Tm) (numbers:List Int) (c0:Int) (c1:Tm) (c2:Int) (κ:Out UU→Option S)
theorem KK: ∀n v19,(uS k).lp κ 5 [] n (CM c0 c1 c2 numbers v19)=ko k (tA c0 c1 c2 κ) c0 c1 c2 numbers n v19:=eh (qK k (tA c0 c1 c2 κ) c0 c1 c2 numbers) rfl (fun _=>rfl) fun r v19=>by kernel_rfl
end
theorem M3 {S:Type} (o:Obj) (ho:ae o) (k:Nat):Tl o 139 (Eo k:Rw S):=HC (uS k) rfl (Al o Tryz.func189 (by kernel_rfl)) ⟨ow o ho k,M2 o ho k,trivial⟩ Tryz.func139 (by kernel_rfl) fun t numbers c0 c1 c2 κ x h=>Eq.trans (b:=zk k (tA c0 c1 c2 κ) (fun v19=>(uS k).lp κ 5 [] k (CM c0 c1 c2 numbers v19)) t numbers c0 c1 c2) (by kernel_rfl) (Eq.trans (by simp only [KK];rfl) (ak h))
def Ep {S:Type} (k:Nat):Rw S:=af sY xn fun t a_from a_by κ=>aa k (rW k t a_from a_by) (dK κ)
def Jj {S:Type} (k:Nat):Fx S:=fp 16 [(139,Eo k)] [] k Tryz.f93 0
theorem M4 {S:Type} (o:Obj) (ho:ae o) (k:Nat):Tl o 93 (Ep k:Rw S):=ai (Jj k) ⟨M3 o ho k,trivial⟩ Tryz.func93 (by kernel_rfl) fun t a_from a_by κ x h=>Eq.trans (by kernel_rfl) (ak h)
def pq {S:Type} (k:Nat):Rw S:=af sX xn fun s i κ=>aa k (gr k s i) (jC κ)
def Jk {S:Type} (k:Nat):Fx S:=fp 16 [(130,pk k)] [] k Tryz.f144 0
theorem sq {S:Type} (o:Obj) (ho:ae o) (k:Nat):Tl o 144 (pq k:Rw S):=ai (Jk k) ⟨sk o ho k,trivial⟩ Tryz.func144 (by kernel_rfl) fun s i κ x h=>Eq.trans (by kernel_rfl) (ak h)
def Er {S:Type} (k:Nat):Rw S:=af wA xn fun a_x κ=>aa k (As k a_x) (bm κ)
def Jl {S:Type} (k:Nat):Fx S:=fp 21 [] [] k Tryz.f191 0
theorem M5 {S:Type} (o:Obj) (ho:ae o) (k:Nat):Tl o 191 (Er k:Rw S):=ai (Jl k) trivial Tryz.func191 (by kernel_rfl) fun a_x κ x h=>Eq.trans (by kernel_rfl) (ak h)
def tU {S:Type} (k:Nat):Rw S:=af wA xn fun s κ=>aa k (iY k s) (bm κ)
def Jm {S:Type} (k:Nat):Fx S:=fp 6 [(191,Er k)] [] k Tryz.f143 0
theorem v_ {S:Type} (o:Obj) (ho:ae o) (k:Nat):Tl o 143 (tU k:Rw S):=ai (Jm k) ⟨M5 o ho k,trivial⟩ Tryz.func143 (by kernel_rfl) fun s κ x h=>Eq.trans (by kernel_rfl) (ak h)
def Es {S:Type} (k:Nat):Rw S:=af hZ xn fun i κ=>aa k (rA k i) (aI κ)
def Jn {S:Type} (k:Nat):Fx S:=fp 7 [(143,tU k),(144,pq k)] [] k Tryz.f94 0
theorem M6 {S:Type} (o:Obj) (ho:ae o) (k:Nat):Tl o 94 (Es k:Rw S):=ai (Jn k) ⟨v_ o ho k,sq o ho k,trivial⟩ Tryz.func94 (by kernel_rfl) fun i κ x h=>Eq.trans (by kernel_rfl) (ak h)
def Et {S:Type} (k:Nat):Rw S:=af BM xn fun t i a_r κ=>aa k (vG k t i a_r) (bm κ)
def Jo {S:Type} (k:Nat):Fx S:=fp 21 [(91,mO k),(94,Es k),(95,kQ k)] [] k Tryz.f56 0
theorem M7 {S:Type} (o:Obj) (ho:ae o) (k:Nat):Tl o 56 (Et k:Rw S):=ai (Jo k) ⟨ow o ho k,M6 o ho k,lK o ho k,trivial⟩ Tryz.func56 (by kernel_rfl) fun t i a_r κ x h=>Eq.trans (by kernel_rfl) (ak h)
def Eu {S:Type} (k:Nat):Rw S:=af BN pX fun c0 c1 κ=>aa k (vA k c0 c1) (Sd c0 c1 κ)
def Jp {S:Type} (k:Nat):Fx S:=fp 6 [] [] k Tryz.f101 2
theorem M8 {S:Type} (o:Obj) (ho:ae o) (k:Nat):Tl o 101 (Eu k:Rw S):=ai (Jp k) trivial Tryz.func101 (by kernel_rfl) fun c0 c1 κ x h=>Eq.trans (by kernel_rfl) (ak h)
def Ev {S:Type} (k:Nat):Rw S:=af OV pX fun c0 c1 κ=>aa k (vB k c0 c1) (Se c0 c1 κ)
def Jq {S:Type} (k:Nat):Fx S:=fp 6 [] [] k Tryz.f101 2
theorem M9 {S:Type} (o:Obj) (ho:ae o) (k:Nat):Tl o 101 (Ev k:Rw S):=ai (Jq k) trivial Tryz.func101 (by kernel_rfl) fun c0 c1 κ x h=>Eq.trans (by kernel_rfl) (ak h)
def Ew {S:Type} (k:Nat):Rw S:=af OW xn fun i a_r κ=>aa k (vz k i a_r) (Sf κ)
def Jr {S:Type} (k:Nat):Fx S:=fp 12 [(101,kL (oD BN pX) (Eu k) (Ev k))] [] k Tryz.f58 0
theorem M_ {S:Type} (o:Obj) (ho:ae o) (k:Nat):Tl o 58 (Ew k:Rw S):=ai (Jr k) ⟨pe (M8 o ho k) (M9 o ho k),trivial⟩ Tryz.func58 (by kernel_rfl) fun i a_r κ x h=>Eq.trans (by kernel_rfl) (ak h)
def pr {S:Type} (k:Nat):Rw S:=af sX xn fun s i κ=>aa k (fK k s i) (aI κ)
def Js {S:Type} (k:Nat):Fx S:=fp 15 [(130,pk k)] [] k Tryz.f103 0
theorem sr {S:Type} (o:Obj) (ho:ae o) (k:Nat):Tl o 103 (pr k:Rw S):=ai (Js k) ⟨sk o ho k,trivial⟩ Tryz.func103 (by kernel_rfl) fun s i κ x h=>Eq.trans (by kernel_rfl) (ak h)
def xO {S:Type} (k:Nat):Rw S:=af gA xn fun f κ=>aa k (nW k f) (mH κ)
def Jt {S:Type} (k:Nat):Fx S:=fp 5 [] [] k Tryz.f104 0
theorem AS {S:Type} (o:Obj) (ho:ae o) (k:Nat):Tl o 104 (xO k:Rw S):=ai (Jt k) trivial Tryz.func104 (by kernel_rfl) fun f κ x h=>Eq.trans (by kernel_rfl) (ak h)
def Ey {S:Type} (k:Nat):Rw S:=af hZ xn fun i κ=>aa k (rH k i) (aI κ)
def Ju {S:Type} (k:Nat):Fx S:=fp 7 [(143,tU k),(144,pq k)] [] k Tryz.f158 0
theorem Na {S:Type} (o:Obj) (ho:ae o) (k:Nat):Tl o 158 (Ey k:Rw S):=ai (Ju k) ⟨v_ o ho k,sq o ho k,trivial⟩ Tryz.func158 (by kernel_rfl) fun i κ x h=>Eq.trans (by kernel_rfl) (ak h)
def xQ {S:Type} (k:Nat):Rw S:=af sW xn fun c κ=>aa k (n4 k c) (Sg κ)
def Jw {S:Type} (k:Nat):Fx S:=fp 8 [(132,xJ k)] [] k Tryz.f200 0
theorem AU {S:Type} (o:Obj) (ho:ae o) (k:Nat):Tl o 200 (xQ k:Rw S):=ai (Jw k) ⟨AN o ho k,trivial⟩ Tryz.func200 (by kernel_rfl) fun c κ x h=>Eq.trans (by kernel_rfl) (ak h)
def Ez {S:Type} (k:Nat):Rw S:=af OX xn fun l κ=>aa k (rJ k l) (mH κ)
def uT {S:Type} (k:Nat):Fx S:=fp 29 [(200,xQ k)] [(3,⟨[(1,.none),(5,some (100005,true)),(10,.none),(11,.none),(12,.none)],[]⟩,aE 5 11)] k Tryz.f199 0
def CQ (l:List Cl) (v12:Int) (out5:List Cl):St UU:=⟨[(1,(.func 200 [] [])),(5,(.own 100005 0)),(10,(sC l)),(11,(.int .i64 (l.length:Int))),(12,(iI v12))],[],[(100005,⟨0,ET.C,out5⟩)],[(100005,.wr)]⟩
section
variable {S:Type} (k:Nat) (l:List Cl) (κ:Out UU→Option S)
theorem KR: ∀n v12 out5,(uT k).lp κ 3 [] n (CQ l v12 out5)=lY k (mH κ) l n v12 out5:=bL (qv k (mH κ) l) rfl (fun _=>rfl) fun r v12 out5=>by kernel_rfl
end
theorem Nb {S:Type} (o:Obj) (ho:ae o) (k:Nat):Tl o 199 (Ez k:Rw S):=ai (uT k) ⟨AU o ho k,trivial⟩ Tryz.func199 (by kernel_rfl) fun l κ x h=>Eq.trans (b:=y6 k (mH κ) (fun v12 out5=>(uT k).lp κ 3 [] k (CQ l v12 out5)) l) (by kernel_rfl) (Eq.trans (by simp only [KR];rfl) (ak h))
def xR {S:Type} (k:Nat):Rw S:=af gA xn fun f κ=>aa k (n1 k f) (aY κ)
def Jx {S:Type} (k:Nat):Fx S:=fp 12 [(95,kQ k),(100,gK k),(199,Ez k)] [] k Tryz.f159 0
theorem AV {S:Type} (o:Obj) (ho:ae o) (k:Nat):Tl o 159 (xR k:Rw S):=ai (Jx k) ⟨lK o ho k,g5 o ho k,Nb o ho k,trivial⟩ Tryz.func159 (by kernel_rfl) fun f κ x h=>Eq.trans (by kernel_rfl) (ak h)
def EA {S:Type} (k:Nat):Rw S:=af wB pW fun b c0 κ=>aa k (rK k b c0) (Sh c0 κ)
def Jy {S:Type} (k:Nat):Fx S:=fp 11 [(193,tO k),(200,xQ k)] [] k Tryz.f201 1
theorem Nc {S:Type} (o:Obj) (ho:ae o) (k:Nat):Tl o 201 (EA k:Rw S):=ai (Jy k) ⟨vY o ho k,AU o ho k,trivial⟩ Tryz.func201 (by kernel_rfl) fun b c0 κ x h=>Eq.trans (by kernel_rfl) (ak h)
def EB {S:Type} (k:Nat):Rw S:=af OY pW fun l c0 κ=>aa k (rI k l c0) (tB c0 κ)
def uU {S:Type} (k:Nat):Fx S:=fp 29 [(201,EA k)] [(3,⟨[(1,.none),(5,some (100005,true)),(10,.none),(11,.none),(12,.none)],[(1000000,[.none,.none])]⟩,aE 5 11)] k Tryz.f199 1
def CR (c0:Cl) (l:List Cl) (v12:Int) (out5:List Cl):St UU:=⟨[(1,(.func 201 [] [(pt 1000000)])),(5,(.own 100005 0)),(10,(sC l)),(11,(.int .i64 (l.length:Int))),(12,(iI v12))],[(1000000,bC c0)],[(100005,⟨0,ET.C,out5⟩)],[(100005,.wr)]⟩
section
variable {S:Type} (k:Nat) (l:List Cl) (c0:Cl) (κ:Out UU→Option S)
theorem KS: ∀n v12 out5,(uU k).lp κ 3 [] n (CR c0 l v12 out5)=lX k (tB c0 κ) c0 l n v12 out5:=bL (qu k (tB c0 κ) c0 l) rfl (fun _=>rfl) fun r v12 out5=>by kernel_rfl
end
theorem Nd {S:Type} (o:Obj) (ho:ae o) (k:Nat):Tl o 199 (EB k:Rw S):=ai (uU k) ⟨Nc o ho k,trivial⟩ Tryz.func199 (by kernel_rfl) fun l c0 κ x h=>Eq.trans (b:=yZ k (tB c0 κ) (fun v12 out5=>(uU k).lp κ 3 [] k (CR c0 l v12 out5)) l c0) (by kernel_rfl) (Eq.trans (by simp only [KS];rfl) (ak h))
def EC {S:Type} (k:Nat):Rw S:=af kh xn fun f g κ=>aa k (lu k f g) (aY κ)
def uV {S:Type} (k:Nat):Fx S:=fp 25 [(100,gK k),(199,EB k)] [(3,⟨[(1,.none),(6,some (100006,true)),(9,.none),(10,.none),(11,.none)],[]⟩,aE 5 11)] k Tryz.f160 0
def CS (g f:List Cl) (v11:Int) (out6:List Cl):St UU:=⟨[(1,(sC g)),(6,(.own 100006 0)),(9,(sC f)),(10,(.int .i64 (f.length:Int))),(11,(iI v11))],[],[(100006,⟨0,ET.C,out6⟩)],[(100006,.wr)]⟩
section
variable {S:Type} (k:Nat) (f g:List Cl) (κ:Out UU→Option S)
theorem KT: ∀n v11 out6,(uV k).lp κ 3 [] n (CS g f v11 out6)=lZ k (aY κ) g f n v11 out6:=bL (qw k (aY κ) g f) rfl (fun _=>rfl) fun r v11 out6=>by kernel_rfl
end
theorem Nf {S:Type} (o:Obj) (ho:ae o) (k:Nat):Tl o 160 (EC k:Rw S):=ai (uV k) ⟨g5 o ho k,Nd o ho k,trivial⟩ Tryz.func160 (by kernel_rfl) fun f g κ x h=>Eq.trans (b:=y7 k (aY κ) (fun v11 out6=>(uV k).lp κ 3 [] k (CS g f v11 out6)) f g) (by kernel_rfl) (Eq.trans (by simp only [KT];rfl) (ak h))
def xS {S:Type} (k:Nat):Rw S:=af cn xn fun κ=>aa k (n7 k) (mH κ)
def Jz {S:Type} (k:Nat):Fx S:=fp 3 [] [] k Tryz.f20 0
theorem AW {S:Type} (o:Obj) (ho:ae o) (k:Nat):Tl o 20 (xS k:Rw S):=ai (Jz k) trivial Tryz.func20 (by kernel_rfl) fun κ x h=>Eq.trans (by kernel_rfl) (ak h)
def ED {S:Type} (k:Nat):Rw S:=af sW xn fun c κ=>aa k (rS k c) (aY κ)
def ni {S:Type} (k:Nat):Fx S:=fp 43 [(100,gK k),(144,pq k),(224,ye)] [(3,⟨[(1,.none),(4,some (100004,true)),(11,.none),(12,.none),(13,.none)],[(1,[.none,.none])]⟩,aE 5 11),(8,⟨[(4,some (100004,true)),(26,.none),(27,.none),(28,.none)],[]⟩,aE 6 23)] k Tryz.f198 0
def w8 (c:Cl) (r1:List Int) (v13:Int) (out4:List Cl):St UU:=⟨[(1,(pt 1)),(4,(.own 100004 0)),(11,(kV r1 .none)),(12,(.int .i64 (r1.length:Int))),(13,(iI v13))],[(1,bC c)],[(100004,⟨0,ET.C,out4⟩)],[(100004,.wr)]⟩
def CT (r5:List Int) (v28:Int) (out4':List Cl):St UU:=⟨[(4,(.own 100004 0)),(26,(kV r5 .none)),(27,(.int .i64 (r5.length:Int))),(28,(iI v28))],[],[(100004,⟨0,ET.C,out4'⟩)],[(100004,.wr)]⟩
section
variable {S:Type} (k:Nat) (c:Cl) (κ:Out UU→Option S)
theorem KV (r5): ∀n v28 out4',(ni k).lp κ 8 [] n (CT r5 v28 out4')=km k (aY κ) r5 n v28 out4':=bL (qD k (aY κ) r5) rfl (fun _=>rfl) fun r v28 out4'=>by kernel_rfl
theorem KU (r1): ∀n v13 out4,(ni k).lp κ 3 [] n (w8 c r1 v13 out4)=mb k (aY κ) c r1 n v13 out4:=bL (fun own=>nx k (aY κ) c r1 (fun r5 v28 out4'=>km k (aY κ) r5 k v28 out4') own) rfl (fun _=>rfl) fun r v13 out4=>Eq.trans (b:=nx k (aY κ) c r1 (fun r5 v28 out4'=>(ni k).lp κ 8 [] k (CT r5 v28 out4')) (fun v13 out4=>r (w8 c r1 v13 out4)) v13 out4) (by kernel_rfl) (by simp only [KV])
end
theorem Ng {S:Type} (o:Obj) (ho:ae o) (k:Nat):Tl o 198 (ED k:Rw S):=ai (ni k) ⟨g5 o ho k,sq o ho k,Uu o ho,trivial⟩ Tryz.func198 (by kernel_rfl) fun c κ x h=>Eq.trans (b:=zf k (aY κ) (fun r1 v13 out4=>(ni k).lp κ 3 [] k (w8 c r1 v13 out4)) c) (by kernel_rfl) (Eq.trans (by simp only [KU];rfl) (ak h))
def xU {S:Type} (k:Nat):Rw S:=af kh xn fun f g κ=>aa k (gW k f g) (aY κ)
def nj {S:Type} (k:Nat):Fx S:=fp 35 [(100,gK k),(193,tO k)] [(3,⟨[(1,.none),(6,some (100006,true)),(11,.none),(12,.none),(13,.none)],[]⟩,aE 5 11),(6,⟨[(1,.none),(6,some (100006,true)),(8,.none),(11,.none),(12,.none),(13,.none),(17,.none),(18,.none),(19,.none)],[(8,[.none,.none])]⟩,aE 13 3275)] k Tryz.f155 0
def oX (g f:List Cl) (v13:Int) (out6:List Cl):St UU:=⟨[(1,(sC g)),(6,(.own 100006 0)),(11,(sC f)),(12,(.int .i64 (f.length:Int))),(13,(iI v13))],[],[(100006,⟨0,ET.C,out6⟩)],[(100006,.wr)]⟩
def CU (x1:Cl) (g f:List Cl) (v13:Int) (v19:Int) (out6':List Cl):St UU:=⟨[(1,(sC g)),(6,(.own 100006 0)),(8,(pt 8)),(11,(sC f)),(12,(.int .i64 (f.length:Int))),(13,(iI v13)),(17,(sC g)),(18,(.int .i64 (g.length:Int))),(19,(iI v19))],[(8,bC x1)],[(100006,⟨0,ET.C,out6'⟩)],[(100006,.wr)]⟩
section
variable {S:Type} (k:Nat) (f g:List Cl) (κ:Out UU→Option S)
theorem KX (x1 v13 κ0): ∀n v19 out6',(nj k).lp κ 6 [κ0] n (CU x1 g f v13 v19 out6')=kl k (aY κ) (fun v13 out6=>κ0 (oX g f v13 out6)) x1 g f v13 n v19 out6':=bL (qC k (aY κ) x1 g f v13 (fun v13 out6=>κ0 (oX g f v13 out6))) rfl (fun _=>rfl) fun r v19 out6'=>by kernel_rfl
theorem KW: ∀n v13 out6,(nj k).lp κ 3 [] n (oX g f v13 out6)=js k (aY κ) g f n v13 out6:=bL (fun own=>nw k (aY κ) g f (fun x1 v13 v19 out6'=>kl k (aY κ) own x1 g f v13 k v19 out6') own) rfl (fun _=>rfl) fun r v13 out6=>Eq.trans (b:=nw k (aY κ) g f (fun x1 v13 v19 out6'=>(nj k).lp κ 6 [r] k (CU x1 g f v13 v19 out6')) (fun v13 out6=>r (oX g f v13 out6)) v13 out6) (by kernel_rfl) (by simp only [KX])
end
theorem AX {S:Type} (o:Obj) (ho:ae o) (k:Nat):Tl o 155 (xU k:Rw S):=ai (nj k) ⟨g5 o ho k,vY o ho k,trivial⟩ Tryz.func155 (by kernel_rfl) fun f g κ x h=>Eq.trans (b:=ze k (aY κ) (fun v13 out6=>(nj k).lp κ 3 [] k (oX g f v13 out6)) f g) (by kernel_rfl) (Eq.trans (by simp only [KW];rfl) (ak h))
def EE {S:Type} (k:Nat):Rw S:=af OZ xn fun a_have c κ=>aa k (rR k a_have c) (aY κ)
def JA {S:Type} (k:Nat):Fx S:=fp 21 [(155,xU k),(198,ED k)] [] k Tryz.f197 0
theorem Nh {S:Type} (o:Obj) (ho:ae o) (k:Nat):Tl o 197 (EE k:Rw S):=ai (JA k) ⟨AX o ho k,Ng o ho k,trivial⟩ Tryz.func197 (by kernel_rfl) fun a_have c κ x h=>Eq.trans (by kernel_rfl) (ak h)
def EG {S:Type} (k:Nat):Rw S:=af O0 xn fun l a_from κ=>aa k (vJ k l a_from) (aY κ)
def uW {S:Type} (k:Nat):Fx S:=fp 33 [(197,EE k)] [(2,bG [1,2,13,14,15] [],aE 4 5)] k Tryz.f97 0
def CV (l:List Cl) (v1:List Cl) (v15:Int):St UU:=⟨[(1,(sC v1)),(2,(.func 197 [] [])),(13,(sC l)),(14,(.int .i64 (l.length:Int))),(15,(iI v15))],[],[],[]⟩
section
variable {S:Type} (k:Nat) (l a_from:List Cl) (κ:Out UU→Option S)
theorem KY: ∀n v1 v15,(uW k).lp κ 2 [] n (CV l v1 v15)=l9 k (aY κ) l n v1 v15:=bL (qA k (aY κ) l) rfl (fun _=>rfl) fun r v1 v15=>by kernel_rfl
end
theorem Nj {S:Type} (o:Obj) (ho:ae o) (k:Nat):Tl o 97 (EG k:Rw S):=ai (uW k) ⟨Nh o ho k,trivial⟩ Tryz.func97 (by kernel_rfl) fun l a_from κ x h=>Eq.trans (b:=zc k (aY κ) (fun v1 v15=>(uW k).lp κ 2 [] k (CV l v1 v15)) l a_from) (by kernel_rfl) (Eq.trans (by simp only [KY];rfl) (ak h))
def xV {S:Type} (k:Nat):Rw S:=af gA xn fun f κ=>aa k (lv k f) (aY κ)
def JC {S:Type} (k:Nat):Fx S:=fp 9 [(20,xS k),(97,EG k)] [] k Tryz.f156 0
theorem AY {S:Type} (o:Obj) (ho:ae o) (k:Nat):Tl o 156 (xV k:Rw S):=ai (JC k) ⟨AW o ho k,Nj o ho k,trivial⟩ Tryz.func156 (by kernel_rfl) fun f κ x h=>Eq.trans (by kernel_rfl) (ak h)
def EH {S:Type} (k:Nat):Rw S:=af gA xn fun f κ=>aa k (rN k f) (aY κ)
def JD {S:Type} (k:Nat):Fx S:=fp 15 [(96,tQ k),(156,xV k)] [] k Tryz.f202 0
theorem Nk {S:Type} (o:Obj) (ho:ae o) (k:Nat):Tl o 202 (EH k:Rw S):=ai (JD k) ⟨v6 o ho k,AY o ho k,trivial⟩ Tryz.func202 (by kernel_rfl) fun f κ x h=>Eq.trans (by kernel_rfl) (ak h)
def EI {S:Type} (k:Nat):Rw S:=af gA xn fun f κ=>aa k (rF k f) (aY κ)
def JE {S:Type} (k:Nat):Fx S:=fp 18 [(159,xR k),(202,EH k)] [] k Tryz.f161 0
theorem Nl {S:Type} (o:Obj) (ho:ae o) (k:Nat):Tl o 161 (EI k:Rw S):=ai (JE k) ⟨AV o ho k,Nk o ho k,trivial⟩ Tryz.func161 (by kernel_rfl) fun f κ x h=>Eq.trans (by kernel_rfl) (ak h)
def EJ {S:Type} (k:Nat):Rw S:=af BO xn fun f i a_r κ=>aa k (rG k f i a_r) (aY κ)
def nk {S:Type} (k:Nat):Fx S:=fp 92 [(82,tP k),(84,po k),(95,kQ k),(103,pr k),(158,Ey k),(159,xR k),(160,EC k),(161,EI k),(162,xN k)] [(5,bG [1,2,8,27,28,29] [],aE 6 23),(1000018,bG [1,2,8,11,13,27,28,29] [],aE 16 63895)] k Tryz.f106 0
def oY (i:Int) (a_r f:List Cl) (v29:Int) (v8:List Cl):St UU:=⟨[(1,(iI i)),(2,(sC a_r)),(8,(sC v8)),(27,(sC f)),(28,(.int .i64 (f.length:Int))),(29,(iI v29))],[],[],[]⟩
def CW (i:Int) (a_r f:List Cl) (v29:Int) (v8:List Cl) (g11:List Cl) (v13:Int):St UU:=⟨[(1,(iI i)),(2,(sC a_r)),(8,(sC v8)),(11,(sC g11)),(13,(iI v13)),(27,(sC f)),(28,(.int .i64 (f.length:Int))),(29,(iI v29))],[],[],[]⟩
section
variable {S:Type} (k:Nat) (f:List Cl) (i:Int) (a_r:List Cl) (κ:Out UU→Option S)
theorem K0 (v29 v8 κ0): ∀n g11 v13,(nk k).jn κ 1000018 [κ0] n (CW i a_r f v29 v8 g11 v13)=lW k (aY κ) (fun v29 v8=>κ0 (oY i a_r f v29 v8)) i a_r f v29 v8 n g11 v13:=Oz (qr k (aY κ) i a_r f v29 v8 (fun v29 v8=>κ0 (oY i a_r f v29 v8))) rfl (fun _=>rfl) (fun g11 v13=>by kernel_rfl)
theorem KZ: ∀n v29 v8,(nk k).lp κ 5 [] n (oY i a_r f v29 v8)=jr k (aY κ) i a_r f n v29 v8:=bL (fun own=>nu k (aY κ) i a_r f (fun v29 v8 g11 v13=>lW k (aY κ) own i a_r f v29 v8 k g11 v13) own) rfl (fun _=>rfl) fun r v29 v8=>Eq.trans (b:=nu k (aY κ) i a_r f (fun v29 v8 g11 v13=>(nk k).jn κ 1000018 [r] k (CW i a_r f v29 v8 g11 v13)) (fun v29 v8=>r (oY i a_r f v29 v8)) v29 v8) (by kernel_rfl) (by simp only [K0])
end
theorem Nm {S:Type} (o:Obj) (ho:ae o) (k:Nat):Tl o 106 (EJ k:Rw S):=ai (nk k) ⟨vZ o ho k,sn o ho k,lK o ho k,sr o ho k,Na o ho k,AV o ho k,Nf o ho k,Nl o ho k,AR o ho k,trivial⟩ Tryz.func106 (by kernel_rfl) fun f i a_r κ x h=>Eq.trans (b:=yY k (aY κ) (fun v29 v8=>(nk k).lp κ 5 [] k (oY i a_r f v29 v8)) f i a_r) (by kernel_rfl) (Eq.trans (by simp only [KZ];rfl) (ak h))
def xW {S:Type} (k:Nat):Rw S:=af wC U2 fun f depth c0 c1 κ=>aa k (nX k f depth c0 c1) (Si c0 c1 κ)
def JF {S:Type} (k:Nat):Fx S:=fp 38 [(38,pm k),(57,mQ k),(103,pr k),(104,xO k),(106,EJ k)] [] k Tryz.f102 3
theorem AZ {S:Type} (o:Obj) (ho:ae o) (k:Nat):Tl o 102 (xW k:Rw S):=ai (JF k) ⟨sm o ho k,oy o ho k,sr o ho k,AS o ho k,Nm o ho k,trivial⟩ Tryz.func102 (by kernel_rfl) fun f depth c0 c1 κ x h=>Eq.trans (by kernel_rfl) (ak h)
def EK {S:Type} (k:Nat):Rw S:=af hZ xn fun i κ=>aa k (rM k i) (aY κ)
def JG {S:Type} (k:Nat):Fx S:=fp 12 [(143,tU k),(144,pq k)] [] k Tryz.f153 0
theorem Nn {S:Type} (o:Obj) (ho:ae o) (k:Nat):Tl o 153 (EK k:Rw S):=ai (JG k) ⟨v_ o ho k,sq o ho k,trivial⟩ Tryz.func153 (by kernel_rfl) fun i κ x h=>Eq.trans (by kernel_rfl) (ak h)
def EM {S:Type} (k:Nat):Rw S:=af kh xn fun f g κ=>aa k (j7 k f g) (aY κ)
def JH {S:Type} (k:Nat):Fx S:=fp 14 [(100,gK k)] [] k Tryz.f157 0
theorem Np {S:Type} (o:Obj) (ho:ae o) (k:Nat):Tl o 157 (EM k:Rw S):=ai (JH k) ⟨g5 o ho k,trivial⟩ Tryz.func157 (by kernel_rfl) fun f g κ x h=>Eq.trans (by kernel_rfl) (ak h)
def EO {S:Type} (k:Nat):Rw S:=af O1 pX fun a_have c c0 c1 κ=>aa k (rP k a_have c c0 c1) (pi c0 c1 κ)
def JI {S:Type} (k:Nat):Fx S:=fp 63 [(82,tP k),(103,pr k),(155,xU k),(156,xV k),(157,EM k)] [] k Tryz.f154 2
theorem Nq {S:Type} (o:Obj) (ho:ae o) (k:Nat):Tl o 154 (EO k:Rw S):=ai (JI k) ⟨vZ o ho k,sr o ho k,AX o ho k,AY o ho k,Np o ho k,trivial⟩ Tryz.func154 (by kernel_rfl) fun a_have c c0 c1 κ x h=>Eq.trans (by kernel_rfl) (ak h)
def EP {S:Type} (k:Nat):Rw S:=af O3 pX fun l a_from c0 c1 κ=>aa k (vI k l a_from c0 c1) (pi c0 c1 κ)
def uX {S:Type} (k:Nat):Fx S:=fp 33 [(154,EO k)] [(2,bG [1,2,13,14,15] [(1000000,1),(1000001,1)],aE 4 5)] k Tryz.f97 2
def CX (c0:Int) (c1 l:List Cl) (v1:List Cl) (v15:Int):St UU:=⟨[(1,(sC v1)),(2,(.func 154 [] [(pt 1000000),(pt 1000001)])),(13,(sC l)),(14,(.int .i64 (l.length:Int))),(15,(iI v15))],[(1000000,bI c0),(1000001,.cells [(sC c1)])],[],[]⟩
section
variable {S:Type} (k:Nat) (l a_from:List Cl) (c0:Int) (c1:List Cl) (κ:Out UU→Option S)
theorem K3: ∀n v1 v15,(uX k).lp κ 2 [] n (CX c0 c1 l v1 v15)=l8 k (pi c0 c1 κ) c0 c1 l n v1 v15:=bL (qz k (pi c0 c1 κ) c0 c1 l) rfl (fun _=>rfl) fun r v1 v15=>by kernel_rfl
end
theorem Nr {S:Type} (o:Obj) (ho:ae o) (k:Nat):Tl o 97 (EP k:Rw S):=ai (uX k) ⟨Nq o ho k,trivial⟩ Tryz.func97 (by kernel_rfl) fun l a_from c0 c1 κ x h=>Eq.trans (b:=zb k (pi c0 c1 κ) (fun v1 v15=>(uX k).lp κ 2 [] k (CX c0 c1 l v1 v15)) l a_from c0 c1) (by kernel_rfl) (Eq.trans (by simp only [K3];rfl) (ak h))
def ER {S:Type} (k:Nat):Rw S:=af BO xn fun f i a_r κ=>aa k (rO k f i a_r) (aY κ)
def JK {S:Type} (k:Nat):Fx S:=fp 32 [(21,xK k),(96,tQ k),(97,EP k),(153,EK k)] [] k Tryz.f105 0
theorem Nt {S:Type} (o:Obj) (ho:ae o) (k:Nat):Tl o 105 (ER k:Rw S):=ai (JK k) ⟨AO o ho k,v6 o ho k,Nr o ho k,Nn o ho k,trivial⟩ Tryz.func105 (by kernel_rfl) fun f i a_r κ x h=>Eq.trans (by kernel_rfl) (ak h)
end
end Go.Proofs.YtapmagaejigpnaaGreatDoor
namespace Go.Proofs.YtapmagaejigpnaaGreatDoor
open Go PI
set_option linter.unusedVariables false
set_option maxRecDepth 100000
noncomputable section
def ES {S:Type} (k:Nat):Rw S:=af wC H_ fun f depth c0 c1 κ=>aa k (rB k f depth c0 c1) (Sj c0 c1 κ)
def JL {S:Type} (k:Nat):Fx S:=fp 38 [(38,pm k),(57,mQ k),(103,pr k),(104,xO k),(105,ER k)] [] k Tryz.f102 3
theorem Nu {S:Type} (o:Obj) (ho:ae o) (k:Nat):Tl o 102 (ES k:Rw S):=ai (JL k) ⟨sm o ho k,oy o ho k,sr o ho k,AS o ho k,Nt o ho k,trivial⟩ Tryz.func102 (by kernel_rfl) fun f depth c0 c1 κ x h=>Eq.trans (by kernel_rfl) (ak h)
def EU {S:Type} (k:Nat):Rw S:=af wD zP fun t depth c0 c1 κ=>aa k (rC k t depth c0 c1) (Sk c0 c1 κ)
def JM {S:Type} (k:Nat):Fx S:=fp 27 [(102,kL (oD wC H_) (ES k) (xW k))] [] k Tryz.f107 4
theorem Nv {S:Type} (o:Obj) (ho:ae o) (k:Nat):Tl o 107 (EU k:Rw S):=ai (JM k) ⟨pe (Nu o ho k) (AZ o ho k),trivial⟩ Tryz.func107 (by kernel_rfl) fun t depth c0 c1 κ x h=>Eq.trans (by kernel_rfl) (ak h)
def xX {S:Type} (k:Nat):Rw S:=af BP U3 fun i c0 κ=>aa k (nY k i c0) (Sl c0 κ)
def JN {S:Type} (k:Nat):Fx S:=fp 14 [(110,kP k)] [] k Tryz.f109 1
theorem A0 {S:Type} (o:Obj) (ho:ae o) (k:Nat):Tl o 109 (xX k:Rw S):=ai (JN k) ⟨lJ o ho k,trivial⟩ Tryz.func109 (by kernel_rfl) fun i c0 κ x h=>Eq.trans (by kernel_rfl) (ak h)
def xY {S:Type} (k:Nat):Rw S:=af BP dP fun p c0 κ=>aa k (nZ k p c0) (Sm c0 κ)
def JO {S:Type} (k:Nat):Fx S:=fp 5 [] [] k Tryz.f111 1
theorem A1 {S:Type} (o:Obj) (ho:ae o) (k:Nat):Tl o 111 (xY k:Rw S):=ai (JO k) trivial Tryz.func111 (by kernel_rfl) fun p c0 κ x h=>Eq.trans (by kernel_rfl) (ak h)
def mR {S:Type} (hd:cz S):Rw S:=af wD zP fun t depth c0 c1 κ=>hd t depth c0 c1 (tC c0 c1 κ)
def EV {S:Type} (hd:cz S) (k:Nat):Rw S:=af BQ Ia fun l depth c0 c1 c4 κ=>aa k (vE hd k l depth c0 c1 c4) (tD c0 c1 c4 κ)
def uZ {S:Type} (hd:cz S) (k:Nat):Fx S:=fp 42 [(59,mR hd),(111,xY k)] [(3,⟨[(2,.none),(3,.none),(4,.none),(10,some (100010,true)),(15,.none),(16,.none),(17,.none)],[(4,[.none,.none]),(1000000,[.none]),(1000001,[.none]),(1000002,[.none]),(1000003,[.none]),(1000004,[.none])]⟩,aE 5 11)] k Tryz.f108 5
def CZ (c0:Int) (c1:List Cl) (c4:Int) (l:List Tm) (depth:Int) (out10:List Tm) (v17:Int):St UU:=⟨[(2,(iI depth)),(3,(.func 111 [] [(pt 1000004)])),(4,(pt 4)),(10,(.own 100010 0)),(15,(sT l)),(16,(.int .i64 (l.length:Int))),(17,(iI v17))],[(4,.cells [(.func 102 [] [(pt 1000000),(pt 1000001),(pt 1000002)]),(.func 102 [] [(pt 1000000),(pt 1000001),(pt 1000003)])]),(1000000,bI c0),(1000001,.cells [(sC c1)]),(1000002,.cells [(.func 105 [] [])]),(1000003,.cells [(.func 106 [] [])]),(1000004,bI c4)],[(100010,⟨0,ET.T,out10⟩)],[(100010,.wr)]⟩
section
variable {S:Type} (hd:cz S) (k:Nat) (l:List Tm) (depth c0:Int) (c1:List Cl) (c4:Int) (κ:Out UU→Option S)
theorem K5: ∀n out10 v17,(uZ hd k).lp κ 3 [] n (CZ c0 c1 c4 l depth out10 v17)=jp hd k (tD c0 c1 c4 κ) c0 c1 c4 l depth n out10 v17:=bL (qk hd k (tD c0 c1 c4 κ) c0 c1 c4 l depth) rfl (fun _=>rfl) fun r out10 v17=>by kernel_rfl
end
theorem Nw {S:Type} (o:Obj) (ho:ae o) (hd:cz S) (Hd:Tl o 59 (mR hd)) (k:Nat):Tl o 108 (EV hd k:Rw S):=ai (uZ hd k) ⟨Hd,A1 o ho k,trivial⟩ Tryz.func108 (by kernel_rfl) fun l depth c0 c1 c4 κ x h=>Eq.trans (b:=yS hd k (tD c0 c1 c4 κ) (fun out10 v17=>(uZ hd k).lp κ 3 [] k (CZ c0 c1 c4 l depth out10 v17)) l depth c0 c1 c4) (by kernel_rfl) (Eq.trans (by simp only [K5];rfl) (ak h))
def EW {S:Type} (hd:cz S) (k:Nat):Rw S:=af O4 U4 fun l depth c0 c1 c4 κ=>aa k (vF hd k l depth c0 c1 c4) (tF c0 c1 c4 κ)
def u5 {S:Type} (hd:cz S) (k:Nat):Fx S:=fp 42 [(59,mR hd),(109,xX k)] [(3,⟨[(2,.none),(3,.none),(4,.none),(10,some (100010,true)),(15,.none),(16,.none),(17,.none)],[(4,[.none,.none]),(1000000,[.none]),(1000001,[.none]),(1000002,[.none]),(1000003,[.none]),(1000004,[.none,.none,.none,.none,.none,.none])]⟩,aE 5 11)] k Tryz.f108 5
def C0 (c0:Int) (c1:List Cl) (c4:Tm) (l:List Tm) (depth:Int) (out10:List Tm) (v17:Int):St UU:=⟨[(2,(iI depth)),(3,(.func 109 [] [(pt 1000004)])),(4,(pt 4)),(10,(.own 100010 0)),(15,(sT l)),(16,(.int .i64 (l.length:Int))),(17,(iI v17))],[(4,.cells [(.func 102 [] [(pt 1000000),(pt 1000001),(pt 1000002)]),(.func 102 [] [(pt 1000000),(pt 1000001),(pt 1000003)])]),(1000000,bI c0),(1000001,.cells [(sC c1)]),(1000002,.cells [(.func 105 [] [])]),(1000003,.cells [(.func 106 [] [])]),(1000004,bT c4)],[(100010,⟨0,ET.T,out10⟩)],[(100010,.wr)]⟩
section
variable {S:Type} (hd:cz S) (k:Nat) (l:List Tm) (depth c0:Int) (c1:List Cl) (c4:Tm) (κ:Out UU→Option S)
theorem K6: ∀n out10 v17,(u5 hd k).lp κ 3 [] n (C0 c0 c1 c4 l depth out10 v17)=jq hd k (tF c0 c1 c4 κ) c0 c1 c4 l depth n out10 v17:=bL (ql hd k (tF c0 c1 c4 κ) c0 c1 c4 l depth) rfl (fun _=>rfl) fun r out10 v17=>by kernel_rfl
end
theorem Nx {S:Type} (o:Obj) (ho:ae o) (hd:cz S) (Hd:Tl o 59 (mR hd)) (k:Nat):Tl o 108 (EW hd k:Rw S):=ai (u5 hd k) ⟨Hd,A0 o ho k,trivial⟩ Tryz.func108 (by kernel_rfl) fun l depth c0 c1 c4 κ x h=>Eq.trans (b:=yT hd k (tF c0 c1 c4 κ) (fun out10 v17=>(u5 hd k).lp κ 3 [] k (C0 c0 c1 c4 l depth out10 v17)) l depth c0 c1 c4) (by kernel_rfl) (Eq.trans (by simp only [K6];rfl) (ak h))
def uY {S:Type} (hd:cz S) (k:Nat):Fx S:=fp 98 [(102,xW k),(107,EU k),(108,kL (oD BQ Ia) (EV hd k) (EW hd k))] [(13,⟨[(2,.none),(3,.none),(6,.none),(8,.none),(10,.none),(53,.none),(54,.none),(55,.none)],[(3,[.none,.none]),(6,[.none,.none,.none,some (200387,true),some (200388,true),some (200389,true)]),(8,[.none,.none,.none,.none,.none,some (200517,true)]),(10,[.none]),(1000000,[.none]),(1000001,[.none]),(1000002,[.none]),(1000003,[.none])]⟩,aE 11 767)] k Tryz.f59 4
def CY (c0:Int) (c1:List Cl) (t:Tm) (r1:List Cl×Int) (r2:List Tm×Int) (depth:Int) (b10_0:Int) (b8_5:List (Br Tm)) (v55:Int):St UU:=⟨[(2,(iI depth)),(3,(pt 3)),(6,(pt 6)),(8,(pt 8)),(10,(pt 10)),(53,(sB t.sys)),(54,(.int .i64 (t.sys.length:Int))),(55,(iI v55))],[(3,.cells [(.func 102 [] [(pt 1000000),(pt 1000001),(pt 1000002)]),(.func 102 [] [(pt 1000000),(pt 1000001),(pt 1000003)])]),(6,.cells [(iI 0),(iI 0),(.str ByteArray.empty),(.own 200387 0),(.own 200388 0),(.own 200389 0)]),(8,.cells [(iI t.kind),(iI t.n),(.str t.name),(sC r1.1),(sT r2.1),(.own 200517 0)]),(10,bI b10_0),(1000000,bI c0),(1000001,.cells [(sC c1)]),(1000002,.cells [(.func 105 [] [])]),(1000003,.cells [(.func 106 [] [])])],[(200517,⟨0,ET.B,b8_5⟩),(200389,⟨0,ET.B,([]:List (Br Tm))⟩),(200388,⟨0,ET.T,([]:List Tm)⟩),(200387,⟨0,ET.C,([]:List Cl)⟩)],[(200517,.wr),(200389,.wr),(200388,.wr),(200387,.wr)]⟩
section
variable {S:Type} (hd:cz S) (k:Nat) (t:Tm) (depth c0:Int) (c1:List Cl) (κ:Out UU→Option S)
theorem K4 (r1 r2): ∀n b10_0 b8_5 v55,(uY hd k).lp κ 13 [] n (CY c0 c1 t r1 r2 depth b10_0 b8_5 v55)=eH hd k (tC c0 c1 κ) c0 c1 t r1 r2 depth n b10_0 b8_5 v55:=kC (qm hd k (tC c0 c1 κ) c0 c1 t r1 r2 depth) rfl (fun _=>rfl) fun r b10_0 b8_5 v55=>by kernel_rfl
end
theorem wt {S:Type} (o:Obj) (ho:ae o): ∀k:Nat,Tl o 59 (mR (dk k:cz S))
 |0=>iC fun t depth c0 c1 κ x h=>by cases h
 |k+1=>ai (uY (dk k) k) ⟨AZ o ho k,Nv o ho k,pe (Nw o ho (dk k) (wt o ho k) k) (Nx o ho (dk k) (wt o ho k) k),trivial⟩ Tryz.func59 (by kernel_rfl) fun t depth c0 c1 κ x h=>Eq.trans (b:=yW (dk k) k (tC c0 c1 κ) (fun r1 r2 b10_0 b8_5 v55=>(uY (dk k) k).lp κ 13 [] k (CY c0 c1 t r1 r2 depth b10_0 b8_5 v55)) t depth c0 c1) (by kernel_rfl) (Eq.trans (by simp only [K4];rfl) h)
def EX {S:Type} (k:Nat):Rw S:=af hZ xn fun i κ=>aa k (vw k i) (Sn κ)
def JP {S:Type} (k:Nat):Fx S:=fp 8 [] [] k Tryz.f60 0
theorem Ny {S:Type} (o:Obj) (ho:ae o) (k:Nat):Tl o 60 (EX k:Rw S):=ai (JP k) trivial Tryz.func60 (by kernel_rfl) fun i κ x h=>Eq.trans (by kernel_rfl) (ak h)
def EY {S:Type} (k:Nat):Rw S:=af sX xn fun s i κ=>aa k (lx k s i) (jC κ)
def JQ {S:Type} (k:Nat):Fx S:=fp 24 [(130,pk k),(163,xL k)] [] k Tryz.f113 0
theorem Nz {S:Type} (o:Obj) (ho:ae o) (k:Nat):Tl o 113 (EY k:Rw S):=ai (JQ k) ⟨sk o ho k,AP o ho k,trivial⟩ Tryz.func113 (by kernel_rfl) fun s i κ x h=>Eq.trans (by kernel_rfl) (ak h)
def xw {S:Type} (k:Nat):Rw S:=af O5 dP fun f depth c0 κ=>aa k (ls k f depth c0) (pj c0 κ)
def uA {S:Type} (k:Nat):Fx S:=fp 37 [(100,gK k),(113,EY k)] [(3,⟨[(1,.none),(2,.none),(7,some (100007,true)),(10,.none),(11,.none),(12,.none)],[(1000000,[.none])]⟩,aE 5 11)] k Tryz.f112 1
def Cf (c0 depth:Int) (f:List Cl) (v12:Int) (out7:List Cl):St UU:=⟨[(1,(iI depth)),(2,(pt 1000000)),(7,(.own 100007 0)),(10,(sC f)),(11,(.int .i64 (f.length:Int))),(12,(iI v12))],[(1000000,bI c0)],[(100007,⟨0,ET.C,out7⟩)],[(100007,.wr)]⟩
section
variable {S:Type} (k:Nat) (f:List Cl) (depth c0:Int) (κ:Out UU→Option S)
theorem J6: ∀n v12 out7,(uA k).lp κ 3 [] n (Cf c0 depth f v12 out7)=lV k (pj c0 κ) c0 depth f n v12 out7:=bL (qh k (pj c0 κ) c0 depth f) rfl (fun _=>rfl) fun r v12 out7=>by kernel_rfl
end
theorem AD {S:Type} (o:Obj) (ho:ae o) (k:Nat):Tl o 112 (xw k:Rw S):=ai (uA k) ⟨g5 o ho k,Nz o ho k,trivial⟩ Tryz.func112 (by kernel_rfl) fun f depth c0 κ x h=>Eq.trans (b:=yO k (pj c0 κ) (fun v12 out7=>(uA k).lp κ 3 [] k (Cf c0 depth f v12 out7)) f depth c0) (by kernel_rfl) (Eq.trans (by simp only [J6];rfl) (ak h))
def DA {S:Type} (k:Nat):Rw S:=af BR dP fun t depth c0 κ=>aa k (rD k t depth c0) (pj c0 κ)
def Ik {S:Type} (k:Nat):Fx S:=fp 27 [(112,xw k)] [] k Tryz.f107 1
theorem Mh {S:Type} (o:Obj) (ho:ae o) (k:Nat):Tl o 107 (DA k:Rw S):=ai (Ik k) ⟨AD o ho k,trivial⟩ Tryz.func107 (by kernel_rfl) fun t depth c0 κ x h=>Eq.trans (by kernel_rfl) (ak h)
def mI {S:Type} (hd:cA S):Rw S:=af BR dP fun t depth c0 κ=>hd t depth c0 (tG c0 κ)
def DB {S:Type} (hd:cA S) (k:Nat):Rw S:=af BS uu fun l depth c0 c1 κ=>aa k (vC hd k l depth c0 c1) (tH c0 c1 κ)
def uC {S:Type} (hd:cA S) (k:Nat):Fx S:=fp 42 [(59,mI hd),(111,xY k)] [(3,⟨[(2,.none),(3,.none),(4,.none),(10,some (100010,true)),(15,.none),(16,.none),(17,.none)],[(4,[.none,.none]),(1000000,[.none]),(1000001,[.none])]⟩,aE 5 11)] k Tryz.f108 2
def Ch (c0 c1:Int) (l:List Tm) (depth:Int) (out10:List Tm) (v17:Int):St UU:=⟨[(2,(iI depth)),(3,(.func 111 [] [(pt 1000001)])),(4,(pt 4)),(10,(.own 100010 0)),(15,(sT l)),(16,(.int .i64 (l.length:Int))),(17,(iI v17))],[(4,.cells [(.func 112 [] [(pt 1000000)]),(.func 112 [] [(pt 1000000)])]),(1000000,bI c0),(1000001,bI c1)],[(100010,⟨0,ET.T,out10⟩)],[(100010,.wr)]⟩
section
variable {S:Type} (hd:cA S) (k:Nat) (l:List Tm) (depth c0 c1:Int) (κ:Out UU→Option S)
theorem J8: ∀n out10 v17,(uC hd k).lp κ 3 [] n (Ch c0 c1 l depth out10 v17)=jm hd k (tH c0 c1 κ) c0 c1 l depth n out10 v17:=bL (qi hd k (tH c0 c1 κ) c0 c1 l depth) rfl (fun _=>rfl) fun r out10 v17=>by kernel_rfl
end
theorem Mi {S:Type} (o:Obj) (ho:ae o) (hd:cA S) (Hd:Tl o 59 (mI hd)) (k:Nat):Tl o 108 (DB hd k:Rw S):=ai (uC hd k) ⟨Hd,A1 o ho k,trivial⟩ Tryz.func108 (by kernel_rfl) fun l depth c0 c1 κ x h=>Eq.trans (b:=yQ hd k (tH c0 c1 κ) (fun out10 v17=>(uC hd k).lp κ 3 [] k (Ch c0 c1 l depth out10 v17)) l depth c0 c1) (by kernel_rfl) (Eq.trans (by simp only [J8];rfl) (ak h))
def DC {S:Type} (hd:cA S) (k:Nat):Rw S:=af O6 U5 fun l depth c0 c1 κ=>aa k (vD hd k l depth c0 c1) (tI c0 c1 κ)
def uD {S:Type} (hd:cA S) (k:Nat):Fx S:=fp 42 [(59,mI hd),(109,xX k)] [(3,⟨[(2,.none),(3,.none),(4,.none),(10,some (100010,true)),(15,.none),(16,.none),(17,.none)],[(4,[.none,.none]),(1000000,[.none]),(1000001,[.none,.none,.none,.none,.none,.none])]⟩,aE 5 11)] k Tryz.f108 2
def Ci (c0:Int) (c1:Tm) (l:List Tm) (depth:Int) (out10:List Tm) (v17:Int):St UU:=⟨[(2,(iI depth)),(3,(.func 109 [] [(pt 1000001)])),(4,(pt 4)),(10,(.own 100010 0)),(15,(sT l)),(16,(.int .i64 (l.length:Int))),(17,(iI v17))],[(4,.cells [(.func 112 [] [(pt 1000000)]),(.func 112 [] [(pt 1000000)])]),(1000000,bI c0),(1000001,bT c1)],[(100010,⟨0,ET.T,out10⟩)],[(100010,.wr)]⟩
section
variable {S:Type} (hd:cA S) (k:Nat) (l:List Tm) (depth c0:Int) (c1:Tm) (κ:Out UU→Option S)
theorem J9: ∀n out10 v17,(uD hd k).lp κ 3 [] n (Ci c0 c1 l depth out10 v17)=jo hd k (tI c0 c1 κ) c0 c1 l depth n out10 v17:=bL (qj hd k (tI c0 c1 κ) c0 c1 l depth) rfl (fun _=>rfl) fun r out10 v17=>by kernel_rfl
end
theorem Mj {S:Type} (o:Obj) (ho:ae o) (hd:cA S) (Hd:Tl o 59 (mI hd)) (k:Nat):Tl o 108 (DC hd k:Rw S):=ai (uD hd k) ⟨Hd,A0 o ho k,trivial⟩ Tryz.func108 (by kernel_rfl) fun l depth c0 c1 κ x h=>Eq.trans (b:=yR hd k (tI c0 c1 κ) (fun out10 v17=>(uD hd k).lp κ 3 [] k (Ci c0 c1 l depth out10 v17)) l depth c0 c1) (by kernel_rfl) (Eq.trans (by simp only [J9];rfl) (ak h))
def uB {S:Type} (hd:cA S) (k:Nat):Fx S:=fp 98 [(107,DA k),(108,kL (oD BS uu) (DB hd k) (DC hd k)),(112,xw k)] [(13,⟨[(2,.none),(3,.none),(6,.none),(8,.none),(10,.none),(53,.none),(54,.none),(55,.none)],[(3,[.none,.none]),(6,[.none,.none,.none,some (200387,true),some (200388,true),some (200389,true)]),(8,[.none,.none,.none,.none,.none,some (200517,true)]),(10,[.none]),(1000000,[.none])]⟩,aE 11 767)] k Tryz.f59 1
def Cg (c0:Int) (t:Tm) (r1:List Cl×Int) (r2:List Tm×Int) (depth:Int) (b10_0:Int) (b8_5:List (Br Tm)) (v55:Int):St UU:=⟨[(2,(iI depth)),(3,(pt 3)),(6,(pt 6)),(8,(pt 8)),(10,(pt 10)),(53,(sB t.sys)),(54,(.int .i64 (t.sys.length:Int))),(55,(iI v55))],[(3,.cells [(.func 112 [] [(pt 1000000)]),(.func 112 [] [(pt 1000000)])]),(6,.cells [(iI 0),(iI 0),(.str ByteArray.empty),(.own 200387 0),(.own 200388 0),(.own 200389 0)]),(8,.cells [(iI t.kind),(iI t.n),(.str t.name),(sC r1.1),(sT r2.1),(.own 200517 0)]),(10,bI b10_0),(1000000,bI c0)],[(200517,⟨0,ET.B,b8_5⟩),(200389,⟨0,ET.B,([]:List (Br Tm))⟩),(200388,⟨0,ET.T,([]:List Tm)⟩),(200387,⟨0,ET.C,([]:List Cl)⟩)],[(200517,.wr),(200389,.wr),(200388,.wr),(200387,.wr)]⟩
section
variable {S:Type} (hd:cA S) (k:Nat) (t:Tm) (depth c0:Int) (κ:Out UU→Option S)
theorem J7 (r1 r2): ∀n b10_0 b8_5 v55,(uB hd k).lp κ 13 [] n (Cg c0 t r1 r2 depth b10_0 b8_5 v55)=eI hd k (tG c0 κ) c0 t r1 r2 depth n b10_0 b8_5 v55:=kC (qn hd k (tG c0 κ) c0 t r1 r2 depth) rfl (fun _=>rfl) fun r b10_0 b8_5 v55=>by kernel_rfl
end
theorem wn {S:Type} (o:Obj) (ho:ae o): ∀k:Nat,Tl o 59 (mI (de k:cA S))
 |0=>iC fun t depth c0 κ x h=>by cases h
 |k+1=>ai (uB (de k) k) ⟨Mh o ho k,pe (Mi o ho (de k) (wn o ho k) k) (Mj o ho (de k) (wn o ho k) k),AD o ho k,trivial⟩ Tryz.func59 (by kernel_rfl) fun t depth c0 κ x h=>Eq.trans (b:=yX (de k) k (tG c0 κ) (fun r1 r2 b10_0 b8_5 v55=>(uB (de k) k).lp κ 13 [] k (Cg c0 t r1 r2 depth b10_0 b8_5 v55)) t depth c0) (by kernel_rfl) (Eq.trans (by simp only [J7];rfl) h)
def xx {S:Type} (k:Nat):Rw S:=af BM xn fun t i a_r κ=>aa k (lr k t i a_r) (dK κ)
def Il {S:Type} (k:Nat):Fx S:=fp 48 [(56,Et k),(57,mQ k),(58,Ew k),(59,kL (oD wD zP) (mR (dk k)) (mI (de k))),(60,EX k)] [] k Tryz.f19 0
theorem AE {S:Type} (o:Obj) (ho:ae o) (k:Nat):Tl o 19 (xx k:Rw S):=ai (Il k) ⟨M7 o ho k,oy o ho k,M_ o ho k,pe (wt o ho k) (wn o ho k),Ny o ho k,trivial⟩ Tryz.func19 (by kernel_rfl) fun t i a_r κ x h=>Eq.trans (by kernel_rfl) (ak h)
def tN {S:Type} (k:Nat):Rw S:=af O7 dP fun line a_r c0 κ=>aa k (fI k line a_r c0) (xt κ)
def Im {S:Type} (k:Nat):Fx S:=fp 44 [(19,xx k),(52,iq k),(85,io k),(93,Ep k)] [] k Tryz.f54 1
theorem vX {S:Type} (o:Obj) (ho:ae o) (k:Nat):Tl o 54 (tN k:Rw S):=ai (Im k) ⟨AE o ho k,je o ho k,jd o ho k,M4 o ho k,trivial⟩ Tryz.func54 (by kernel_rfl) fun line a_r c0 κ x h=>Eq.trans (by kernel_rfl) (ak h)
def DD {S:Type} (k:Nat):Rw S:=af BL Ic fun c0 c1 c2 κ=>aa k (rV k c0 c1 c2) (So c0 c1 c2 κ)
def Io {S:Type} (k:Nat):Fx S:=fp 11 [(141,tR (cZ k))] [] k Tryz.f140 3
theorem Mk {S:Type} (o:Obj) (ho:ae o) (k:Nat):Tl o 140 (DD k:Rw S):=ai (Io k) ⟨ws o ho k,trivial⟩ Tryz.func140 (by kernel_rfl) fun c0 c1 c2 κ x h=>Eq.trans (by kernel_rfl) (ak h)
def DE {S:Type} (k:Nat):Rw S:=af O8 Ic fun t numbers c0 c1 c2 κ=>aa k (vM k t numbers c0 c1 c2) (tJ c0 c1 c2 κ)
def uE {S:Type} (k:Nat):Fx S:=⟨⟨30,(fun _=>[]),(fun _=>false),.none,fun|6=>true|7=>true|_=>false⟩,[(91,mO k),(140,DD k)],[(5,⟨[(2,.none),(6,.none),(7,.none),(17,.none),(18,.none),(19,.none)],[(1000000,[.none]),(1000001,[.none]),(1000002,[.none,.none,.none,.none,.none,.none]),(5000006,[.none,.none,.none,some (320200387,true),some (320200388,true),some (320200389,true)]),(5000007,[.none])]⟩,aE 5 11)],k,Tryz.f139,false,[],3,some (ra 16 189 Tryz.f189 k)⟩
def Cj (c0 c1:Int) (c2:Tm) (numbers:List Int) (v19:Int):St UU:=⟨[(2,(.func 140 [] [(pt 1000000),(pt 1000001),(pt 1000002)])),(6,(pt 5000006)),(7,(pt 5000007)),(17,(kV numbers .none)),(18,(.int .i64 (numbers.length:Int))),(19,(iI v19))],[(1000000,bI c0),(1000001,bI c1),(1000002,bT c2),(5000006,.cells [(iI 0),(iI 0),(.str ByteArray.empty),(.own 320200387 0),(.own 320200388 0),(.own 320200389 0)]),(5000007,bI 0)],[(320200389,⟨0,ET.B,([]:List (Br Tm))⟩),(320200388,⟨0,ET.T,([]:List Tm)⟩),(320200387,⟨0,ET.C,([]:List Cl)⟩)],[(320200389,.wr),(320200388,.wr),(320200387,.wr)]⟩
section
variable {S:Type} (k:Nat) (t:Tm) (numbers:List Int) (c0 c1:Int) (c2:Tm) (κ:Out UU→Option S)
theorem J_: ∀n v19,(uE k).lp κ 5 [] n (Cj c0 c1 c2 numbers v19)=kq k (tJ c0 c1 c2 κ) c0 c1 c2 numbers n v19:=eh (qL k (tJ c0 c1 c2 κ) c0 c1 c2 numbers) rfl (fun _=>rfl) fun r v19=>by kernel_rfl
end
theorem Ml {S:Type} (o:Obj) (ho:ae o) (k:Nat):Tl o 139 (DE k:Rw S):=HC (uE k) rfl (Al o Tryz.func189 (by kernel_rfl)) ⟨ow o ho k,Mk o ho k,trivial⟩ Tryz.func139 (by kernel_rfl) fun t numbers c0 c1 c2 κ x h=>Eq.trans (b:=zl k (tJ c0 c1 c2 κ) (fun v19=>(uE k).lp κ 5 [] k (Cj c0 c1 c2 numbers v19)) t numbers c0 c1 c2) (by kernel_rfl) (Eq.trans (by simp only [J_];rfl) (ak h))
def DF {S:Type} (k:Nat):Rw S:=af sY xn fun t vars dims κ=>aa k (rU k t vars dims) (dK κ)
def Ip {S:Type} (k:Nat):Fx S:=fp 18 [(139,DE k)] [] k Tryz.f92 0
theorem Mm {S:Type} (o:Obj) (ho:ae o) (k:Nat):Tl o 92 (DF k:Rw S):=ai (Ip k) ⟨Ml o ho k,trivial⟩ Tryz.func92 (by kernel_rfl) fun t vars dims κ x h=>Eq.trans (by kernel_rfl) (ak h)
def mJ {S:Type} (k:Nat):Rw S:=af O9 dP fun t vars dims c0 κ=>aa k (bZ k t vars dims c0) (xt κ)
def Ir {S:Type} (k:Nat):Fx S:=fp 30 [(52,iq k),(85,io k),(92,DF k)] [] k Tryz.f51 1
theorem ot {S:Type} (o:Obj) (ho:ae o) (k:Nat):Tl o 51 (mJ k:Rw S):=ai (Ir k) ⟨je o ho k,jd o ho k,Mm o ho k,trivial⟩ Tryz.func51 (by kernel_rfl) fun t vars dims c0 κ x h=>Eq.trans (by kernel_rfl) (ak h)
def gJ {S:Type} (k:Nat):Rw S:=af O_ xn fun kind kids κ=>aa k (bh k kind kids) (Dv κ)
def Is {S:Type} (k:Nat):Fx S:=fx 8 (fun _=>[]) (fun _=>false) [] [] k Tryz.f50 true [] 0
theorem g4 {S:Type} (o:Obj) (ho:ae o) (k:Nat):Tl o 50 (gJ k:Rw S):=ai (Is k) trivial Tryz.func50 (by kernel_rfl) fun kind kids κ x h=>Eq.trans (by kernel_rfl) (ak h)
def mK {S:Type} (k:Nat):Rw S:=af wE dP fun t c0 κ=>aa k (cE k t c0) (Sq κ)
def It {S:Type} (k:Nat):Fx S:=fp 28 [(52,iq k),(85,io k),(91,mO k)] [] k Tryz.f55 1
theorem ou {S:Type} (o:Obj) (ho:ae o) (k:Nat):Tl o 55 (mK k:Rw S):=ai (It k) ⟨je o ho k,jd o ho k,ow o ho k,trivial⟩ Tryz.func55 (by kernel_rfl) fun t c0 κ x h=>Eq.trans (by kernel_rfl) (ak h)
def xy {S:Type} (k:Nat):Rw S:=af Pb xn fun line phi a a_end a_r κ=>aa k (nS k line phi a a_end a_r) (dK κ)
def Iu {S:Type} (k:Nat):Fx S:=fp 49 [(48,mP k),(50,gJ k),(51,mJ k),(53,xM k),(54,tN k),(55,mK k),(84,po k),(85,io k),(86,Ej k)] [] k Tryz.f41 0
theorem AF {S:Type} (o:Obj) (ho:ae o) (k:Nat):Tl o 41 (xy k:Rw S):=ai (Iu k) ⟨ox o ho k,g4 o ho k,ot o ho k,AQ o ho k,vX o ho k,ou o ho k,sn o ho k,jd o ho k,M0 o ho k,trivial⟩ Tryz.func41 (by kernel_rfl) fun line phi a a_end a_r κ x h=>Eq.trans (by kernel_rfl) (ak h)
def xz {S:Type} (k:Nat):Rw S:=af BT xn fun line phi a κ=>aa k (nR k line phi a) (dK κ)
def Iv {S:Type} (k:Nat):Fx S:=fp 17 [(41,xy k)] [] k Tryz.f11 0
theorem AG {S:Type} (o:Obj) (ho:ae o) (k:Nat):Tl o 11 (xz k:Rw S):=ai (Iv k) ⟨AF o ho k,trivial⟩ Tryz.func11 (by kernel_rfl) fun line phi a κ x h=>Eq.trans (by kernel_rfl) (ak h)
def xA {S:Type} (k:Nat):Rw S:=af BU xn fun sys κ=>aa k (ln k sys) (Dw κ)
def Iw {S:Type} (k:Nat):Fx S:=fx 8 (fun _=>[]) (fun _=>false) [(50,gJ k)] [] k Tryz.f49 true [] 0
theorem AH {S:Type} (o:Obj) (ho:ae o) (k:Nat):Tl o 49 (xA k:Rw S):=ai (Iw k) ⟨g4 o ho k,trivial⟩ Tryz.func49 (by kernel_rfl) fun sys κ x h=>Eq.trans (by kernel_rfl) (ak h)
def xB {S:Type} (k:Nat):Rw S:=af sU xn fun t a sys κ=>aa k (nQ k t a sys) (dK κ)
def uF {S:Type} (k:Nat):Fx S:=fp 76 [(48,mP k),(49,xA k),(50,gJ k),(51,mJ k),(52,iq k),(53,xM k),(54,tN k),(55,mK k)] [(4,⟨[(4,.none),(6,.none),(8,.none),(9,.none),(27,.none),(28,.none),(29,.none)],[(4,[.none,.none,.none,.none,.none,.none]),(6,[.none,.none,.none,some (200387,true),some (200388,true),some (200389,true)]),(9,[.none,.none,.none,some (200579,true),.none,some (200581,true)]),(19000,[.none])]⟩,aE 6 23)] k Tryz.f18 0
def Ck (a:Tm) (r5:Int×Int×ByteArray×List Tm) (sys:List (Br Tm)) (b19000_0:Int) (b9_5:List (Br Tm)) (v29:Int):St UU:=⟨[(4,(pt 4)),(6,(pt 6)),(8,(pt 19000)),(9,(pt 9)),(27,(sB sys)),(28,(.int .i64 (sys.length:Int))),(29,(iI v29))],[(4,bT a),(6,.cells [(iI 0),(iI 0),(.str ByteArray.empty),(.own 200387 0),(.own 200388 0),(.own 200389 0)]),(9,.cells [(iI r5.1),(iI r5.2.1),(.str r5.2.2.1),(.own 200579 0),(sT r5.2.2.2),(.own 200581 0)]),(19000,bI b19000_0)],[(200581,⟨0,ET.B,b9_5⟩),(200579,⟨0,ET.C,([]:List Cl)⟩),(200389,⟨0,ET.B,([]:List (Br Tm))⟩),(200388,⟨0,ET.T,([]:List Tm)⟩),(200387,⟨0,ET.C,([]:List Cl)⟩)],[(200581,.wr),(200579,.wr),(200389,.wr),(200388,.wr),(200387,.wr)]⟩
section
variable {S:Type} (k:Nat) (t a:Tm) (sys:List (Br Tm)) (κ:Out UU→Option S)
theorem Ka (r5): ∀n b19000_0 b9_5 v29,(uF k).lp κ 4 [] n (Ck a r5 sys b19000_0 b9_5 v29)=ff k (dK κ) a r5 sys n b19000_0 b9_5 v29:=kC (ld k (dK κ) a r5 sys) rfl (fun _=>rfl) fun r b19000_0 b9_5 v29=>by kernel_rfl
end
theorem AI {S:Type} (o:Obj) (ho:ae o) (k:Nat):Tl o 18 (xB k:Rw S):=ai (uF k) ⟨ox o ho k,AH o ho k,g4 o ho k,ot o ho k,je o ho k,AQ o ho k,vX o ho k,ou o ho k,trivial⟩ Tryz.func18 (by kernel_rfl) fun t a sys κ x h=>Eq.trans (b:=yG k (dK κ) (fun r5 b19000_0 b9_5 v29=>(uF k).lp κ 4 [] k (Ck a r5 sys b19000_0 b9_5 v29)) t a sys) (by kernel_rfl) (Eq.trans (by simp only [Ka];rfl) (ak h))
def DH {S:Type} (k:Nat):Rw S:=af kh xn fun a b κ=>aa k (vO k a b) (aI κ)
def uG {S:Type} (k:Nat):Fx S:=fp 26 [] [(4,bG [0,1,5] [],aE 5 11)] k Tryz.f24 0
def Cm (a b:List Cl) (i5:Int):St UU:=⟨[(0,(sC a)),(1,(sC b)),(5,(iI i5))],[],[],[]⟩
section
variable {S:Type} (k:Nat) (a b:List Cl) (κ:Out UU→Option S)
theorem Kb: ∀n i5,(uG k).lp κ 4 [] n (Cm a b i5)=wH k (aI κ) a b n i5:=eh (Aa k (aI κ) a b) rfl (fun _=>rfl) fun r i5=>by kernel_rfl
end
theorem Mp {S:Type} (o:Obj) (ho:ae o) (k:Nat):Tl o 24 (DH k:Rw S):=ai (uG k) trivial Tryz.func24 (by kernel_rfl) fun a b κ x h=>Eq.trans (b:=Hm k (aI κ) (fun i5=>(uG k).lp κ 4 [] k (Cm a b i5)) a b) (by kernel_rfl) (Eq.trans (by simp only [Kb];rfl) (ak h))
def mL {S:Type} (k:Nat):Rw S:=af hZ xn fun a_n κ=>aa k (dR k a_n) (Sr κ)
def Ix {S:Type} (k:Nat):Fx S:=fx 5 (fun _=>[]) (fun _=>false) [] [] k Tryz.f69 true [] 0
theorem ov {S:Type} (o:Obj) (ho:ae o) (k:Nat):Tl o 69 (mL k:Rw S):=ai (Ix k) trivial Tryz.func69 (by kernel_rfl) fun a_n κ x h=>Eq.trans (by kernel_rfl) (ak h)
def DI {S:Type} (k:Nat):Rw S:=af gA xn fun a_r κ=>aa k (vv k a_r) (Ss κ)
def Iy {S:Type} (k:Nat):Fx S:=fx 13 (fun _=>[]) (fun _=>false) [(50,gJ k),(69,mL k)] [] k Tryz.f71 true [] 0
theorem Mq {S:Type} (o:Obj) (ho:ae o) (k:Nat):Tl o 71 (DI k:Rw S):=ai (Iy k) ⟨g4 o ho k,ov o ho k,trivial⟩ Tryz.func71 (by kernel_rfl) fun a_r κ x h=>Eq.trans (by kernel_rfl) (ak h)
def DK {S:Type} (k:Nat):Rw S:=af cn xn fun κ=>aa k (Ar k) (Dv κ)
def IA {S:Type} (k:Nat):Fx S:=fx 37 (fun _=>[]) (fun _=>false) [(50,gJ k),(69,mL k),(71,DI k)] [] k Tryz.f31 true [] 0
theorem Ms {S:Type} (o:Obj) (ho:ae o) (k:Nat):Tl o 31 (DK k:Rw S):=ai (IA k) ⟨g4 o ho k,ov o ho k,Mq o ho k,trivial⟩ Tryz.func31 (by kernel_rfl) fun κ x h=>Eq.trans (by kernel_rfl) (ak h)
def xD {S:Type} (k:Nat):Rw S:=af sY xn fun t vars dims κ=>aa k (d8 k t vars dims) (bm κ)
def IB {S:Type} (k:Nat):Fx S:=fp 28 [(80,xv k),(81,mN (eF k))] [] k Tryz.f37 0
theorem AJ {S:Type} (o:Obj) (ho:ae o) (k:Nat):Tl o 37 (xD k:Rw S):=ai (IB k) ⟨AC o ho k,wq o ho k,trivial⟩ Tryz.func37 (by kernel_rfl) fun t vars dims κ x h=>Eq.trans (by kernel_rfl) (ak h)
def DL {S:Type} (k:Nat):Rw S:=af cn xn fun κ=>aa k (rT k) (aI κ)
def IC {S:Type} (k:Nat):Fx S:=fp 75 [(11,xz k),(18,xB k),(24,DH k),(31,DK k),(37,xD k)] [] k Tryz.f10 0
theorem Mt {S:Type} (o:Obj) (ho:ae o) (k:Nat):Tl o 10 (DL k:Rw S):=ai (IC k) ⟨AG o ho k,AI o ho k,Mp o ho k,Ms o ho k,AJ o ho k,trivial⟩ Tryz.func10 (by kernel_rfl) fun κ x h=>Eq.trans (by kernel_rfl) (ak h)
section
variable {S:Type} (hd:JU S) (k:Nat) (t:Tm) (κ:Out UU→Option S)
end
section
variable {S:Type} (hd:JV S) (k:Nat) (t:Tm) (κ:Out UU→Option S)
end
section
variable {S:Type} (k:Nat) (s:ByteArray) (κ:Out UU→Option S)
end
section
variable {S:Type} (k:Nat) (a_n:Int) (κ:Out UU→Option S)
end
end
end Go.Proofs.YtapmagaejigpnaaGreatDoor
namespace Go.Proofs.YtapmagaejigpnaaGreatDoor
open Go PI
set_option linter.unusedVariables false
set_option maxRecDepth 100000
noncomputable section
section
variable {S:Type} (k:Nat) (l:List Cl) (c:Cl) (κ:Out UU→Option S)
end
section
variable {S:Type} (k:Nat) (l:List Cl) (κ:Out UU→Option S)
end
section
variable {S:Type} (k:Nat) (l:List Int) (κ:Out UU→Option S)
end
section
variable {S:Type} (k:Nat) (f:List Cl) (κ:Out UU→Option S)
end
section
variable {S:Type} (k:Nat) (s:Int) (κ:Out UU→Option S)
end
section
variable {S:Type} (k:Nat) (kind kid:Int) (κ:Out UU→Option S)
end
section
variable {S:Type} (k:Nat) (c:Cl) (κ:Out UU→Option S)
end
section
variable {S:Type} (k:Nat) (f:List Cl) (κ:Out UU→Option S)
end
section
variable {S:Type} (hd:JS S) (k:Nat) (t:Tm) (vars dims:Int) (bound:Bool) (κ:Out UU→Option S)
end
section
variable {S:Type} (k:Nat) (l:List Tm) (κ:Out UU→Option S)
end
section
variable {S:Type} (k:Nat) (s a_from a_by:Int) (κ:Out UU→Option S)
end
section
variable {S:Type} (k:Nat) (f:List Cl) (a_from a_by:Int) (κ:Out UU→Option S)
end
section
variable {S:Type} (k:Nat) (l:List Cl) (κ:Out UU→Option S)
end
section
variable {S:Type} (hd:JW S) (k:Nat) (t:Tm) (v vby d dby:Int) (κ:Out UU→Option S)
end
section
variable {S:Type} (k:Nat) (s i:Int) (κ:Out UU→Option S)
end
section
variable {S:Type} (k:Nat) (c:Cl) (κ:Out UU→Option S)
end
end
end Go.Proofs.YtapmagaejigpnaaGreatDoor
namespace Go.Proofs.YtapmagaejigpnaaGreatDoor
open Go PI
set_option linter.unusedVariables false
set_option maxRecDepth 100000
noncomputable section
section
variable {S:Type} (k:Nat) (a b:Int) (κ:Out UU→Option S)
end
section
variable {S:Type} (k:Nat) (f g:List Cl) (κ:Out UU→Option S)
end
section
variable {S:Type} (k:Nat) (f:List Cl) (κ:Out UU→Option S)
end
section
variable {S:Type} (k:Nat) (f g:List Cl) (κ:Out UU→Option S)
end
section
variable {S:Type} (k:Nat) (f:List Cl) (i:Int) (a_r:List Cl) (κ:Out UU→Option S)
end
section
variable {S:Type} (k:Nat) (f:List Cl) (i:Int) (a_r:List Cl) (κ:Out UU→Option S)
end
section
variable {S:Type} (k:Nat) (s i:Int) (κ:Out UU→Option S)
end
section
variable {S:Type} (k:Nat) (f:List Cl) (i:Int) (κ:Out UU→Option S)
end
section
variable {S:Type} (hd:JX S) (k:Nat) (t:Tm) (i:Int) (a_r:List Cl) (depth:Int) (drop:Bool) (κ:Out UU→Option S)
end
section
variable {S:Type} (k:Nat) (kind:Int) (kids:List Tm) (κ:Out UU→Option S)
end
section
variable {S:Type} (k:Nat) (line:Tm) (phi:List Cl) (a:Tm) (κ:Out UU→Option S)
end
def DQ {S:Type} (k:Nat):Rw S:=af BT xn fun line phi a κ=>aa k (rk k line phi a) (dK κ)
def II {S:Type} (k:Nat):Fx S:=fp 18 [(41,xy k)] [] k Tryz.f13 0
theorem My {S:Type} (o:Obj) (ho:ae o) (k:Nat):Tl o 13 (DQ k:Rw S):=ai (II k) ⟨AF o ho k,trivial⟩ Tryz.func13 (by kernel_rfl) fun line phi a κ x h=>Eq.trans (by kernel_rfl) (ak h)
section
variable {S:Type} (k:Nat) (line:Tm) (phi:List Cl) (a:Tm) (κ:Out UU→Option S)
end
section
variable {S:Type} (hd:zR S) (k:Nat) (a b:List Tm) (κ:Out UU→Option S)
end
section
variable {S:Type} (hd:zR S) (k:Nat) (a b:Tm) (κ:Out UU→Option S)
end
section
variable {S:Type} (hd:JT S) (k:Nat) (t:Tm) (κ:Out UU→Option S)
end
def mM {S:Type} (hd:dQ S):Rw S:=af sV xn fun t κ=>hd t (tK κ)
def DS {S:Type} (hd:dQ S) (k:Nat):Rw S:=af BI xn fun l κ=>aa k (og hd k l) (tL κ)
def uJ {S:Type} (hd:dQ S) (k:Nat):Fx S:=fp 19 [(65,mM hd)] [(3,⟨[(3,some (100003,true)),(6,.none),(7,.none),(8,.none)],[]⟩,aE 5 11)] k Tryz.f115 0
def Cp (l:List Tm) (out3:List Tm) (v8:Int):St UU:=⟨[(3,(.own 100003 0)),(6,(sT l)),(7,(.int .i64 (l.length:Int))),(8,(iI v8))],[],[(100003,⟨0,ET.T,out3⟩)],[(100003,.wr)]⟩
section
variable {S:Type} (hd:dQ S) (k:Nat) (l:List Tm) (κ:Out UU→Option S)
theorem Kf: ∀n out3 v8,(uJ hd k).lp κ 3 [] n (Cp l out3 v8)=mn hd k (tL κ) l n out3 v8:=bL (qS hd k (tL κ) l) rfl (fun _=>rfl) fun r out3 v8=>by kernel_rfl
end
theorem MA {S:Type} (o:Obj) (ho:ae o) (hd:dQ S) (Hd:Tl o 65 (mM hd)) (k:Nat):Tl o 115 (DS hd k:Rw S):=ai (uJ hd k) ⟨Hd,trivial⟩ Tryz.func115 (by kernel_rfl) fun l κ x h=>Eq.trans (b:=zu hd k (tL κ) (fun out3 v8=>(uJ hd k).lp κ 3 [] k (Cp l out3 v8)) l) (by kernel_rfl) (Eq.trans (by simp only [Kf];rfl) (ak h))
end
end Go.Proofs.YtapmagaejigpnaaGreatDoor
namespace Go.Proofs.YtapmagaejigpnaaGreatDoor
open Go PI
set_option linter.unusedVariables false
set_option maxRecDepth 100000
noncomputable section
def uI {S:Type} (hd:dQ S) (k:Nat):Fx S:=fp 40 [(114,yf),(115,DS hd k)] [(3,⟨[(2,.none),(3,.none),(20,.none),(21,.none),(22,.none)],[(2,[.none,.none,.none,some (200131,true),some (200132,true),some (200133,true)]),(3,[.none,.none,.none,.none,.none,some (200197,true)])]⟩,aE 5 11)] k Tryz.f65 0
def Co (t:Tm) (r1:List Cl) (r2:List Tm) (b3_5:List (Br Tm)) (v22:Int):St UU:=⟨[(2,(pt 2)),(3,(pt 3)),(20,(sB t.sys)),(21,(.int .i64 (t.sys.length:Int))),(22,(iI v22))],[(2,.cells [(iI 0),(iI 0),(.str ByteArray.empty),(.own 200131 0),(.own 200132 0),(.own 200133 0)]),(3,.cells [(iI t.kind),(iI t.n),(.str t.name),(sC r1),(sT r2),(.own 200197 0)])],[(200197,⟨0,ET.B,b3_5⟩),(200133,⟨0,ET.B,([]:List (Br Tm))⟩),(200132,⟨0,ET.T,([]:List Tm)⟩),(200131,⟨0,ET.C,([]:List Cl)⟩)],[(200197,.wr),(200133,.wr),(200132,.wr),(200131,.wr)]⟩
section
variable {S:Type} (hd:dQ S) (k:Nat) (t:Tm) (κ:Out UU→Option S)
theorem Ke (r1 r2): ∀n b3_5 v22,(uI hd k).lp κ 3 [] n (Co t r1 r2 b3_5 v22)=mm hd k (tK κ) t r1 r2 n b3_5 v22:=bL (qR hd k (tK κ) t r1 r2) rfl (fun _=>rfl) fun r b3_5 v22=>by kernel_rfl
end
theorem sN {S:Type} (o:Obj) (ho:ae o): ∀k:Nat,Tl o 65 (mM (dl k:dQ S))
 |0=>iC fun t κ x h=>by cases h
 |k+1=>ai (uI (dl k) k) ⟨Uv o ho,MA o ho (dl k) (sN o ho k) k,trivial⟩ Tryz.func65 (by kernel_rfl) fun t κ x h=>Eq.trans (b:=zt (dl k) k (tK κ) (fun r1 r2 b3_5 v22=>(uI (dl k) k).lp κ 3 [] k (Co t r1 r2 b3_5 v22)) t) (by kernel_rfl) (Eq.trans (by simp only [Ke];rfl) h)
def DT {S:Type} (k:Nat):Rw S:=af wE dP fun line c0 κ=>aa k (rq k line c0) (xt κ)
def IJ {S:Type} (k:Nat):Fx S:=fp 25 [(19,xx k),(20,xS k),(52,iq k),(85,io k)] [] k Tryz.f76 1
theorem MB {S:Type} (o:Obj) (ho:ae o) (k:Nat):Tl o 76 (DT k:Rw S):=ai (IJ k) ⟨AE o ho k,AW o ho k,je o ho k,jd o ho k,trivial⟩ Tryz.func76 (by kernel_rfl) fun line c0 κ x h=>Eq.trans (by kernel_rfl) (ak h)
def DU {S:Type} (k:Nat):Rw S:=af sU xn fun line a sys κ=>aa k (rl k line a sys) (dK κ)
def uK {S:Type} (k:Nat):Fx S:=fp 78 [(48,mP k),(49,xA k),(50,gJ k),(52,iq k),(54,tN k),(55,mK k),(65,mM (dl k)),(76,DT k)] [(5,⟨[(3,.none),(6,.none),(8,.none),(9,.none),(36,.none),(37,.none),(38,.none)],[(3,[.none,.none,.none,.none,.none,.none]),(6,[.none,.none,.none,some (200387,true),some (200388,true),some (200389,true)]),(9,[.none,.none,.none,some (200579,true),.none,some (200581,true)]),(19000,[.none])]⟩,aE 7 47)] k Tryz.f34 0
def Cq (r3:Tm) (r9:Int×Int×ByteArray×List Tm) (r6:Tm) (b19000_0:Int) (b9_5:List (Br Tm)) (v38:Int):St UU:=⟨[(3,(pt 3)),(6,(pt 6)),(8,(pt 19000)),(9,(pt 9)),(36,(sB r6.sys)),(37,(.int .i64 (r6.sys.length:Int))),(38,(iI v38))],[(3,bT r3),(6,.cells [(iI 0),(iI 0),(.str ByteArray.empty),(.own 200387 0),(.own 200388 0),(.own 200389 0)]),(9,.cells [(iI r9.1),(iI r9.2.1),(.str r9.2.2.1),(.own 200579 0),(sT r9.2.2.2),(.own 200581 0)]),(19000,bI b19000_0)],[(200581,⟨0,ET.B,b9_5⟩),(200579,⟨0,ET.C,([]:List Cl)⟩),(200389,⟨0,ET.B,([]:List (Br Tm))⟩),(200388,⟨0,ET.T,([]:List Tm)⟩),(200387,⟨0,ET.C,([]:List Cl)⟩)],[(200581,.wr),(200579,.wr),(200389,.wr),(200388,.wr),(200387,.wr)]⟩
section
variable {S:Type} (k:Nat) (line a:Tm) (sys:List (Br Tm)) (κ:Out UU→Option S)
theorem Kg (r3 r9 r6): ∀n b19000_0 b9_5 v38,(uK k).lp κ 5 [] n (Cq r3 r9 r6 b19000_0 b9_5 v38)=h9 k (dK κ) r3 r9 r6 n b19000_0 b9_5 v38:=kC (lc k (dK κ) r3 r9 r6) rfl (fun _=>rfl) fun r b19000_0 b9_5 v38=>by kernel_rfl
end
theorem MC {S:Type} (o:Obj) (ho:ae o) (k:Nat):Tl o 34 (DU k:Rw S):=ai (uK k) ⟨ox o ho k,AH o ho k,g4 o ho k,je o ho k,vX o ho k,ou o ho k,sN o ho k,MB o ho k,trivial⟩ Tryz.func34 (by kernel_rfl) fun line a sys κ x h=>Eq.trans (b:=yF k (dK κ) (fun r3 r9 r6 b19000_0 b9_5 v38=>(uK k).lp κ 5 [] k (Cq r3 r9 r6 b19000_0 b9_5 v38)) line a sys) (by kernel_rfl) (Eq.trans (by simp only [Kg];rfl) (ak h))
section
variable {S:Type} (k:Nat) (kind:Int) (l:List (Br Tm)) (κ:Out UU→Option S)
end
section
variable {S:Type} (k:Nat) (line a:Tm) (sys:List (Br Tm)) (κ:Out UU→Option S)
end
section
variable {S:Type} (k:Nat) (t a:Tm) (sys:List (Br Tm)) (κ:Out UU→Option S)
end
def xF {S:Type} (k:Nat):Rw S:=af Pd dP fun t a f y c0 κ=>aa k (lm k t a f y c0) (Dx κ)
def IM {S:Type} (k:Nat):Fx S:=fx 28 (fun _=>[]) (fun _=>false) [(50,gJ k),(51,mJ k),(69,mL k)] [] k Tryz.f64 true [] 1
theorem AL {S:Type} (o:Obj) (ho:ae o) (k:Nat):Tl o 64 (xF k:Rw S):=ai (IM k) ⟨g4 o ho k,ot o ho k,ov o ho k,trivial⟩ Tryz.func64 (by kernel_rfl) fun t a f y c0 κ x h=>Eq.trans (by kernel_rfl) (ak h)
def DW {S:Type} (k:Nat):Rw S:=af Pe xn fun t a f y κ=>aa k (rp k t a f y) (dK κ)
def IN {S:Type} (k:Nat):Fx S:=fp 28 [(48,mP k),(55,mK k),(64,xF k),(65,mM (dl k))] [] k Tryz.f25 0
theorem ME {S:Type} (o:Obj) (ho:ae o) (k:Nat):Tl o 25 (DW k:Rw S):=ai (IN k) ⟨ox o ho k,ou o ho k,AL o ho k,sN o ho k,trivial⟩ Tryz.func25 (by kernel_rfl) fun t a f y κ x h=>Eq.trans (by kernel_rfl) (ak h)
def DY {S:Type} (k:Nat):Rw S:=af wE dP fun t c0 κ=>aa k (nT k t c0) (Dx κ)
def IQ {S:Type} (k:Nat):Fx S:=fx 20 (fun _=>[]) (fun _=>false) [(50,gJ k),(51,mJ k),(69,mL k)] [] k Tryz.f67 true [] 1
theorem MG {S:Type} (o:Obj) (ho:ae o) (k:Nat):Tl o 67 (DY k:Rw S):=ai (IQ k) ⟨g4 o ho k,ot o ho k,ov o ho k,trivial⟩ Tryz.func67 (by kernel_rfl) fun t c0 κ x h=>Eq.trans (by kernel_rfl) (ak h)
def DZ {S:Type} (k:Nat):Rw S:=af Pc xn fun t a κ=>aa k (rn k t a) (dK κ)
def IR {S:Type} (k:Nat):Fx S:=fp 47 [(48,mP k),(50,gJ k),(51,mJ k),(55,mK k),(64,xF k),(65,mM (dl k)),(67,DY k),(69,mL k)] [] k Tryz.f29 0
theorem MH {S:Type} (o:Obj) (ho:ae o) (k:Nat):Tl o 29 (DZ k:Rw S):=ai (IR k) ⟨ox o ho k,g4 o ho k,ot o ho k,ou o ho k,AL o ho k,sN o ho k,MG o ho k,ov o ho k,trivial⟩ Tryz.func29 (by kernel_rfl) fun t a κ x h=>Eq.trans (by kernel_rfl) (ak h)
section
variable {S:Type} (k:Nat) (sys:List (Br Tm)) (κ:Out UU→Option S)
end
section
variable {S:Type} (hd:JR S) (k:Nat) (t:Tm) (κ:Out UU→Option S)
end
def xG {S:Type} (k:Nat):Rw S:=af BU xn fun sys κ=>aa k (n_ k sys) (Dw κ)
def IS {S:Type} (k:Nat):Fx S:=fx 10 (fun _=>[]) (fun _=>false) [] [] k Tryz.f17 true [] 0
theorem AM {S:Type} (o:Obj) (ho:ae o) (k:Nat):Tl o 17 (xG k:Rw S):=ai (IS k) trivial Tryz.func17 (by kernel_rfl) fun sys κ x h=>Eq.trans (by kernel_rfl) (ak h)
def xH {S:Type} (hd:fE S):Rw S:=af sV xn fun t κ=>hd t (bm κ)
def jO {S:Type} (hd:fE S) (k:Nat):Fx S:=fp 56 [(83,xH hd),(110,kP k)] [(3,bG [1,3,13,14,15] [(1,6)],aE 5 11),(9,bG [3,35,36,37] [],aE 6 23),(12,bG [3,35,36,37,42,43,44] [],aE 14 6551)] k Tryz.f83 0
def wX (t:Tm) (v15 most3:Int):St UU:=⟨[(1,(pt 1)),(3,(iI most3)),(13,(sT t.kids)),(14,(.int .i64 (t.kids.length:Int))),(15,(iI v15))],[(1,bT t)],[],[]⟩
def oS (t:Tm) (most3' v37:Int):St UU:=⟨[(3,(iI most3')),(35,(sB t.sys)),(36,(.int .i64 (t.sys.length:Int))),(37,(iI v37))],[],[],[]⟩
def Ct (t:Tm) (v37:Int) (x4:(Br Tm)) (most3'' v44:Int):St UU:=⟨[(3,(iI most3'')),(35,(sB t.sys)),(36,(.int .i64 (t.sys.length:Int))),(37,(iI v37)),(42,(sT x4.kids)),(43,(.int .i64 (x4.kids.length:Int))),(44,(iI v44))],[],[],[]⟩
section
variable {S:Type} (hd:fE S) (k:Nat) (t:Tm) (κ:Out UU→Option S)
theorem Kk (v37 x4 κ1): ∀n most3'' v44,(jO hd k).lp κ 12 [κ1] n (Ct t v37 x4 most3'' v44)=kn hd k (bm κ) (fun most3' v37=>κ1 (oS t most3' v37)) t v37 x4 n most3'' v44:=bL (qJ hd k (bm κ) t v37 x4 (fun most3' v37=>κ1 (oS t most3' v37))) rfl (fun _=>rfl) fun r most3'' v44=>by kernel_rfl
theorem Kj: ∀n most3' v37,(jO hd k).lp κ 9 [] n (oS t most3' v37)=h_ hd k (bm κ) t n most3' v37:=bL (fun own=>nz hd k (bm κ) t (fun v37 x4 most3'' v44=>kn hd k (bm κ) own t v37 x4 k most3'' v44) own) rfl (fun _=>rfl) fun r most3' v37=>Eq.trans (b:=nz hd k (bm κ) t (fun v37 x4 most3'' v44=>(jO hd k).lp κ 12 [r] k (Ct t v37 x4 most3'' v44)) (fun most3' v37=>r (oS t most3' v37)) most3' v37) (by kernel_rfl) (by simp only [Kk])
theorem Ki: ∀n v15 most3,(jO hd k).lp κ 3 [] n (wX t v15 most3)=mh hd k (bm κ) t n v15 most3:=bL (fun own=>ny hd k (bm κ) t (fun most3' v37=>h_ hd k (bm κ) t k most3' v37) own) rfl (fun _=>rfl) fun r v15 most3=>Eq.trans (b:=ny hd k (bm κ) t (fun most3' v37=>(jO hd k).lp κ 9 [] k (oS t most3' v37)) (fun v15 most3=>r (wX t v15 most3)) v15 most3) (by kernel_rfl) (by simp only [Kj])
end
theorem Bt {S:Type} (o:Obj) (ho:ae o): ∀k:Nat,Tl o 83 (xH (d7 k:fE S))
 |0=>iC fun t κ x h=>by cases h
 |k+1=>ai (jO (d7 k) k) ⟨Bt o ho k,lJ o ho k,trivial⟩ Tryz.func83 (by kernel_rfl) fun t κ x h=>Eq.trans (b:=zi (d7 k) k (bm κ) (fun v15 most3=>(jO (d7 k) k).lp κ 3 [] k (wX t v15 most3)) t) (by kernel_rfl) (Eq.trans (by simp only [Ki];rfl) h)
def D0 {S:Type} (k:Nat):Rw S:=af sU xn fun a b sys κ=>aa k (gX k a b sys) (aI κ)
def IT {S:Type} (k:Nat):Fx S:=fp 21 [(17,xG k),(83,xH (d7 k))] [] k Tryz.f39 0
theorem MI {S:Type} (o:Obj) (ho:ae o) (k:Nat):Tl o 39 (D0 k:Rw S):=ai (IT k) ⟨AM o ho k,Bt o ho k,trivial⟩ Tryz.func39 (by kernel_rfl) fun a b sys κ x h=>Eq.trans (by kernel_rfl) (ak h)
def D4 {S:Type} (k:Nat):Rw S:=af Pf xn fun line t sys phi vars many κ=>aa k (vK k line t sys phi vars many) (aI κ)
def fC {S:Type} (k:Nat):Fx S:=fp 217 [(9,Dz k),(10,DL k),(11,xz k),(13,DQ k),(17,xG k),(18,xB k),(25,DW k),(29,DZ k),(34,DU k),(37,xD k),(38,pm k),(39,D0 k)] [(1000010,bG [2,3,4,5,6,7] [(6,6),(7,6)],aE 5 31),(1000013,bG [3,4,5,6,7] [(6,6),(7,6)],aE 6 63),(1000016,bG [3,4,5,6,7] [(6,6),(7,6)],aE 7 127),(1000019,bG [4,5,7] [(7,6)],aE 8 255),(1000022,bG [4,5,7] [(7,6)],aE 9 511)] k Tryz.f8 0
def Cu (line t:Tm) (sys:List (Br Tm)) (phi:List Cl) (vars many:Int):St UU:=⟨[(2,(sB sys)),(3,(sC phi)),(4,(iI vars)),(5,(iI many)),(6,(pt 6)),(7,(pt 7))],[(6,bT line),(7,bT t)],[],[]⟩
def Cv (line t:Tm) (phi:List Cl) (vars many:Int):St UU:=⟨[(3,(sC phi)),(4,(iI vars)),(5,(iI many)),(6,(pt 6)),(7,(pt 7))],[(6,bT line),(7,bT t)],[],[]⟩
def Cw (line t:Tm) (phi:List Cl) (vars many:Int):St UU:=⟨[(3,(sC phi)),(4,(iI vars)),(5,(iI many)),(6,(pt 6)),(7,(pt 7))],[(6,bT line),(7,bT t)],[],[]⟩
def Cx (t:Tm) (vars many:Int):St UU:=⟨[(4,(iI vars)),(5,(iI many)),(7,(pt 7))],[(7,bT t)],[],[]⟩
def Cy (t:Tm) (vars many:Int):St UU:=⟨[(4,(iI vars)),(5,(iI many)),(7,(pt 7))],[(7,bT t)],[],[]⟩
section
variable {S:Type} (k:Nat) (line t:Tm) (sys:List (Br Tm)) (phi:List Cl) (vars many:Int) (κ:Out UU→Option S)
theorem Kq: ∀n,(fC k).jn κ 1000022 [] n (Cy t vars many)=mg k (aI κ) t vars many n:=lR (vd k (aI κ) t vars many) rfl (fun _=>rfl) (by kernel_rfl)
theorem Kp: ∀n,(fC k).jn κ 1000019 [] n (Cx t vars many)=mf k (aI κ) t vars many n:=lR (qI k (aI κ) t vars many (mg k (aI κ) t vars many k)) rfl (fun _=>rfl) (Eq.trans (b:=qI k (aI κ) t vars many ((fC k).jn κ 1000022 [] k (Cy t vars many))) (by kernel_rfl) (by simp only [Kq]))
theorem Ko: ∀n,(fC k).jn κ 1000016 [] n (Cw line t phi vars many)=me k (aI κ) line t phi vars many n:=lR (qH k (aI κ) line t phi vars many (mf k (aI κ) t vars many k)) rfl (fun _=>rfl) (Eq.trans (b:=qH k (aI κ) line t phi vars many ((fC k).jn κ 1000019 [] k (Cx t vars many))) (by kernel_rfl) (by simp only [Kp]))
theorem Km: ∀n,(fC k).jn κ 1000013 [] n (Cv line t phi vars many)=md k (aI κ) line t phi vars many n:=lR (qG k (aI κ) line t phi vars many (me k (aI κ) line t phi vars many k)) rfl (fun _=>rfl) (Eq.trans (b:=qG k (aI κ) line t phi vars many ((fC k).jn κ 1000016 [] k (Cw line t phi vars many))) (by kernel_rfl) (by simp only [Ko]))
theorem Kl: ∀n,(fC k).jn κ 1000010 [] n (Cu line t sys phi vars many)=oI k (aI κ) line t sys phi vars many n:=lR (qF k (aI κ) line t sys phi vars many (md k (aI κ) line t phi vars many k)) rfl (fun _=>rfl) (Eq.trans (b:=qF k (aI κ) line t sys phi vars many ((fC k).jn κ 1000013 [] k (Cv line t phi vars many))) (by kernel_rfl) (by simp only [Km]))
end
theorem MJ {S:Type} (o:Obj) (ho:ae o) (k:Nat):Tl o 8 (D4 k:Rw S):=ai (fC k) ⟨Mg o ho k,Mt o ho k,AG o ho k,My o ho k,AM o ho k,AI o ho k,ME o ho k,MH o ho k,MC o ho k,AJ o ho k,sm o ho k,MI o ho k,trivial⟩ Tryz.func8 (by kernel_rfl) fun line t sys phi vars many κ x h=>Eq.trans (b:=zh k (aI κ) ((fC k).jn κ 1000010 [] k (Cu line t sys phi vars many)) line t sys phi vars many) (by kernel_rfl) (Eq.trans (by simp only [Kl];rfl) (ak h))
theorem Ut {S:Type} (o:Obj) (ho:ae o) (k:Nat):Tl o 8 (D4 k:Rw S):=MJ o ho k
end
end Go.Proofs.YtapmagaejigpnaaGreatDoor
namespace Go.Proofs.YtapmagaejigpnaaGreatDoor
open Go PI
set_option linter.unusedVariables false
set_option linter.unusedSimpArgs false
variable {S:Type} {k:Nat}
def bE {α β:Type} (x:Except Int α) (f:α→Except Int β):Except Int β:=match x with
 | .error e=> .error e
 | .ok a=>f a
theorem ao {α β:Type} (a:α) (f:α→Except Int β):bE (.ok a) f=f a:=rfl
theorem fG {α β:Type} (e:Int) (f:α→Except Int β):bE (.error e) f= .error e:=rfl
theorem ah {α β:Type} {x:Except Int α} {f:α→Except Int β} {b:β} (h:bE x f= .ok b): ∃a,x= .ok a∧f a= .ok b:=by
 cases x with
 |error e=>cases h
 |ok a=>exact ⟨a,rfl,h⟩
theorem aL {α β:Type} {x:Except Int α} {f:α→Except Int β} {e:Int} (h:bE x f= .error e):x= .error e∨ ∃a,x= .ok a∧f a= .error e:=by
 cases x with
 |error e=>injection h with h;subst h;exact .inl rfl
 |ok a=>exact .inr ⟨a,rfl,h⟩
def cG (x:List Cl×Int):Except Int (List Cl):=if x.2=0 then .ok x.1 else .error x.2
theorem jJ {x:List Cl×Int} (h:x.2=0):cG x= .ok x.1:=if_pos h
theorem kW {x:List Cl×Int} (h:x.2≠0):cG x= .error x.2:=if_neg h
theorem eB {x:List Cl×Int} {l:List Cl} (h:cG x= .ok l):x.2=0∧x.1=l:=by
 unfold cG at h
 split at h
 ·next h0=>injection h with h;exact ⟨h0,h⟩
 ·cases h
theorem pT {x:List Cl×Int} {e:Int} (h:cG x= .error e):x.2≠0∧x.2=e:=by
 unfold cG at h
 split at h
 ·cases h
 ·next h0=>injection h with h;exact ⟨h0,h⟩
def EN (e:Int):Prop:=0≤e∧e≤1000
theorem kc:EN 0:=by unfold EN;omega
theorem g6:EN 2:=by unfold EN;omega
theorem NE:EN 3:=by unfold EN;omega
theorem A4:EN 10:=by unfold EN;omega
theorem mu (l:List Cl):EN (bu l).2:=by
 unfold bu
 split
 ·split
  ·exact NE
  ·exact kc
 ·exact g6
theorem sL {step:List Cl→Cl→List Cl×Int} (hs: ∀h c,EN (step h c).2): ∀ {r h:List Cl},EN (bk step h r).2:=by
 intro r
 induction r with
 |nil=>intro h;exact kc
 |cons c r ih=>
  intro h
  unfold bk
  split
  ·exact ih
  ·exact hs h c
theorem B2 (s i b:Int):EN (ce s i b).2:=by
 unfold ce
 split
 ·exact g6
 ·unfold dX
  split
  ·exact kc
  ·split
   ·exact A4
   ·split
    ·exact A4
    ·exact kc
theorem Qi (c:Cl) (i b:Int):EN (cH c i b).2:=by
 unfold cH
 split
 ·split
  ·split
   ·exact kc
   ·exact B2 _ _ _
  ·exact B2 _ _ _
 ·exact g6
theorem oM (f:List Cl) (i b:Int):EN (be f i b).2:=by
 unfold be
 split
 ·split
  ·exact mu _
  ·exact sL fun h c=>Qi c i b
 ·exact g6
theorem HI {n b x y:Nat} (h:cx n b x=cx n b y):x=y:=by
 unfold cx at h;split at h<;>split at h<;>omega
theorem UB (n b:Nat) {l:List Nat} (h:l.Nodup):(l.map (cx n b)).Nodup:=
 List.Pairwise.map (S:=fun a b=>a≠b) (R:=fun a b=>a≠b) _ (fun x y hxy h=>hxy (HI h)) h
theorem Qp {m n b:Nat} (h:(dX m n b).2=0) (j:Nat):(dX m n b).1.testBit j=true↔ ∃x,x<24∧m.testBit x=true∧cx n b x=j:=by
 rw [B0] at h ⊢
 split
 ·next he=>rw [if_pos he] at h;cases h
 ·rw [yA _ (UB n b (vj m)),decide_eq_true_eq,List.mem_map]
  constructor
  ·rintro ⟨x,hx,e⟩;have:=mem_bitsN.1 hx;exact ⟨x,this.1,this.2,e⟩
  ·rintro ⟨x,h1,h2,e⟩;exact ⟨x,mem_bitsN.2 ⟨h1,h2⟩,e⟩
theorem z6 {m:Nat} (h:m<16777216):m&&&M24=m:=by
 apply Nat.eq_of_testBit_eq
 intro j
 rw [Nat.testBit_and,iN]
 cases hb:m.testBit j with
 |false=>rfl
 |true=>rw [decide_eq_true (iP h hb)];rfl
theorem NX {i b:Int}: ∀ {r h:List Cl},(bk (c7 i b) h r).2=0→(∀c∈r,(cH c i b).2=0)∧(bk (c7 i b) h r).1=h++r.map fun c=>(cH c i b).1:=by
 intro r
 induction r with
 |nil=>intro h _;exact ⟨fun c hc=>(by cases hc),by simp [bk]⟩
 |cons c r ih=>
  intro h h0
  unfold bk at h0 ⊢
  split at h0
  ·next h1=>
   have:=ih h0
   rw [if_pos h1]
   refine ⟨fun d hd=> ?_, ?_⟩
   ·rcases List.mem_cons.1 hd with rfl|hd
    ·exact h1
    ·exact this.1 d hd
   ·rw [this.2];simp [c7]
  ·next h1=>exact absurd h0 h1
theorem Ql {f:List Cl} {i b:Int} (h:(be f i b).2=0): ∀c∈(be f i b).1,∃d∈f,(cH d i b).2=0∧c=(cH d i b).1:=by
 unfold be at h ⊢
 split
 ·next hr=>
  rw [if_pos hr] at h
  split
  ·next h0=>
   rw [if_pos h0] at h
   obtain ⟨ha,hb⟩:=NX h0
   intro c hc
   have h':bu (bk (c7 i b) [] f).1=((bu (bk (c7 i b) [] f).1).1,0):=Prod.ext rfl h
   rw [(kz h').1] at hc
   have:=(mem_mins.1 hc).1
   rw [hb,List.nil_append,List.mem_map] at this
   obtain ⟨d,hd,rfl⟩:=this
   exact ⟨d,hd,ha d hd,rfl⟩
  ·next h0=>rw [if_neg h0] at h;exact absurd h h0
 ·next hr=>rw [if_neg hr] at h;exact absurd h (by decide)
theorem LK {c:Cl}:b_ c=false↔ ∀j,¬ (c.pos.toNat.testBit j=true∧c.neg.toNat.testBit j=true):=by
 unfold b_
 rw [Bool.not_eq_false',decide_eq_true_eq]
 constructor
 ·intro h j ⟨h1,h2⟩
  have:(c.pos.toNat&&&c.neg.toNat).testBit j=true:=by rw [Nat.testBit_and,h1,h2];rfl
  rw [h,Nat.zero_testBit] at this;cases this
 ·intro h
  apply Nat.eq_of_testBit_eq
  intro j
  rw [Nat.zero_testBit,Nat.testBit_and]
  cases h1:c.pos.toNat.testBit j with
  |false=>rfl
  |true=>
   cases h2:c.neg.toNat.testBit j with
   |false=>rfl
   |true=>exact absurd ⟨h1,h2⟩ (h j)
theorem B1 {s i b:Int} (h:(ce s i b).2=0) {j:Nat} (hj:(ce s i b).1.toNat.testBit j=true): ∃x,s.toNat.testBit x=true∧cx i.toNat b.toNat x=j:=by
 unfold ce at h hj
 split at h
 ·cases h
 ·next hn=>
  rw [if_neg hn] at hj
  have h':(dX s.toNat i.toNat b.toNat).2=0:=by
   have:((dX s.toNat i.toNat b.toNat).2:Int)=0:=h
   omega
  obtain ⟨x,_,h2,h3⟩:=(Qp h' j).1 hj
  exact ⟨x,h2,h3⟩
theorem Qh {c:Cl} {i b:Int} (h:(cH c i b).2=0) (hc:b_ c=false):b_ (cH c i b).1=false:=by
 rw [LK] at hc ⊢
 unfold cH at h ⊢
 split at h
 ·next hr=>
  split at h
  ·next h1=>
   split at h
   ·next h2=>
    rw [if_pos hr,if_pos h1,if_pos h2]
    rintro j ⟨ha,hb⟩
    obtain ⟨x,hx,ex⟩:=B1 h1 ha
    obtain ⟨y,hy,ey⟩:=B1 h2 hb
    have:=HI (ex.trans ey.symm)
    subst this
    exact hc x ⟨hx,hy⟩
   ·next h2=>exact absurd h h2
  ·next h1=>exact absurd h h1
 ·cases h
def cj (d b:Int) (f:List Cl):Except Int (List Cl):=if b=0∨d≥24 then .ok f else cG (be f d b)
theorem py {d b:Int} {f g:List Cl} (hf:RF f) (h:cj d b f= .ok g):RF g:=by
 unfold cj at h
 split at h
 ·injection h with h;subst h;exact hf
 ·obtain ⟨h1,rfl⟩:=eB h;exact fg h1
theorem E_ {d b:Int} {f:List Cl} {e:Int} (h:cj d b f= .error e):0<e∧e≤1000:=by
 unfold cj at h
 split at h
 ·cases h
 ·obtain ⟨h1,rfl⟩:=pT h
  have:=oM f d b
  unfold EN at this;omega
theorem SN {d b:Int} {f g:List Cl} (hf:f.all (fun c=> !b_ c)=true) (h:cj d b f= .ok g):g.all (fun c=> !b_ c)=true:=by
 unfold cj at h
 split at h
 ·injection h with h;subst h;exact hf
 ·obtain ⟨h1,rfl⟩:=eB h
  rw [List.all_eq_true] at hf ⊢
  intro c hc
  obtain ⟨e,he,h2,rfl⟩:=Ql h1 c hc
  have:=hf e he
  rw [Bool.not_eq_true'] at this ⊢
  exact Qh h2 this
theorem yc (d b:Int):cj d b []= .ok []:=by
 unfold cj
 split
 ·rfl
 ·rfl
mutual
def bH (vb db v d:Int):Tm→Except Int Tm
 | .mk kd n nm r ks sys=>
  if kd=1∧n≥v∧n>1000000000-vb then .error 100
  else bE (cj d db r) fun r'=>bE (dg vb db v d kd 0 ks) fun ks'=>bE (cu vb db v d kd sys) fun sys'=> .ok (.mk kd (if kd=1∧n≥v then n+vb else n) nm r' ks' sys')
def dg (vb db v d kd:Int) (i:Nat):List Tm→Except Int (List Tm)
 |[]=> .ok []
 |t::l=>bE (bH vb db (v+dj kd i) (d+bj kd i) t) fun t'=>bE (dg vb db v d kd (i+1) l) fun l'=> .ok (t'::l')
def cu (vb db v d kd:Int):List (Br Tm)→Except Int (List (Br Tm))
 |[]=> .ok []
 |b::l=>bE (jy vb db v d kd b) fun b'=>bE (cu vb db v d kd l) fun l'=> .ok (b'::l')
def jy (vb db v d kd:Int):Br Tm→Except Int (Br Tm)
 | .mk f ks=>bE (cj d db f) fun f'=>bE (dh vb db v d kd ks) fun ks'=> .ok (.mk f' ks')
def dh (vb db v d kd:Int):List Tm→Except Int (List Tm)
 |[]=> .ok []
 |t::l=>bE (bH vb db v (d+au kd) t) fun t'=>bE (dh vb db v d kd l) fun l'=> .ok (t'::l')
end
mutual
def RowsT:Tm→Prop
 | .mk kd n nm r ks sys=>(RF r∧(kd=1→r=[])∧0≤kd)∧bY ks∧cO sys
def bY:List Tm→Prop
 |[]=>True
 |t::l=>RowsT t∧bY l
def cO:List (Br Tm)→Prop
 |[]=>True
 |b::l=>gU b∧cO l
def gU:Br Tm→Prop
 | .mk f ks=>RF f∧bY ks
end
theorem rowsK_iff: ∀ {l:List Tm},bY l↔ ∀t∈l,RowsT t:=by
 intro l
 induction l with
 |nil=>rw [bY];simp
 |cons t l ih=>rw [bY,ih];simp
theorem yg {b:Br Tm}:gU b↔RF b.face∧ ∀t∈b.kids,RowsT t:=by cases b;rw [gU,rowsK_iff]
theorem rowsS_iff: ∀ {l:List (Br Tm)},cO l↔ ∀b∈l,RF b.face∧ ∀t∈b.kids,RowsT t:=by
 intro l
 induction l with
 |nil=>rw [cO];simp
 |cons t l ih=>rw [cO,ih,yg];simp
end Go.Proofs.YtapmagaejigpnaaGreatDoor
namespace Go.Proofs.YtapmagaejigpnaaGreatDoor
open Go PI
set_option linter.unusedVariables false
set_option linter.unusedSimpArgs false
variable {S:Type} {k:Nat}
inductive F2 {α β:Type} (R:α→β→Prop):List α→List β→Prop
 |nil:F2 R [] []
 |cons {a:α} {b:β} {l:List α} {m:List β}:R a b→F2 R l m→F2 R (a::l) (b::m)
theorem F2.len {α β:Type} {R:α→β→Prop} {l:List α} {m:List β} (h:F2 R l m):m.length=l.length:=by
 induction h with
 |nil=>rfl
 |cons _ _ ih=>simp [ih]
theorem F2.imp {α β:Type} {R Q:α→β→Prop} {l:List α} {m:List β} (h:F2 R l m) (hq: ∀a b,R a b→Q a b):F2 Q l m:=by
 induction h with
 |nil=>exact .nil
 |cons h1 _ ih=>exact .cons (hq _ _ h1) ih
theorem Qm {vb db v d kd:Int} {R:Tm→Tm→Prop}: ∀ {l:List Tm} {i:Nat} {l':List Tm},(∀x∈l,∀v d x',bH vb db v d x= .ok x'→R x x')→dg vb db v d kd i l= .ok l'→F2 R l l':=by
 intro l
 induction l with
 |nil=>intro i l' _ h;rw [dg] at h;injection h with h;subst h;exact .nil
 |cons t l ih=>
  intro i l' hr h
  rw [dg] at h
  obtain ⟨t',h1,h⟩:=ah h
  obtain ⟨m,h2,h⟩:=ah h
  injection h with h;subst h
  exact .cons (hr t (by simp) _ _ _ h1) (ih (fun x hx=>hr x (by simp [hx])) h2)
theorem Qn {vb db v d kd:Int} {R:Tm→Tm→Prop}: ∀ {l:List Tm} {l':List Tm},(∀x∈l,∀v d x',bH vb db v d x= .ok x'→R x x')→dh vb db v d kd l= .ok l'→F2 R l l':=by
 intro l
 induction l with
 |nil=>intro l' _ h;rw [dh] at h;injection h with h;subst h;exact .nil
 |cons t l ih=>
  intro l' hr h
  rw [dh] at h
  obtain ⟨t',h1,h⟩:=ah h
  obtain ⟨m,h2,h⟩:=ah h
  injection h with h;subst h
  exact .cons (hr t (by simp) _ _ _ h1) (ih (fun x hx=>hr x (by simp [hx])) h2)
theorem Qq {vb db v d kd:Int} {R:Tm→Tm→Prop}: ∀ {l l':List (Br Tm)},(∀b∈l,∀x∈b.kids,∀v d x',bH vb db v d x= .ok x'→R x x')→cu vb db v d kd l= .ok l'→
  F2 (fun b b'=>cj d db b.face= .ok b'.face∧F2 R b.kids b'.kids) l l':=by
 intro l
 induction l with
 |nil=>intro l' _ h;rw [cu] at h;injection h with h;subst h;exact .nil
 |cons b l ih=>
  intro l' hr h
  rw [cu] at h
  obtain ⟨b',h1,h⟩:=ah h
  obtain ⟨m,h2,h⟩:=ah h
  injection h with h;subst h
  cases b with
  |mk f ks=>
   rw [jy] at h1
   obtain ⟨f',h3,h1⟩:=ah h1
   obtain ⟨ks',h4,h1⟩:=ah h1
   injection h1 with h1;subst h1
   exact .cons ⟨h3,Qn (hr ⟨f,ks⟩ (by simp)) h4⟩ (ih (fun b hb=>hr b (by simp [hb])) h2)
theorem kB {f:List Cl} {d:Int} (h:24≤d):bX f d=true:=by
 unfold bX
 rw [decide_eq_true_eq]
 intro i hi
 have:=(mem_bitsN.1 hi).1
 omega
def Up (x x':Tm):Prop:=aq x'=aq x∧ax x'=ax x∧x'.kind=x.kind∧(OkT x→OkT x'∧(RowsT x→RowsT x')∧ ∀dd dd',24≤dd→24≤dd'→az false (-1) dd x=true→az false (-1) dd' x'=true)
theorem HL {l l':List Tm} (h:F2 Up l l'):aJ l'=aJ l:=by
 induction h with
 |nil=>rfl
 |cons h1 _ ih=>rw [aJ,aJ,h1.1,ih]
theorem HO {l l':List Tm} (h:F2 Up l l'):ar l'=ar l:=by
 induction h with
 |nil=>rfl
 |cons h1 _ ih=>rw [ar,ar,h1.2.1,ih]
theorem UI {l l':List (Br Tm)} (h:F2 (fun b b':Br Tm=>F2 Up b.kids b'.kids) l l'):ba l'=ba l:=by
 induction h with
 |nil=>rfl
 |cons h1 _ ih=>rw [ba,ba,om,om,HL h1,ih]
theorem UJ {l l':List (Br Tm)} (h:F2 (fun b b':Br Tm=>F2 Up b.kids b'.kids) l l'):ay l'=ay l:=by
 induction h with
 |nil=>rfl
 |cons h1 _ ih=>rw [ay,ay,jH,jH,HO h1,ih]
theorem HM {l l':List Tm} (h:F2 Up l l'):aR l→aR l':=by
 induction h with
 |nil=>exact id
 |cons h1 _ ih=>rw [aR,aR];exact fun h=>⟨(h1.2.2.2 h.1).1,ih h.2⟩
theorem HN {l l':List Tm} (h:F2 Up l l'):aR l→bY l→bY l':=by
 induction h with
 |nil=>exact fun _ h=>h
 |cons h1 _ ih=>rw [aR,bY,bY];exact fun h g=>⟨(h1.2.2.2 h.1).2.1 g.1,ih h.2 g.2⟩
theorem UN (v:Int):aW (-1) v= -1:=by unfold aW;rw [if_pos (by decide)]
theorem UG {kd dd dd':Int} (h1:24≤dd) (h2:24≤dd') {l l':List Tm} (h:F2 Up l l'): ∀ {i:Nat},aR l→bt false (-1) dd kd i l=true→bt false (-1) dd' kd i l'=true:=by
 induction h with
 |nil=>exact fun _ h=>h
 |cons h3 _ ih=>
  intro i
  rw [aR,bt,bt,Bool.and_eq_true,Bool.and_eq_true,UN]
  have:=e7 kd i
  exact fun h g=>⟨(h3.2.2.2 h.1).2.2 _ _ (by omega) (by omega) g.1,ih h.2 g.2⟩
theorem UH {kd dd dd':Int} (h1:24≤dd) (h2:24≤dd') {l l':List Tm} (h:F2 Up l l'):aR l→b8 false (-1) dd kd l=true→b8 false (-1) dd' kd l'=true:=by
 induction h with
 |nil=>exact fun _ h=>h
 |cons h3 _ ih=>
  rw [aR,b8,b8,Bool.and_eq_true,Bool.and_eq_true]
  have:=ei kd
  exact fun h g=>⟨(h3.2.2.2 h.1).2.2 _ _ (by omega) (by omega) g.1,ih h.2 g.2⟩
def k_ (d db:Int) (b b':Br Tm):Prop:=cj d db b.face= .ok b'.face∧F2 Up b.kids b'.kids
theorem Fa {d db:Int} {f g:List Cl} (h:cj d db f= .ok g) (hf:al f) (hl:f.length<1073741824):al g∧g.length<1073741824:=by
 unfold cj at h
 split at h
 ·injection h with h;subst h;exact ⟨hf,hl⟩
 ·obtain ⟨h1,rfl⟩:=eB h
  have:=fg h1
  exact ⟨this.2,by have:=this.len;omega⟩
theorem yd {d db:Int} {f g:List Cl} (h:cj d db f= .ok g) (hf:al f) (hr:bA f=true):bA g=true:=(py ((gM hf).1 hr) h).right
theorem px {d db:Int} {f g:List Cl} (h:cj d db f= .ok g) (hf:al f) (hr:bB f=true):bB g=true:=by
 unfold bB at hr ⊢
 rw [Bool.and_eq_true] at hr ⊢
 exact ⟨yd h hf hr.1,SN hr.2 h⟩
theorem mW {d db:Int} {f g:List Cl} (h:cj d db f= .ok g) (hf:f.length=0):g.length=0:=by
 have:=List.length_eq_zero_iff.1 hf
 subst this
 rw [yc] at h;injection h with h;subst h;rfl
theorem UD {d db:Int} {l l':List (Br Tm)} (h:F2 (k_ d db) l l'):aX l→aX l':=by
 induction h with
 |nil=>exact id
 |cons h1 _ ih=>
  rw [aX,aX,kI,kI]
  intro h
  have h3:=Fa h1.1 h.1.1.1 h.1.1.2.1
  exact ⟨⟨⟨h3.1,h3.2,by have:=h1.2.len;have:=h.1.1.2.2;omega⟩,okK_iff.1 (HM h1.2 (okK_iff.2 h.1.2))⟩,ih h.2⟩
theorem UF {d db:Int} {l l':List (Br Tm)} (h:F2 (k_ d db) l l'):aX l→cO l→cO l':=by
 induction h with
 |nil=>exact fun _ h=>h
 |cons h1 _ ih=>
  rw [aX,kI,cO,cO,yg,yg]
  intro h g
  exact ⟨⟨py g.1.1 h1.1,rowsK_iff.1 (HN h1.2 (okK_iff.2 h.1.2) (rowsK_iff.2 g.1.2))⟩,ih h.2 g.2⟩
theorem UC {d db kd dd dd':Int} (h1:24≤dd) (h2:24≤dd') {l l':List (Br Tm)} (h:F2 (k_ d db) l l'):aX l→bg false (-1) dd kd l=true→bg false (-1) dd' kd l'=true:=by
 induction h with
 |nil=>exact fun _ h=>h
 | @cons a b _ _ h3 _ ih=>
  rw [aX,kI,bg,bg,Bool.and_eq_true,Bool.and_eq_true]
  intro h g
  refine ⟨?_,ih h.2 g.2⟩
  cases a;cases b
  have g1:=g.1
  rw [eZ] at g1 ⊢
  exact UH h1 h2 h3.2 (okK_iff.2 h.1.2) g1
theorem UE {d db kd dd dd':Int} (h1:24≤dd) (h2:24≤dd') {l l':List (Br Tm)} (h:F2 (k_ d db) l l'):aX l→l.all (bJ kd dd)=true→l'.all (bJ kd dd')=true:=by
 induction h with
 |nil=>exact fun _ h=>h
 | @cons a b _ _ h3 _ ih=>
  rw [aX,kI,List.all_cons,List.all_cons,Bool.and_eq_true,Bool.and_eq_true]
  intro h g
  refine ⟨?_,ih h.2 g.2⟩
  have g1:=g.1
  unfold bJ at g1 ⊢
  rw [Bool.and_eq_true,Bool.and_eq_true,decide_eq_true_eq] at g1 ⊢
  rw [h3.2.len]
  exact ⟨g1.1,px h3.1 h.1.1.1 g1.2.1,kB h2⟩
theorem HK {d db:Int} {l l':List (Br Tm)} (h:F2 (k_ d db) l l'):F2 (fun b b':Br Tm=>F2 Up b.kids b'.kids) l l':=h.imp fun _ _ h=>h.2
theorem wN {vb db:Int} (hvb:0≤vb) (hvb':vb≤1000000000) (t:Tm): ∀v d t',bH vb db v d t= .ok t'→Up t t':=by
 induction t using eW with
 |h kd n nm r ks sys ih1 ih2=>
  intro v d t' h
  rw [bH] at h
  split at h
  ·cases h
  next hv=>
  obtain ⟨r',hr,h⟩:=ah h
  obtain ⟨ks',hk,h⟩:=ah h
  obtain ⟨sys',hs,h⟩:=ah h
  injection h with h;subst h
  have fk:F2 Up ks ks':=Qm (fun x hx v d x'=>ih1 x hx v d x') hk
  have fs:F2 (k_ d db) sys sys':=Qq (fun b hb x hx v d x'=>ih2 b hb x hx v d x') hs
  refine ⟨?_, ?_,rfl,fun hok=> ?_⟩
  ·rw [aq,aq,HL fk,UI (HK fs)]
  ·rw [ax,ax,HO fk,UJ (HK fs)]
  ·obtain ⟨o1,o2,o3,o4,o5,o6,o7⟩:=hok.node
   have hok':=hok
   rw [OkT] at hok'
   obtain ⟨_,ok,os⟩:=hok'
   have hr':=Fa hr o4 o5
   have o2':=o2
   unfold aA at o2'
   refine ⟨?_, ?_, ?_⟩
   ·rw [OkT]
    refine ⟨⟨o1, ?_,o3,hr'.1,hr'.2,by rw [fk.len];exact o6,by rw [fs.len];exact o7⟩,HM fk ok,UD fs os⟩
    unfold aA
    split
    ·next hc=>constructor<;>omega
    ·exact o2
   ·rw [RowsT,RowsT]
    rintro ⟨⟨a,b,z⟩,c,e⟩
    refine ⟨⟨py a hr,fun h1=> ?_,z⟩,HN fk ok c,UF fs os e⟩
    have:=b h1
    subst this
    rw [yc] at hr;injection hr with hr;exact hr.symm
   ·intro dd dd' h1 h2
    rw [az,az]
    simp only [Bool.false_and,Bool.not_false,Bool.true_and,Bool.and_eq_true]
    rintro ⟨a,b,c⟩
    refine ⟨?_,UG h1 h2 fk ok b,UC h1 h2 fs os c⟩
    unfold cJ at a ⊢
    simp only [Bool.and_eq_true,decide_eq_true_eq,fk.len,fs.len] at a ⊢
    obtain ⟨⟨a1,a2,a3,a4⟩,a5⟩:=a
    refine ⟨⟨a1, ?_,a3,a4⟩, ?_⟩
    ·rcases a2 with a2|a2
     ·exact .inl a2
     ·by_cases h1:kd=1
      ·exact .inl h1
      ·right;rw [if_neg (fun h=>h1 h.1)];exact a2
    ·by_cases c1:kd=1
     ·rw [if_pos c1] at a5 ⊢
      simp only [Bool.and_eq_true,decide_eq_true_eq] at a5 ⊢
      refine ⟨mW hr a5.1, ?_,.inl (by decide)⟩
      have:=a5.2.1
      split<;>omega
     ·rw [if_neg c1] at a5 ⊢
      by_cases c2:kd=2
      ·rw [if_pos c2] at a5 ⊢
       simp only [Bool.and_eq_true,decide_eq_true_eq] at a5 ⊢
       exact ⟨mW hr a5.1,a5.2⟩
      ·rw [if_neg c2] at a5 ⊢
       by_cases c3:kd=13∨kd=21∨kd=26
       ·rw [if_pos c3] at a5 ⊢
        rw [Bool.and_eq_true] at a5 ⊢
        exact ⟨yd hr o4 a5.1,kB h2⟩
       ·rw [if_neg c3] at a5 ⊢
        by_cases c4:kd=14
        ·rw [if_pos c4] at a5 ⊢
         rw [Bool.and_eq_true] at a5 ⊢
         exact ⟨px hr o4 a5.1,kB h2⟩
        ·rw [if_neg c4] at a5 ⊢
         simp only [Bool.and_eq_true,decide_eq_true_eq] at a5 ⊢
         exact ⟨UE h1 h2 fs os a5.1,mW hr a5.2⟩
theorem Pj {kd:Int} {n:Nat} (h:fO kd=n):0≤kd:=by
 apply Classical.byContradiction
 intro h0
 unfold fO at h
 rw [if_pos (.inl (by omega))] at h
 omega
theorem Lh {bd:Bool} (t:Tm): ∀ {vars dims:Int},OkT t→az bd vars dims t=true→RowsT t:=by
 induction t using eW with
 |h kd n nm r ks sys ih1 ih2=>
  intro vars dims hok h
  rw [az,Bool.and_eq_true,Bool.and_eq_true,Bool.and_eq_true] at h
  obtain ⟨_,a,b,c⟩:=h
  obtain ⟨o1,o2,o3,o4,o5,o6,o7⟩:=hok.node
  have hok':=hok
  rw [OkT] at hok'
  obtain ⟨_,ok,os⟩:=hok'
  have hkids: ∀ {l:List Tm} {i:Nat},(∀x∈l,∀ {vars dims:Int},OkT x→az bd vars dims x=true→RowsT x)→aR l→bt bd vars dims kd i l=true→bY l:=by
   intro l
   induction l with
   |nil=>intro i _ _ _;rw [bY];trivial
   |cons t l ih=>
    intro i hl ho ha
    rw [bt,Bool.and_eq_true] at ha
    rw [aR] at ho
    rw [bY]
    exact ⟨hl t (by simp) ho.1 ha.1,ih (fun x hx=>hl x (by simp [hx])) ho.2 ha.2⟩
  rw [la,List.all_eq_true] at c
  unfold cJ at a
  simp only [Bool.and_eq_true,decide_eq_true_eq] at a
  obtain ⟨⟨a1,a2,a3,a4⟩,a5⟩:=a
  have r0: ∀ {l:List Cl},l.length=0→RF l:=fun h=>by
   have:=List.length_eq_zero_iff.1 h;subst this;exact pw
  rw [RowsT]
  have hfaces:(sys=[]∨sys.all (bJ kd dims)=true)∧RF r∧(kd=1→r=[]):=by
   have nosys:dr kd=0→sys=[]:=fun h=>List.length_eq_zero_iff.1 (a4 h)
   by_cases c1:kd=1
   ·rw [if_pos c1] at a5
    simp only [Bool.and_eq_true,decide_eq_true_eq] at a5
    exact ⟨.inl (nosys (by subst c1;decide)),r0 a5.1,fun _=>List.length_eq_zero_iff.1 a5.1⟩
   ·rw [if_neg c1] at a5
    by_cases c2:kd=2
    ·rw [if_pos c2] at a5
     simp only [Bool.and_eq_true,decide_eq_true_eq] at a5
     exact ⟨.inl (nosys (by subst c2;decide)),r0 a5.1,fun h=>absurd h c1⟩
    ·rw [if_neg c2] at a5
     by_cases c3:kd=13∨kd=21∨kd=26
     ·rw [if_pos c3,Bool.and_eq_true] at a5
      exact ⟨.inl (nosys (by rcases c3 with rfl|rfl|rfl<;>decide)),(gM o4).1 a5.1,fun h=>absurd h c1⟩
     ·rw [if_neg c3] at a5
      by_cases c4:kd=14
      ·rw [if_pos c4,Bool.and_eq_true] at a5
       unfold bB at a5
       rw [Bool.and_eq_true] at a5
       exact ⟨.inl (nosys (by subst c4;decide)),(gM o4).1 a5.1.1,fun h=>absurd h c1⟩
      ·rw [if_neg c4] at a5
       simp only [Bool.and_eq_true,decide_eq_true_eq] at a5
       exact ⟨.inr a5.1,r0 a5.2,fun h=>absurd h c1⟩
  refine ⟨⟨hfaces.2.1,hfaces.2.2,Pj a1⟩,hkids (fun x hx=>ih1 x hx) ok b, ?_⟩
  rw [rowsS_iff]
  intro br hbr
  have hc:=c br hbr
  rw [List.all_eq_true] at hc
  have hob:=hok.br hbr
  refine ⟨?_,fun x hx=>ih2 br hbr x hx (hob.2 x hx) (hc x hx)⟩
  rcases hfaces.1 with h|h
  ·subst h;cases hbr
  ·have:=List.all_eq_true.1 h br hbr
   unfold bJ bB at this
   simp only [Bool.and_eq_true] at this
   exact (gM hob.1.1).1 this.2.1.1
theorem s_ {vb db:Int} (t:Tm): ∀ {v d e},bH vb db v d t= .error e→0<e∧e≤1000:=by
 induction t using eW with
 |h kd n nm r ks sys ih1 ih2=>
  intro v d e h
  rw [bH] at h
  split at h
  ·injection h with h;omega
  rcases aL h with h|⟨_,_,h⟩
  ·exact E_ h
  have hkids: ∀ {l:List Tm} {i:Nat},(∀x∈l,∀ {v d e},bH vb db v d x= .error e→0<e∧e≤1000)→dg vb db v d kd i l= .error e→0<e∧e≤1000:=by
   intro l
   induction l with
   |nil=>intro i _ h;rw [dg] at h;cases h
   |cons t l ih=>
    intro i hl h
    rw [dg] at h
    rcases aL h with h|⟨_,_,h⟩
    ·exact hl t (by simp) h
    ·rcases aL h with h|⟨_,_,h⟩
     ·exact ih (fun x hx=>hl x (by simp [hx])) h
     ·cases h
  have hmore: ∀ {l:List Tm},(∀x∈l,∀ {v d e},bH vb db v d x= .error e→0<e∧e≤1000)→ ∀ {e},dh vb db v d kd l= .error e→0<e∧e≤1000:=by
   intro l
   induction l with
   |nil=>intro _ e h;rw [dh] at h;cases h
   |cons t l ih=>
    intro hl e h
    rw [dh] at h
    rcases aL h with h|⟨_,_,h⟩
    ·exact hl t (by simp) h
    ·rcases aL h with h|⟨_,_,h⟩
     ·exact ih (fun x hx=>hl x (by simp [hx])) h
     ·cases h
  have hsys: ∀ {l:List (Br Tm)},(∀b∈l,∀x∈b.kids,∀ {v d e},bH vb db v d x= .error e→0<e∧e≤1000)→cu vb db v d kd l= .error e→0<e∧e≤1000:=by
   intro l
   induction l with
   |nil=>intro _ h;rw [cu] at h;cases h
   |cons b l ih=>
    intro hl h
    rw [cu] at h
    rcases aL h with h|⟨_,_,h⟩
    ·cases b with
     |mk f ks'=>
      rw [jy] at h
      rcases aL h with h|⟨_,_,h⟩
      ·exact E_ h
      ·rcases aL h with h|⟨_,_,h⟩
       ·exact hmore (hl (Br.mk f ks') (by simp)) h
       ·cases h
    ·rcases aL h with h|⟨_,_,h⟩
     ·exact ih (fun b hb=>hl b (by simp [hb])) h
     ·cases h
  rcases aL h with h|⟨_,_,h⟩
  ·exact hkids (fun x hx=>ih1 x hx) h
  ·rcases aL h with h|⟨_,_,h⟩
   ·exact hsys ih2 h
   ·cases h
end Go.Proofs.YtapmagaejigpnaaGreatDoor
namespace Go.Proofs.YtapmagaejigpnaaGreatDoor
open Go PI
set_option linter.unusedVariables false
set_option linter.unusedSimpArgs false
variable {S:Type} {k:Nat}
abbrev da:=Int→List Cl→Except Int (List Cl)
mutual
def aQ (fo fa:da) (d:Int):Tm→Except Int Tm
 | .mk kd n nm r ks sys=>bE (if kd=14 then fa d r else fo d r) fun r'=>bE (bn fo fa d kd 0 ks) fun ks'=>bE (aM fo fa d kd sys) fun sys'=> .ok (.mk kd n nm r' ks' sys')
def bn (fo fa:da) (d kd:Int) (i:Nat):List Tm→Except Int (List Tm)
 |[]=> .ok []
 |t::l=>bE (aQ fo fa (d+bj kd i) t) fun t'=>bE (bn fo fa d kd (i+1) l) fun l'=> .ok (t'::l')
def aM (fo fa:da) (d kd:Int):List (Br Tm)→Except Int (List (Br Tm))
 |[]=> .ok []
 |b::l=>bE (dO fo fa d kd b) fun o=>bE (aM fo fa d kd l) fun l'=> .ok (o++l')
def dO (fo fa:da) (d kd:Int):Br Tm→Except Int (List (Br Tm))
 | .mk f ks=>bE (fa d f) fun f'=>if f'.length=0 then .ok [] else bE (bq fo fa d kd ks) fun ks'=> .ok [.mk f' ks']
def bq (fo fa:da) (d kd:Int):List Tm→Except Int (List Tm)
 |[]=> .ok []
 |t::l=>bE (aQ fo fa (d+au kd) t) fun t'=>bE (bq fo fa d kd l) fun l'=> .ok (t'::l')
end
theorem UP {fo fa:da} {d kd:Int} {R:Tm→Tm→Prop}: ∀ {l:List Tm} {i:Nat} {l':List Tm},(∀x∈l,∀d x',aQ fo fa d x= .ok x'→R x x')→bn fo fa d kd i l= .ok l'→F2 R l l':=by
 intro l
 induction l with
 |nil=>intro i l' _ h;rw [bn] at h;injection h with h;subst h;exact .nil
 |cons t l ih=>
  intro i l' hr h
  rw [bn] at h
  obtain ⟨t',h1,h⟩:=ah h
  obtain ⟨m,h2,h⟩:=ah h
  injection h with h;subst h
  exact .cons (hr t (by simp) _ _ h1) (ih (fun x hx=>hr x (by simp [hx])) h2)
theorem UR {fo fa:da} {d kd:Int} {R:Tm→Tm→Prop}: ∀ {l:List Tm} {l':List Tm},(∀x∈l,∀d x',aQ fo fa d x= .ok x'→R x x')→bq fo fa d kd l= .ok l'→F2 R l l':=by
 intro l
 induction l with
 |nil=>intro l' _ h;rw [bq] at h;injection h with h;subst h;exact .nil
 |cons t l ih=>
  intro l' hr h
  rw [bq] at h
  obtain ⟨t',h1,h⟩:=ah h
  obtain ⟨m,h2,h⟩:=ah h
  injection h with h;subst h
  exact .cons (hr t (by simp) _ _ h1) (ih (fun x hx=>hr x (by simp [hx])) h2)
def Wk (x x':Tm):Prop:=aq x'≤aq x∧ax x'≤ax x∧x'.kind=x.kind∧(OkT x→RowsT x→OkT x'∧RowsT x')
theorem H3 {l l':List Tm} (h:F2 Wk l l'):aJ l'≤aJ l:=by
 induction h with
 |nil=>exact Nat.le_refl _
 |cons h1 _ ih=>rw [aJ,aJ];have:=h1.1;omega
theorem H5 {l l':List Tm} (h:F2 Wk l l'):ar l'≤ar l:=by
 induction h with
 |nil=>exact Nat.le_refl _
 |cons h1 _ ih=>rw [ar,ar];have:=h1.2.1;omega
theorem H4 {l l':List Tm} (h:F2 Wk l l'):aR l→bY l→aR l'∧bY l':=by
 induction h with
 |nil=>exact fun h g=>⟨h,g⟩
 |cons h1 _ ih=>
  rw [aR,aR,bY,bY]
  intro h g
  have a:=h1.2.2.2 h.1 g.1
  have b:=ih h.2 g.2
  exact ⟨⟨a.1,b.1⟩,a.2,b.2⟩
theorem UV {fo fa:da} {d kd:Int} (hfa: ∀d f g,RF f→fa d f= .ok g→RF g): ∀ {l l':List (Br Tm)},(∀b∈l,∀x∈b.kids,∀d x',aQ fo fa d x= .ok x'→Wk x x')→aM fo fa d kd l= .ok l'→
  ba l'≤ba l∧ay l'≤ay l∧l'.length≤l.length∧(aX l→cO l→aX l'∧cO l'):=by
 intro l
 induction l with
 |nil=>intro l' _ h;rw [aM] at h;injection h with h;subst h;exact ⟨Nat.le_refl _,Nat.le_refl _,Nat.le_refl _,fun h g=>⟨h,g⟩⟩
 |cons b l ih=>
  intro l' hr h
  rw [aM] at h
  obtain ⟨o,h1,h⟩:=ah h
  obtain ⟨m,h2,h⟩:=ah h
  injection h with h;subst h
  obtain ⟨i1,i2,i3,i4⟩:=ih (fun b hb=>hr b (by simp [hb])) h2
  cases b with
  |mk f ks=>
   rw [dO] at h1
   obtain ⟨f',h3,h1⟩:=ah h1
   split at h1
   ·injection h1 with h1;subst h1
    refine ⟨?_, ?_, ?_,fun ho hg=> ?_⟩
    ·rw [List.nil_append,ba];omega
    ·rw [List.nil_append,ay];omega
    ·rw [List.nil_append,List.length_cons];omega
    ·rw [aX] at ho;rw [cO] at hg
     exact i4 ho.2 hg.2
   ·obtain ⟨ks',h4,h1⟩:=ah h1
    injection h1 with h1;subst h1
    have f2:F2 Wk ks ks':=UR (hr ⟨f,ks⟩ (by simp)) h4
    have hd:=H3 f2
    have hs:=H5 f2
    refine ⟨?_, ?_, ?_,fun ho hg=> ?_⟩
    ·show ba (Br.mk f' ks'::m)≤_
     rw [ba,ba,g0,g0];omega
    ·show ay (Br.mk f' ks'::m)≤_
     rw [ay,ay,f_,f_];omega
    ·simp only [List.length_append,List.length_cons,List.length_nil];omega
    ·rw [aX,eY] at ho;rw [cO,gU] at hg
     have a:=H4 f2 ho.1.2 hg.1.2
     have b:=i4 ho.2 hg.2
     have c:=hfa d f f' hg.1.1 h3
     show aX (Br.mk f' ks'::m)∧cO (Br.mk f' ks'::m)
     rw [aX,eY,cO,gU]
     exact ⟨⟨⟨⟨c.2,by have:=c.len;omega,by rw [f2.len];exact ho.1.1.2.2⟩,a.1⟩,b.1⟩,⟨c,a.2⟩,b.2⟩
theorem HT {fo fa:da} (hfo: ∀d f g,RF f→fo d f= .ok g→RF g) (hfa: ∀d f g,RF f→fa d f= .ok g→RF g) (h0: ∀d,fo d []= .ok []) (t:Tm): ∀d t',aQ fo fa d t= .ok t'→Wk t t':=by
 induction t using eW with
 |h kd n nm r ks sys ih1 ih2=>
  intro d t' h
  rw [aQ] at h
  obtain ⟨r',hr,h⟩:=ah h
  obtain ⟨ks',hk,h⟩:=ah h
  obtain ⟨sys',hs,h⟩:=ah h
  injection h with h;subst h
  have fk:F2 Wk ks ks':=UP ih1 hk
  obtain ⟨s1,s2,s3,s4⟩:=UV hfa ih2 hs
  refine ⟨?_, ?_,rfl,fun hok hro=> ?_⟩
  ·rw [aq,aq];have:=H3 fk;omega
  ·rw [ax,ax];have:=H5 fk;omega
  ·rw [OkT] at hok;rw [RowsT] at hro
   obtain ⟨⟨o1,o2,o3,o4,o5,o6,o7⟩,ok,os⟩:=hok
   obtain ⟨⟨a,b,z⟩,c,e⟩:=hro
   have hk:=H4 fk ok c
   have hs:=s4 os e
   have hrf:RF r':=by
    split at hr
    ·exact hfa d r r' a hr
    ·exact hfo d r r' a hr
   rw [OkT,RowsT]
   refine ⟨⟨⟨o1,o2,o3,hrf.2,by have:=hrf.len;omega,by rw [fk.len];exact o6,by omega⟩,hk.1,hs.1⟩,⟨hrf,fun h1=> ?_,z⟩,hk.2,hs.2⟩
   rw [if_neg (by omega),b h1,h0] at hr
   injection hr with hr;exact hr.symm
section
variable {fo fa:da} {G:Int→List Cl→List Cl}
def cB (f:da) (G:Int→List Cl→List Cl):da:=fun d l=>bE (f d l) fun m=> .ok (G d m)
def ap (G:Int→List Cl→List Cl):da:=fun d l=> .ok (G d l)
theorem uo (t:Tm): ∀d,∃t',aQ (ap G) (ap G) d t= .ok t':=by
 induction t using eW with
 |h kd n nm r ks sys ih1 ih2=>
  intro d
  have hk: ∀ {l:List Tm} {i:Nat},(∀x∈l,∀d,∃t',aQ (ap G) (ap G) d x= .ok t')→ ∃l',bn (ap G) (ap G) d kd i l= .ok l':=by
   intro l
   induction l with
   |nil=>intro i _;exact ⟨[],by rw [bn]⟩
   |cons t l ih=>
    intro i h
    obtain ⟨t',e⟩:=h t (by simp) (d+bj kd i)
    obtain ⟨l',e'⟩:=ih (i:=i+1) fun x hx=>h x (by simp [hx])
    exact ⟨t'::l',by rw [bn,e,ao,e',ao]⟩
  have hm: ∀ {l:List Tm},(∀x∈l,∀d,∃t',aQ (ap G) (ap G) d x= .ok t')→ ∃l',bq (ap G) (ap G) d kd l= .ok l':=by
   intro l
   induction l with
   |nil=>intro _;exact ⟨[],by rw [bq]⟩
   |cons t l ih=>
    intro h
    obtain ⟨t',e⟩:=h t (by simp) (d+au kd)
    obtain ⟨l',e'⟩:=ih fun x hx=>h x (by simp [hx])
    exact ⟨t'::l',by rw [bq,e,ao,e',ao]⟩
  have hs: ∀ {l:List (Br Tm)},(∀b∈l,∀x∈b.kids,∀d,∃t',aQ (ap G) (ap G) d x= .ok t')→ ∃l',aM (ap G) (ap G) d kd l= .ok l':=by
   intro l
   induction l with
   |nil=>intro _;exact ⟨[],by rw [aM]⟩
   |cons b l ih=>
    intro h
    obtain ⟨l',e'⟩:=ih fun b hb=>h b (by simp [hb])
    cases b with
    |mk f ks=>
     obtain ⟨ks',e⟩:=hm (h ⟨f,ks⟩ (by simp))
     have: ∃o,dO (ap G) (ap G) d kd (.mk f ks)= .ok o:=by
      rw [dO,ap,ao]
      split
      ·exact ⟨_,rfl⟩
      ·exact ⟨_,by rw [e,ao]⟩
     obtain ⟨o,e3⟩:=this
     exact ⟨o++l',by rw [aM,e3,ao,e',ao]⟩
  obtain ⟨ks',ek⟩:=hk (i:=0) ih1
  obtain ⟨sys',es⟩:=hs ih2
  refine ⟨.mk kd n nm (G d r) ks' sys', ?_⟩
  have:(if kd=14 then ap G d r else ap G d r)= .ok (G d r):=by split<;>rfl
  rw [aQ,this,ao,ek,ao,es,ao]
theorem UQ (d kd:Int): ∀ (l:List Tm) (i:Nat),∃l',bn (ap G) (ap G) d kd i l= .ok l':=by
 intro l
 induction l with
 |nil=>intro i;exact ⟨[],by rw [bn]⟩
 |cons t l ih=>
  intro i
  obtain ⟨t',e⟩:=uo (G:=G) t (d+bj kd i)
  obtain ⟨l',e'⟩:=ih (i+1)
  exact ⟨t'::l',by rw [bn,e,ao,e',ao]⟩
theorem HR (d kd:Int): ∀ (l:List Tm),∃l',bq (ap G) (ap G) d kd l= .ok l':=by
 intro l
 induction l with
 |nil=>exact ⟨[],by rw [bq]⟩
 |cons t l ih=>
  obtain ⟨t',e⟩:=uo (G:=G) t (d+au kd)
  obtain ⟨l',e'⟩:=ih
  exact ⟨t'::l',by rw [bq,e,ao,e',ao]⟩
theorem UO (d kd:Int) (b:Br Tm): ∃o,dO (ap G) (ap G) d kd b= .ok o:=by
 cases b with
 |mk f ks=>
  obtain ⟨ks',e⟩:=HR (G:=G) d kd ks
  rw [dO,ap,ao]
  split
  ·exact ⟨_,rfl⟩
  ·exact ⟨_,by rw [e,ao]⟩
theorem UT (d kd:Int): ∀ (l:List (Br Tm)),∃l',aM (ap G) (ap G) d kd l= .ok l':=by
 intro l
 induction l with
 |nil=>exact ⟨[],by rw [aM]⟩
 |cons b l ih=>
  obtain ⟨l',e'⟩:=ih
  obtain ⟨o,e⟩:=UO (G:=G) d kd b
  exact ⟨o++l',by rw [aM,e,ao,e',ao]⟩
theorem US (d kd:Int): ∀ (a b:List (Br Tm)),aM fo fa d kd (a++b)=bE (aM fo fa d kd a) fun a'=>bE (aM fo fa d kd b) fun b'=> .ok (a'++b'):=by
 intro a
 induction a with
 |nil=>intro b;rw [List.nil_append,aM,ao];cases aM fo fa d kd b<;>rfl
 |cons x a ih=>
  intro b
  rw [List.cons_append,aM,aM,ih]
  cases dO fo fa d kd x with
  |error e=>rfl
  |ok o=>
   rw [ao,ao]
   cases aM fo fa d kd a with
   |error e=>rfl
   |ok a'=>
    rw [ao,ao]
    cases aM fo fa d kd b with
    |error e=>rfl
    |ok b'=>simp only [ao,List.append_assoc]
theorem UW (hfa: ∀d f g,RF f→fa d f= .ok g→RF g) (hG: ∀d f,RF f→((G d f).length=0↔f.length=0)) (t:Tm): ∀d,RowsT t→bE (aQ fo fa d t) (aQ (ap G) (ap G) d)=aQ (cB fo G) (cB fa G) d t:=by
 induction t using eW with
 |h kd n nm r ks sys ih1 ih2=>
  intro d hrows
  rw [RowsT] at hrows
  obtain ⟨_,hrk,hrs⟩:=hrows
  have hk: ∀ {l:List Tm} {i:Nat},(∀x∈l,∀d,RowsT x→bE (aQ fo fa d x) (aQ (ap G) (ap G) d)=aQ (cB fo G) (cB fa G) d x)→bY l→bE (bn fo fa d kd i l) (bn (ap G) (ap G) d kd i)=bn (cB fo G) (cB fa G) d kd i l:=by
   intro l
   induction l with
   |nil=>intro i _ _;rw [bn,bn,ao,bn]
   |cons t l ih=>
    intro i h hr
    rw [bY] at hr
    have h1:=h t (by simp) (d+bj kd i) hr.1
    have h2:=ih (i:=i+1) (fun x hx=>h x (by simp [hx])) hr.2
    rw [bn,bn,←h1,←h2]
    cases aQ fo fa (d+bj kd i) t with
    |error e=>rfl
    |ok t'=>
     rw [ao,ao]
     obtain ⟨t'',e⟩:=uo (G:=G) t' (d+bj kd i)
     rw [e,ao]
     cases bn fo fa d kd (i+1) l with
     |error e=>rfl
     |ok l'=>
      rw [ao,ao,ao,bn,e,ao]
  have hm: ∀ {l:List Tm},(∀x∈l,∀d,RowsT x→bE (aQ fo fa d x) (aQ (ap G) (ap G) d)=aQ (cB fo G) (cB fa G) d x)→bY l→bE (bq fo fa d kd l) (bq (ap G) (ap G) d kd)=bq (cB fo G) (cB fa G) d kd l:=by
   intro l
   induction l with
   |nil=>intro _ _;rw [bq,bq,ao,bq]
   |cons t l ih=>
    intro h hr
    rw [bY] at hr
    have h1:=h t (by simp) (d+au kd) hr.1
    have h2:=ih (fun x hx=>h x (by simp [hx])) hr.2
    rw [bq,bq,←h1,←h2]
    cases aQ fo fa (d+au kd) t with
    |error e=>rfl
    |ok t'=>
     rw [ao,ao]
     obtain ⟨t'',e⟩:=uo (G:=G) t' (d+au kd)
     rw [e,ao]
     cases bq fo fa d kd l with
     |error e=>rfl
     |ok l'=>
      rw [ao,ao,ao,bq,e,ao]
  have hb: ∀ {b:Br Tm},(∀x∈b.kids,∀d,RowsT x→bE (aQ fo fa d x) (aQ (ap G) (ap G) d)=aQ (cB fo G) (cB fa G) d x)→gU b→bE (dO fo fa d kd b) (aM (ap G) (ap G) d kd)=dO (cB fo G) (cB fa G) d kd b:=by
   intro b h hr
   cases b with
   |mk f ks'=>
    rw [gU] at hr
    have h2:=hm h hr.2
    rw [dO,dO]
    show _=bE (bE (fa d f) fun m=> .ok (G d m)) _
    cases hf:fa d f with
    |error e=>rfl
    |ok f'=>
     rw [ao,ao,ao]
     have hg:=hG d f' (hfa d f f' hr.1 hf)
     by_cases h0:f'.length=0
     ·rw [if_pos h0,if_pos (hg.2 h0),ao,aM]
     ·rw [if_neg h0,if_neg (fun h=>h0 (hg.1 h)),←h2]
      cases bq fo fa d kd ks' with
      |error e=>rfl
      |ok l'=>
       rw [ao,ao,ao,aM,dO]
       show bE (bE (.ok (G d f')) _) _=_
       rw [ao,if_neg (fun h=>h0 (hg.1 h))]
       obtain ⟨l'',e⟩:=HR (G:=G) d kd l'
       rw [e,ao,ao,aM,ao];rfl
  have hs: ∀ {l:List (Br Tm)},(∀b∈l,∀x∈b.kids,∀d,RowsT x→bE (aQ fo fa d x) (aQ (ap G) (ap G) d)=aQ (cB fo G) (cB fa G) d x)→cO l→bE (aM fo fa d kd l) (aM (ap G) (ap G) d kd)=aM (cB fo G) (cB fa G) d kd l:=by
   intro l
   induction l with
   |nil=>intro _ _;rw [aM,aM,ao,aM]
   |cons b l ih=>
    intro h hr
    rw [cO] at hr
    have h1:=hb (h b (by simp)) hr.1
    have h2:=ih (fun b hb=>h b (by simp [hb])) hr.2
    rw [aM,aM,←h1,←h2]
    cases dO fo fa d kd b with
    |error e=>rfl
    |ok o=>
     rw [ao,ao]
     obtain ⟨o',e⟩:=UT (G:=G) d kd o
     rw [e,ao]
     cases aM fo fa d kd l with
     |error e=>rfl
     |ok l'=>
      rw [ao,ao,ao,US,e,ao]
  rw [aQ,aQ,←hk (i:=0) ih1 hrk,←hs ih2 hrs]
  have hrow:(if kd=14 then cB fa G d r else cB fo G d r)=bE (if kd=14 then fa d r else fo d r) fun m=> .ok (G d m):=by split<;>rfl
  rw [hrow]
  cases (if kd=14 then fa d r else fo d r) with
  |error e=>rfl
  |ok r'=>
   rw [ao,ao,ao]
   cases bn fo fa d kd 0 ks with
   |error e=>rfl
   |ok ks'=>
    rw [ao,ao]
    obtain ⟨ks'',ek⟩:=UQ (G:=G) d kd ks' 0
    rw [ek,ao]
    cases aM fo fa d kd sys with
    |error e=>rfl
    |ok sys'=>
     rw [ao,ao,ao,aQ]
     have:(if kd=14 then ap G d r' else ap G d r')= .ok (G d r'):=by split<;>rfl
     rw [this,ao,ek,ao]
end
end Go.Proofs.YtapmagaejigpnaaGreatDoor
namespace Go.Proofs.YtapmagaejigpnaaGreatDoor
open Go PI
set_option linter.unusedVariables false
set_option linter.unusedSimpArgs false
set_option maxRecDepth 20000
variable {S:Type} {k:Nat}
theorem Pk (kd:Int):(kd<0∨kd>28)∨(∃n:Nat,n<29∧kd=n):=by
 by_cases h:kd<0∨kd>28
 ·exact .inl h
 ·exact .inr ⟨kd.toNat,by omega,by omega⟩
theorem S6 (kd:Int) (ret:Int→Option S):rZ k kd ret=ret (fO kd):=by
 simp only [rZ,Hr]
 rcases Pk kd with h|⟨n,hn,rfl⟩
 ·simp only [ew,beq_iff_eq]
  unfold fO
  rw [if_pos h]
  repeat rw [if_neg (by omega)]
 ·unfold fO
  rw [if_neg (by omega),Int.toNat_natCast]
  match n,hn with
  |0,_=>rfl
  |1,_=>rfl
  |2,_=>rfl
  |3,_=>rfl
  |4,_=>rfl
  |5,_=>rfl
  |6,_=>rfl
  |7,_=>rfl
  |8,_=>rfl
  |9,_=>rfl
  |10,_=>rfl
  |11,_=>rfl
  |12,_=>rfl
  |13,_=>rfl
  |14,_=>rfl
  |15,_=>rfl
  |16,_=>rfl
  |17,_=>rfl
  |18,_=>rfl
  |19,_=>rfl
  |20,_=>rfl
  |21,_=>rfl
  |22,_=>rfl
  |23,_=>rfl
  |24,_=>rfl
  |25,_=>rfl
  |26,_=>rfl
  |27,_=>rfl
  |28,_=>rfl
  |n+29,h=>exact absurd h (by omega)
theorem kT (kd i:Int) (ret:Int×Int→Option S):gZ k kd i ret=ret (dj kd i,bj kd i):=by
 simp only [gZ,Hp,ew,beq_iff_eq]
 unfold dj bj
 repeat' split
 all_goals first|rfl|(exfalso;omega)
theorem FC (kd:Int) (ret:Int→Option S):i9 k kd ret=ret (dr kd):=by
 simp only [i9,Hs,ew,beq_iff_eq]
 unfold dr
 repeat' split
 all_goals first|rfl|(exfalso;omega)
theorem Lq (s t:ByteArray):(s==t)=decide (s=t):=by
 obtain ⟨a⟩:=s;obtain ⟨b⟩:=t
 show (a==b)=_
 rw [Bool.eq_iff_iff,beq_iff_eq,decide_eq_true_eq]
 constructor
 ·rintro rfl;rfl
 ·intro h;injection h
theorem C7 (s:ByteArray):(s==ByteArray.empty)=decide (s.size=0):=by
 rw [Lq,Bool.eq_iff_iff,decide_eq_true_eq,decide_eq_true_eq]
 constructor
 ·rintro rfl;rfl
 ·intro h
  obtain ⟨⟨l⟩⟩:=s
  have:l.length=0:=h
  rw [List.length_eq_zero_iff] at this
  subst this;rfl
theorem pO (s:ByteArray):(s.size:Int)=(s.data.toList.length:Int):=by
 obtain ⟨⟨l⟩⟩:=s;rfl
def gF (p:List UInt8) (r:List UInt8):Bool:=match p with
 |[]=>o0 r
 |_::_=>r.all fun d=>jx d||oq d
theorem QY (p:List UInt8) (x:UInt8) (r:List UInt8):gF p (x::r)=((jx x||(decide (p≠[])&&oq x))&&gF (p++[x]) r):=by
 cases p with
 |nil=>simp [gF,o0]
 |cons c l=>simp [gF]
theorem QZ {p:List UInt8}:gF p []=decide (p.length≠0):=by
 cases p with
 |nil=>rfl
 |cons c l=>simp [gF]
theorem P3 (hk:Fu k) (ret:Bool→Option S) {s:ByteArray} (hs:s.size<2147483648):
  ∀ (r p:List UInt8) (m:Nat),s.data.toList=p++r→r.length<m→kx k ret s m (p.length:Int)=ret (gF p r):=by
 obtain ⟨q,rfl⟩: ∃q,k=q+1:=⟨k-1,by have:4294967296≤k:=hk;omega⟩
 have hs':s.data.toList.length<2147483648:=by have:=pO s;omega
 intro r
 induction r with
 |nil=>
  intro p m h hm
  obtain ⟨m,rfl,hm'⟩:=am hm
  simp only [kx,nK,pO,aU h,ad,C7,QZ]
  have:s.size=p.length:=by have:=pO s;rw [h,List.append_nil] at this;omega
  rw [this]
  by_cases h0:p.length=0<;>simp [h0]
 |cons x r ih=>
  intro p m h hm
  obtain ⟨m,rfl,hm'⟩:=am hm
  obtain ⟨e1,e2,e3,e4⟩:=aS h (by omega)
  have hi:=ih (p++[x]) m e4 hm'
  rw [QY]
  simp only [kx,nK,pO,e1,ag,e2,Option.bind_some,b9,sZ,vf,e3,hi]
  have hl: ∀b:Bool,b=jx x→ab (!b) (ab (((p.length:Nat):Int)==0) (ret false) (if ((x.toNat:Nat):Int)<48 then ret false else if ((x.toNat:Nat):Int)>57 then ret false else ret (gF (p++[x]) r))) (ret (gF (p++[x]) r))=ret ((jx x||(decide (p≠[])&&oq x))&&gF (p++[x]) r):=by
   rintro b rfl
   cases jx x with
   |true=>rw [Bool.not_true,ad];simp
   |false=>
    rw [Bool.not_false,ag,ew]
    by_cases hp:p=[]
    ·subst hp;simp
    ·have h0: ¬ (((p.length:Nat):Int)==0)=true:=by
      have:0<p.length:=List.length_pos_iff.2 hp
      simp;exact hp
     rw [if_neg h0,decide_eq_true hp]
     unfold oq
     by_cases c1:x.toNat<48
     ·rw [if_pos (by omega),decide_eq_false (by omega)];simp
     ·rw [if_neg (by omega),decide_eq_true (by omega)]
      by_cases c2:x.toNat>57
      ·rw [if_pos (by omega),decide_eq_false (by omega)];simp
      ·rw [if_neg (by omega),decide_eq_true (by omega)];simp
  have hb: ∀n:Nat,(((n:Nat):Int)==95)=decide (n=95):=fun n=>by
   rw [Bool.eq_iff_iff];simp;omega
  have hlt:jx x=(decide (97≤x.toNat)&&decide (x.toNat≤122)||decide (65≤x.toNat)&&decide (x.toNat≤90)||decide (x.toNat=95)):=rfl
  by_cases c1:97≤x.toNat
  ·rw [if_pos (show ((x.toNat:Nat):Int)≥97 by omega)]
   by_cases c2:x.toNat≤122
   ·rw [if_pos (by omega)]
    exact hl true (by rw [hlt,decide_eq_true c1,decide_eq_true c2];rfl)
   ·rw [if_neg (by omega),if_pos (by omega),if_neg (by omega),hb]
    exact hl _ (by rw [hlt,decide_eq_false c2,decide_eq_false (show ¬x.toNat≤90 by omega)];simp)
  ·rw [if_neg (show ¬ ((x.toNat:Nat):Int)≥97 by omega)]
   by_cases c3:65≤x.toNat
   ·rw [if_pos (show ((x.toNat:Nat):Int)≥65 by omega)]
    by_cases c4:x.toNat≤90
    ·rw [if_pos (by omega)]
     exact hl true (by rw [hlt,decide_eq_true c3,decide_eq_true c4];simp)
    ·rw [if_neg (by omega),hb]
     exact hl _ (by rw [hlt,decide_eq_false c1,decide_eq_false c4];simp)
   ·rw [if_neg (show ¬ ((x.toNat:Nat):Int)≥65 by omega),hb]
    exact hl _ (by rw [hlt,decide_eq_false c1,decide_eq_false c3];simp)
theorem Tv (hk:Fu k) {s:ByteArray} (hs:s.size<2147483648) (ret:Bool→Option S):sa k s ret=ret (o0 s.data.toList):=by
 simp only [sa,zz]
 have:=P3 hk ret hs s.data.toList [] k rfl (by have:=pO s;have:4294967296≤k:=hk;omega)
 exact this
end Go.Proofs.YtapmagaejigpnaaGreatDoor
namespace Go.Proofs.YtapmagaejigpnaaGreatDoor
open Go PI
set_option linter.unusedVariables false
set_option linter.unusedSimpArgs false
set_option maxRecDepth 20000
variable {S:Type} {k:Nat}
theorem s9 (n:Nat):(((n:Nat):Int)==0)=decide (n=0):=by rw [Bool.eq_iff_iff];simp
theorem P6 (hk:Fu k) (ret:Bool→Option S) {t:Tm} {dims:Int} (hd:0≤dims) (hd':dims<9223372036854775808) (hs: ∀b∈t.sys,al b.face∧b.face.length<1073741824) (hlen:t.sys.length<1073741824):
  ∀ (r p:List (Br Tm)) (m:Nat),t.sys=p++r→r.length<m→ig k ret t dims m (p.length:Int)=ret (r.all (bJ t.kind dims)&&decide (t.r.length=0)):=by
 intro r
 induction r with
 |nil=>
  intro p m h hm
  obtain ⟨m,rfl,hm'⟩:=am hm
  simp only [ig,qW,aU h,ad,s9,List.all_nil,Bool.true_and]
 |cons x r ih=>
  intro p m h hm
  obtain ⟨m,rfl,hm'⟩:=am hm
  obtain ⟨e1,e2,e3,e4⟩:=aS h (by omega)
  have hx:=hs x (by rw [h];simp)
  have hb:((x.kids.length:Int)==dr t.kind)=decide ((x.kids.length:Int)=dr t.kind):=by rw [Bool.eq_iff_iff];simp
  simp only [ig,qW,e1,ag,e2,Option.bind_some,aj hk,FC,pJ hk hx.1 (show x.face.length<2147483648 by omega),FZ hk hx.1 (show x.face.length<4294967296 by omega) hd hd',e3,ih (p++[x]) m e4 hm',List.all_cons,hb]
  have:bJ t.kind dims x=(decide ((x.kids.length:Int)=dr t.kind)&&(bB x.face&&bX x.face dims)):=rfl
  rw [this]
  cases decide ((x.kids.length:Int)=dr t.kind) with
  |false=>rw [Bool.not_false,ag];rfl
  |true=>
   rw [Bool.not_true,ad]
   cases bB x.face with
   |false=>rw [Bool.not_false,ag];rfl
   |true=>
    rw [Bool.not_true,ad]
    cases bX x.face dims with
    |false=>rw [Bool.not_false,ag];rfl
    |true=>rw [Bool.not_true,ad];rfl
theorem F6 {S:Type} (b c:Bool) (ret:Bool→Option S):ab b (ret c) (ret false)=ret (b&&c):=by
 cases b<;>rfl
def kM (vars dims:Int) (t:Tm):Bool:=
 if t.kind=1 then decide (t.r.length=0)&&(decide (0≤t.n)&&decide (vars<0∨t.n<vars))
   else if t.kind=2 then decide (t.r.length=0)&&o0 t.name.data.toList
   else if t.kind=13∨t.kind=21∨t.kind=26 then bA t.r&&bX t.r dims
   else if t.kind=14 then bB t.r&&bX t.r dims
   else t.sys.all (bJ t.kind dims)&&decide (t.r.length=0)
theorem RM (vars dims:Int) (t:Tm):cJ vars dims t=((decide (fO t.kind=t.kids.length)&&(decide (t.kind=1∨t.n=0)&&(decide (t.kind=2∨t.name.size=0)&&decide (dr t.kind=0→t.sys.length=0))))&&kM vars dims t):=by
 cases t;rfl
def K7 (t:Tm):Prop:=aA t.kind∧aA t.n∧t.name.size<1073741824∧al t.r∧t.r.length<1073741824∧t.kids.length<1073741824∧t.sys.length<1073741824
theorem OkT.no {t:Tm} (h:OkT t):K7 t:=by cases t;exact h.node
theorem OkT.ki {t x:Tm} (h:OkT t) (hx:x∈t.kids):OkT x:=by cases t;exact h.kid hx
theorem OkT.bi {t:Tm} {b:Br Tm} (h:OkT t) (hb:b∈t.sys):(al b.face∧b.face.length<1073741824∧b.kids.length<1073741824)∧ ∀t∈b.kids,OkT t:=by cases t;exact h.br hb
theorem TD (hk:Fu k) {t:Tm} (ht:OkT t) {vars dims:Int} (hd:0≤dims) (hd':dims<9223372036854775808) (ret:Bool→Option S):s8 k ret t vars dims k=ret (kM vars dims t):=by
 obtain ⟨o1,o2,o3,o4,o5,o6,o7⟩:=ht.no
 have hb:=fun b hb=>(ht.bi (b:=b) hb).1
 obtain ⟨q,hq⟩: ∃q,k=q+1:=⟨k-1,by have:4294967296≤k:=hk;omega⟩
 have: ∀j,j=q+1→s8 k ret t vars dims j=nL k ret t vars dims (fun v109=>ig k ret t dims k v109):=by rintro j rfl;rfl
 rw [this k hq]
 have hl:=P6 hk ret hd hd' (fun b h=>⟨(hb b h).1,(hb b h).2.1⟩) o7 t.sys [] k rfl (by have:4294967296≤k:=hk;omega)
 have hl:ig k ret t dims k 0=_:=hl
 simp only [nL,aj hk,Tv hk (show t.name.size<2147483648 by omega),m6 hk o4 (show t.r.length<2147483648 by omega),pJ hk o4 (show t.r.length<2147483648 by omega),FZ hk o4 (show t.r.length<4294967296 by omega) hd hd',hl,s9,F6]
 have hv:ab (decide (t.n≥0)) (ab (decide (vars<0)) (ret true) (ret (decide (t.n<vars)))) (ret false)=ret (decide (0≤t.n)&&decide (vars<0∨t.n<vars)):=by
  rw [b9,b9]
  by_cases h1:t.n≥0
  ·rw [if_pos h1,decide_eq_true (show 0≤t.n from h1),Bool.true_and]
   by_cases h2:vars<0
   ·rw [if_pos h2,decide_eq_true (.inl h2)]
   ·rw [if_neg h2];congr 1;rw [decide_eq_decide];omega
  ·rw [if_neg h1,decide_eq_false (show ¬0≤t.n from h1)];rfl
 rw [hv,F6]
 simp only [ew,beq_iff_eq]
 unfold kM
 by_cases c1:t.kind=1
 ·rw [if_pos c1,if_pos c1]
 ·rw [if_neg c1,if_neg c1]
  by_cases c2:t.kind=2
  ·rw [if_pos c2,if_pos c2]
  ·rw [if_neg c2,if_neg c2]
   by_cases c3:t.kind=13
   ·rw [if_pos c3,if_pos (.inl c3)]
   ·rw [if_neg c3]
    by_cases c4:t.kind=21
    ·rw [if_pos c4,if_pos (.inr (.inl c4))]
    ·rw [if_neg c4]
     by_cases c5:t.kind=26
     ·rw [if_pos c5,if_pos (.inr (.inr c5))]
     ·rw [if_neg c5,if_neg (show ¬ (t.kind=13∨t.kind=21∨t.kind=26) by omega)]
      by_cases c6:t.kind=14
      ·rw [if_pos c6,if_pos c6]
      ·rw [if_neg c6,if_neg c6]
theorem TC (hk:Fu k) {t:Tm} (ht:OkT t) {vars dims:Int} (hd:0≤dims) (hd':dims<9223372036854775808) (ret:Bool→Option S):oh k t vars dims ret=ret (cJ vars dims t):=by
 have hq:(fO t.kind==(t.kids.length:Int))=decide (fO t.kind=t.kids.length):=by rw [Bool.eq_iff_iff];simp
 have hp:(dr t.kind==0)=decide (dr t.kind=0):=bO _
 simp only [oh,zA,aj hk,S6,FC,TD hk ht hd hd',C7,hq,hp,bO,RM]
 have hsy:ab (decide (dr t.kind=0)) (ab (decide (((t.sys.length:Nat):Int)>0)) (ret false) (ret (kM vars dims t))) (ret (kM vars dims t))=ret (decide (dr t.kind=0→t.sys.length=0)&&kM vars dims t):=by
  rw [b9,b9]
  by_cases h1:dr t.kind=0
  ·rw [if_pos h1]
   by_cases h2:t.sys.length=0
   ·rw [if_neg (by omega),decide_eq_true (fun _=>h2)];rfl
   ·rw [if_pos (by omega),decide_eq_false (fun h=>h2 (h h1))];rfl
  ·rw [if_neg h1,decide_eq_true (fun h=>absurd h h1)];rfl
 simp only [hsy]
 have hk1: ∀n:Int,(t.kind==n)=decide (t.kind=n):=fun n=>by rw [Bool.eq_iff_iff];simp
 rw [hk1,hk1]
 generalize decide (dr t.kind=0→t.sys.length=0)=P
 generalize kM vars dims t=Q
 cases decide (fO t.kind=t.kids.length) with
 |false=>rw [Bool.not_false,ag];rfl
 |true=>
  rw [Bool.not_true,ad,Bool.true_and]
  by_cases c1:t.kind=1
  ·rw [decide_eq_true c1,Bool.not_true,ad,decide_eq_true (p:=t.kind=1∨t.n=0) (.inl c1),Bool.true_and]
   by_cases c2:t.kind=2
   ·omega
   ·rw [decide_eq_false c2,Bool.not_false,ag]
    by_cases c3:t.name.size=0
    ·rw [decide_eq_true c3,Bool.not_true,ad,decide_eq_true (p:=t.kind=2∨t.name.size=0) (.inr c3),Bool.true_and]
    ·rw [decide_eq_false c3,Bool.not_false,ag,decide_eq_false (p:=t.kind=2∨t.name.size=0) (by omega)];rfl
  ·rw [decide_eq_false c1,Bool.not_false,ag]
   by_cases c4:t.n=0
   ·rw [decide_eq_true c4,Bool.not_true,ad,decide_eq_true (p:=t.kind=1∨t.n=0) (.inr c4),Bool.true_and]
    by_cases c2:t.kind=2
    ·rw [decide_eq_true c2,Bool.not_true,ad,decide_eq_true (p:=t.kind=2∨t.name.size=0) (.inl c2),Bool.true_and]
    ·rw [decide_eq_false c2,Bool.not_false,ag]
     by_cases c3:t.name.size=0
     ·rw [decide_eq_true c3,Bool.not_true,ad,decide_eq_true (p:=t.kind=2∨t.name.size=0) (.inr c3),Bool.true_and]
     ·rw [decide_eq_false c3,Bool.not_false,ag,decide_eq_false (p:=t.kind=2∨t.name.size=0) (by omega)];rfl
   ·rw [decide_eq_false c4,Bool.not_false,ag,decide_eq_false (p:=t.kind=1∨t.n=0) (by omega)];rfl
end Go.Proofs.YtapmagaejigpnaaGreatDoor
