/- Part 4 of a proof: the sources, with their names and remarks, lie in wip/. -/
import Derived.Test.YtgajalidbabccaaGreatDoorX3
open Bool renaming and_eq_true→ak,not_false→dr,not_true→dT
open ByteArray renaming empty→au
open Eq renaming trans→aq
open Go.IntKind renaming wrap→af
open Int renaming add_zero→dH,le_refl→eD,toNat_natCast→ir
open List renaming all_cons→iO,all_eq_true→d7,mem_cons→eb,nil_append→fq
open Nat renaming le_refl→eh,zero_add→jd
open Option renaming bind→ag,bind_some→aV
set_option linter.unusedVariables false
set_option linter.unusedSimpArgs false
namespace Go.Proofs.YtgajalidbabccaaGreatDoor
open Go PI _root_.Go.Proofs.Tryz
set_option maxRecDepth 100000
noncomputable section
variable {S:Type} {o:Obj} (k:Nat)
def DI:Rw S:=ai MJ xn fun l Z=>aa k (tH k l) (bY Z)
def E6:Fx S:=fp 15 [(140,te k)] [(2,dw [5,6,7] [],a8 4 5)] k f141 0
def NV (l:List (List Cl)) (v7:Int):St UU:=⟨[(5,(DZ l .none)),(6,(iI l.length)),(7,(iI v7))],[],[],[]⟩
section
variable (k:Nat) (l:List (List Cl)) (Z:Out UU->Option S)
theorem Xm: ∀n v7,(E6 k).lp Z 2 [] n (NV l v7)=ux k (bY Z) l n v7:=jl (Ae k (bY Z) l)
end
theorem Gx (ho:aj o):Tl o 141 (DI k:Rw S):=am (E6 k) ⟨tY k ho,trivial⟩ func141 fun l Z x h=>aq (b:=Jw k (bY Z) (fun v7=>(E6 k).lp Z 2 [] k (NV l v7)) l) (by kernel_rfl) (aq (by simp only [Xm];rfl) (dt h))
def DJ:Rw S:=ai cn xn fun Z=>aa k (rE k) (agX Z)
def Vs:Fx S:=fx 1 (fun _=>[]) (fun _=>false) [] [] k f143 false [true] 0
theorem Gy (ho:aj o):Tl o 143 (DJ k:Rw S):=am (Vs k) trivial func143 fun Z x h=>ay h
def Il:Rw S:=ai nK xn fun i Z=>aa k (tQ k i) (qx Z)
def Vt:Fx S:=fp 9 [] [] k f244 0
theorem LG (ho:aj o):Tl o 244 (Il k:Rw S):=am (Vt k) trivial func244 fun i Z x h=>ay h
def Qx:Rw S:=ai acY xn fun s a_from a_by Z=>aa k (pO k s a_from a_by) (agY Z)
def Vu:Fx S:=fp 46 [(244,Il k)] [] k f225 0
theorem aaR (ho:aj o):Tl o 225 (Qx k:Rw S):=am (Vu k) ⟨LG k ho,trivial⟩ func225 fun s a_from a_by Z x h=>ay h
def Qy:Rw S:=ai acZ xn fun c a_from a_by Z=>aa k (Ba k c a_from a_by) (ag0 Z)
def Vv:Fx S:=fp 42 [(224,Id k),(225,Qx k)] [] k f145 0
theorem aaS (ho:aj o):Tl o 145 (Qy k:Rw S):=am (Vv k) ⟨Lw k ho,aaR k ho,trivial⟩ func145 fun c a_from a_by Z x h=>ay h
def Qz:Rw S:=ai ac0 Ey fun a_have c c0 c1 Z=>aa k (F1 k a_have c c0 c1) (ag1 c0 c1 Z)
def Vw:Fx S:=fx 22 (fun _=>[]) (fun _=>false) [(145,Qy k)] [] k f144 false [true,false] 2
theorem aaT (ho:aj o):Tl o 144 (Qz k:Rw S):=am (Vw k) ⟨aaS k ho,trivial⟩ func144 fun a_have c c0 c1 Z x h=>ay h
def QA:Rw S:=ai ac1 Ey fun l a_from c0 c1 Z=>aa k (Bx k l a_from c0 c1) (Dh c0 c1 Z)
def E7:Fx S:=fx 33 (fun|23=>[true,false]|_=>[]) (fun _=>false) [(144,Qz k)] [(2,⟨[(1,aQ 100001),(2,ab),(13,ab),(14,ab),(15,ab)],[(1000000,[ab]),(1000001,[ab])]⟩,a8 4 5)] k f142 false [] 2
def NW (c0 c1:Int) (l:List Cl) (v1:List Cl) (v15:Int):St UU:=⟨[(1,(.own 100001 0)),(2,(.func 144 [] [(pt 1000000),(pt 1000001)])),(13,(sC l)),(14,(iI l.length)),(15,(iI v15))],[(1000000,bI c0),(1000001,bI c1)],[(100001,⟨0,ET.C,v1⟩)],[(100001,.wr)]⟩
section
variable (k:Nat) (l a_from:List Cl) (c0 c1:Int) (Z:Out UU->Option S)
theorem Xn: ∀n v1 v15,(E7 k).lp Z 2 [] n (NW c0 c1 l v1 v15)=uu k (Dh c0 c1 Z) c0 c1 l n v1 v15:=dp (Ab k (Dh c0 c1 Z) c0 c1 l)
end
theorem aaU (ho:aj o):Tl o 142 (QA k:Rw S):=am (E7 k) ⟨aaT k ho,trivial⟩ func142 fun l a_from c0 c1 Z x h=>aq (b:=Jt k (Dh c0 c1 Z) (fun v1 v15=>(E7 k).lp Z 2 [] k (NW c0 c1 l v1 v15)) l a_from c0 c1) (by kernel_rfl) (aq (by simp only [Xn];rfl) (dt h))
def tf:Rw S:=ai ac2 xn fun f a_from a_by Z=>aa k (om k f a_from a_by) (cR Z)
def Vx:Fx S:=fx 31 (fun|21=>[false,true,false]|_=>[]) (fun _=>false) [(141,DI k),(142,QA k),(143,DJ k),(146,mW k)] [] k f75 false [] 0
theorem tZ (ho:aj o):Tl o 75 (tf k:Rw S):=am (Vx k) ⟨Gx k ho,aaU k ho,Gy k ho,nG k ho,trivial⟩ func75 fun f a_from a_by Z x h=>ay h
def QE:Rw S:=ai ac3 xn fun l_0 l_1 f a_from Z=>aa k (w6 k l_0 l_1 f a_from) (ag2 Z)
def Vy:Fx S:=fp 31 [(75,tf k)] [] k f165 0
theorem aaW (ho:aj o):Tl o 165 (QE k:Rw S):=am (Vy k) ⟨tZ k ho,trivial⟩ func165 fun l_0 l_1 f a_from Z x h=>ay h
def yR (hd:kK S):Rw S:=ai ac4 xn fun l_0 l_1 t v d Z=>hd l_0 l_1 t v d (eH Z)
def n9 (hd:kK S) (k:Nat):Fx S:=fp 128 [(49,mV k),(85,yR hd),(165,QE k)] [(1000006,⟨[(2,ab),(3,ab),(4,ab),(5,ab),(8,ab),(9,ab)],[(4,[ab,ab]),(5,[ab,ab,ab,ab,ab,ab]),(8,[ab,ab,ab,aQ 200515,aQ 200516,aQ 200517]),(9,[ab,ab,ab,ab,aQ 200580,aQ 200581])]⟩,a8 3 7),(7,⟨[(2,ab),(3,ab),(4,ab),(5,ab),(8,ab),(9,ab),(55,ab),(56,ab),(57,ab)],[(4,[ab,ab]),(5,[ab,ab,ab,ab,ab,ab]),(8,[ab,ab,ab,aQ 200515,aQ 200516,aQ 200517]),(9,[ab,ab,ab,ab,aQ 200580,aQ 200581])]⟩,a8 6 23),(16,⟨[(2,ab),(3,ab),(4,ab),(8,ab),(9,ab),(14,ab),(88,ab),(89,ab),(90,ab)],[(4,[ab,ab]),(8,[ab,ab,ab,aQ 200515,aQ 200516,aQ 200517]),(9,[ab,ab,ab,ab,aQ 200580,aQ 200581])]⟩,a8 9 191),(20,⟨[(2,ab),(3,ab),(4,ab),(8,ab),(9,ab),(14,ab),(17,ab),(88,ab),(89,ab),(90,ab),(101,ab),(102,ab),(103,ab)],[(4,[ab,ab]),(8,[ab,ab,ab,aQ 200515,aQ 200516,aQ 200517]),(9,[ab,ab,ab,ab,aQ 200580,aQ 200581]),(17,[ab,aQ 201089])]⟩,a8 19 183487)] k f85 0
def NX (l_0 l_1:Int) (t:Tm) (r2:List Cl) (v d:Int) (bX:Int):St UU:=⟨[(2,(iI v)),(3,(iI d)),(4,(pt 4)),(5,(pt 5)),(8,(pt 8)),(9,(pt 9))],[(4,.cells [(iI l_0),(iI l_1)]),(5,bT t),(8,.cells [(iI 0),(iI 0),jv,(.own 200515 0),(.own 200516 0),(.own 200517 0)]),(9,.cells [(iI t.kind),(iI bX),(.str t.name),(sC r2),(.own 200580 0),(.own 200581 0)])],[(200581,gP),(200580,je),(200517,gP),(200516,je),(200515,iP)],[(200581,.wr),(200580,.wr),(200517,.wr),(200516,.wr),(200515,.wr)]⟩
def HA (l_0 l_1:Int) (t:Tm) (bX:Int) (r2:List Cl) (v d:Int) (b9_4:List Tm) (v57:Int):St UU:=⟨[(2,(iI v)),(3,(iI d)),(4,(pt 4)),(5,(pt 5)),(8,(pt 8)),(9,(pt 9)),(55,(sT t.kids)),(56,(iI t.kids.length)),(57,(iI v57))],[(4,.cells [(iI l_0),(iI l_1)]),(5,bT t),(8,.cells [(iI 0),(iI 0),jv,(.own 200515 0),(.own 200516 0),(.own 200517 0)]),(9,.cells [(iI t.kind),(iI bX),(.str t.name),(sC r2),(.own 200580 0),(.own 200581 0)])],[(200581,gP),(200580,⟨0,ET.T,b9_4⟩),(200517,gP),(200516,je),(200515,iP)],[(200581,.wr),(200580,.wr),(200517,.wr),(200516,.wr),(200515,.wr)]⟩
def yi (l_0 l_1:Int) (t:Tm) (bX:Int) (r2:List Cl) (b9_4:List Tm) (v d:Int) (b9_5:List (Br Tm)) (more14 v90:Int):St UU:=⟨[(2,(iI v)),(3,(iI d)),(4,(pt 4)),(8,(pt 8)),(9,(pt 9)),(14,(iI more14)),(88,(sB t.sys)),(89,(iI t.sys.length)),(90,(iI v90))],[(4,.cells [(iI l_0),(iI l_1)]),(8,.cells [(iI 0),(iI 0),jv,(.own 200515 0),(.own 200516 0),(.own 200517 0)]),(9,.cells [(iI t.kind),(iI bX),(.str t.name),(sC r2),(.own 200580 0),(.own 200581 0)])],[(200581,⟨0,ET.B,b9_5⟩),(200580,⟨0,ET.T,b9_4⟩),(200517,gP),(200516,je),(200515,iP)],[(200581,.wr),(200580,.wr),(200517,.wr),(200516,.wr),(200515,.wr)]⟩
def NY (r12:List Cl) (l_0 l_1:Int) (t:Tm) (bX:Int) (r2:List Cl) (b9_4:List Tm) (b9_5:List (Br Tm)) (x10:(Br Tm)) (more14 v d v90:Int) (b17_1:List Tm) (v103:Int):St UU:=⟨[(2,(iI v)),(3,(iI d)),(4,(pt 4)),(8,(pt 8)),(9,(pt 9)),(14,(iI more14)),(17,(pt 17)),(88,(sB t.sys)),(89,(iI t.sys.length)),(90,(iI v90)),(101,(sT x10.kids)),(102,(iI x10.kids.length)),(103,(iI v103))],[(4,.cells [(iI l_0),(iI l_1)]),(8,.cells [(iI 0),(iI 0),jv,(.own 200515 0),(.own 200516 0),(.own 200517 0)]),(9,.cells [(iI t.kind),(iI bX),(.str t.name),(sC r2),(.own 200580 0),(.own 200581 0)]),(17,.cells [(sC r12),(.own 201089 0)])],[(201089,⟨0,ET.T,b17_1⟩),(200581,⟨0,ET.B,b9_5⟩),(200580,⟨0,ET.T,b9_4⟩),(200517,gP),(200516,je),(200515,iP)],[(201089,.wr),(200581,.wr),(200580,.wr),(200517,.wr),(200516,.wr),(200515,.wr)]⟩
section
variable (hd:kK S) (k:Nat) (l_0 l_1:Int) (t:Tm) (v d:Int) (Z:Out UU->Option S)
theorem Xr (r12 bX r2 b9_4 b9_5 x10 more14 v90 Z2): ∀n b17_1 v103,(n9 hd k).lp Z 20 [Z2] n (NY r12 l_0 l_1 t bX r2 b9_4 b9_5 x10 more14 v d v90 b17_1 v103)=qk hd k (eH Z) (fun b9_5 more14 v90=>Z2 (yi l_0 l_1 t bX r2 b9_4 v d b9_5 more14 v90)) r12 l_0 l_1 t bX r2 b9_4 b9_5 x10 more14 v d v90 n b17_1 v103:=dp (Aq hd k (eH Z) r12 l_0 l_1 t bX r2 b9_4 b9_5 x10 more14 v d v90 (fun b9_5 more14 v90=>Z2 (yi l_0 l_1 t bX r2 b9_4 v d b9_5 more14 v90)))
theorem Xq (bX r2 b9_4): ∀n b9_5 more14 v90,(n9 hd k).lp Z 16 [] n (yi l_0 l_1 t bX r2 b9_4 v d b9_5 more14 v90)=mG hd k (eH Z) l_0 l_1 t bX r2 b9_4 v d n b9_5 more14 v90:=lm (fun own=>wa hd k (eH Z) l_0 l_1 t bX r2 b9_4 v d (fun r12 b9_5 x10 more14 v90 b17_1 v103=>qk hd k (eH Z) own r12 l_0 l_1 t bX r2 b9_4 b9_5 x10 more14 v d v90 k b17_1 v103) own) rfl (fun _=>rfl) fun r b9_5 more14 v90=>aq (b:=wa hd k (eH Z) l_0 l_1 t bX r2 b9_4 v d (fun r12 b9_5 x10 more14 v90 b17_1 v103=>(n9 hd k).lp Z 20 [r] k (NY r12 l_0 l_1 t bX r2 b9_4 b9_5 x10 more14 v d v90 b17_1 v103)) (fun b9_5 more14 v90=>r (yi l_0 l_1 t bX r2 b9_4 v d b9_5 more14 v90)) b9_5 more14 v90) (by kernel_rfl) (by simp only [Xr])
theorem Xp (bX r2): ∀n b9_4 v57,(n9 hd k).lp Z 7 [] n (HA l_0 l_1 t bX r2 v d b9_4 v57)=oR hd k (eH Z) l_0 l_1 t bX r2 v d n b9_4 v57:=dp (fun own=>v_ hd k (eH Z) l_0 l_1 t bX r2 v d (fun b9_4 b9_5 more14 v90=>mG hd k (eH Z) l_0 l_1 t bX r2 b9_4 v d k b9_5 more14 v90) own) rfl (fun _=>rfl) fun r b9_4 v57=>aq (b:=v_ hd k (eH Z) l_0 l_1 t bX r2 v d (fun b9_4 b9_5 more14 v90=>(n9 hd k).lp Z 16 [] k (yi l_0 l_1 t bX r2 b9_4 v d b9_5 more14 v90)) (fun b9_4 v57=>r (HA l_0 l_1 t bX r2 v d b9_4 v57)) b9_4 v57) (by kernel_rfl) (by simp only [Xq])
theorem Xo (r2): ∀n bX,(n9 hd k).jn Z 1000006 [] n (NX l_0 l_1 t r2 v d bX)=xP hd k (eH Z) l_0 l_1 t r2 v d n bX:=Mz (Fp hd k (eH Z) l_0 l_1 t r2 v d (fun bX b9_4 v57=>oR hd k (eH Z) l_0 l_1 t bX r2 v d k b9_4 v57)) rfl (fun _=>rfl) (fun bX=>aq (b:=Fp hd k (eH Z) l_0 l_1 t r2 v d (fun bX b9_4 v57=>(n9 hd k).lp Z 7 [] k (HA l_0 l_1 t bX r2 v d b9_4 v57)) bX) (by kernel_rfl) (by simp only [Xp]))
end
theorem CE (o:Obj) (ho:aj o): ∀k:Nat,Tl o 85 (yR (f_ k:kK S))
 |0=>kI fun l_0 l_1 t v d Z x h=>by cases h
 |k+1=>am (n9 (f_ k) k) ⟨nF k ho,CE o ho k,aaW k ho,trivial⟩ func85 fun l_0 l_1 t v d Z x h=>aq (b:=JF (f_ k) k (eH Z) (fun r2 bX=>(n9 (f_ k) k).jn Z 1000006 [] k (NX l_0 l_1 t r2 v d bX)) l_0 l_1 t v d) (by kernel_rfl) (aq (by simp only [Xo];rfl) h)
def QF:Rw S:=ai G5 TJ fun c0 c1 c2 Z=>aa k (BM k c0 c1 c2) (ag3 c0 c1 c2 Z)
def Vz:Fx S:=fp 11 [(85,yR (f_ k))] [] k f206 3
theorem aaX (ho:aj o):Tl o 206 (QF k:Rw S):=am (Vz k) ⟨CE o ho k,trivial⟩ func206 fun c0 c1 c2 Z x h=>ay h
def QG:Rw S:=ai ac5 TJ fun t numbers c0 c1 c2 Z=>aa k (BR k t numbers c0 c1 c2) (Di c0 c1 c2 Z)
def E8:Fx S:=⟨⟨30,(fun _=>[]),(fun _=>false),ab,fun|6=>true|7=>true|_=>false⟩,[(40,mg k),(206,QF k)],[(5,⟨[(2,ab),(6,ab),(7,ab),(17,ab),(18,ab),(19,ab)],[(1000000,[ab]),(1000001,[ab]),(1000002,[ab,ab,ab,ab,ab,ab]),(5000006,[ab,ab,ab,aQ 320200387,aQ 320200388,aQ 320200389]),(5000007,[ab])]⟩,a8 5 11)],k,f83,false,[],3,some (tA 16 164 f164 k)⟩
def NZ (c0 c1:Int) (c2:Tm) (numbers:List Int) (v19:Int):St UU:=⟨[(2,(.func 206 [] [(pt 1000000),(pt 1000001),(pt 1000002)])),(6,(pt 5000006)),(7,(pt 5000007)),(17,(qI numbers .none)),(18,(iI numbers.length)),(19,(iI v19))],[(1000000,bI c0),(1000001,bI c1),(1000002,bT c2),(5000006,.cells [(iI 0),(iI 0),jv,(.own 320200387 0),(.own 320200388 0),(.own 320200389 0)]),(5000007,bI 0)],[(320200389,gP),(320200388,je),(320200387,iP)],[(320200389,.wr),(320200388,.wr),(320200387,.wr)]⟩
section
variable (k:Nat) (t:Tm) (numbers:List Int) (c0 c1:Int) (c2:Tm) (Z:Out UU->Option S)
theorem Xs: ∀n v19,(E8 k).lp Z 5 [] n (NZ c0 c1 c2 numbers v19)=sh k (Di c0 c1 c2 Z) c0 c1 c2 numbers n v19:=jl (Ap k (Di c0 c1 c2 Z) c0 c1 c2 numbers)
end
theorem aaY (ho:aj o):Tl o 83 (QG k:Rw S):=Eh (E8 k) rfl (AV o func164 (by kernel_rfl)) ⟨mB k ho,aaX k ho,trivial⟩ func83 (by kernel_rfl) fun t numbers c0 c1 c2 Z x h=>aq (b:=Ed k (Di c0 c1 c2 Z) (fun v19=>(E8 k).lp Z 5 [] k (NZ c0 c1 c2 numbers v19)) t numbers c0 c1 c2) (by kernel_rfl) (aq (by simp only [Xs];rfl) (dt h))
def DK:Rw S:=ai ue xn fun t vars dims Z=>aa k (pM k t vars dims) (kB Z)
def VA:Fx S:=fp 18 [(83,QG k)] [] k f119 0
theorem Gz (ho:aj o):Tl o 119 (DK k:Rw S):=am (VA k) ⟨aaY k ho,trivial⟩ func119 fun t vars dims Z x h=>ay h
def tg:Rw S:=ai G6 dN fun t vars dims c0 Z=>aa k (jC k t vars dims c0) (kA Z)
def VB:Fx S:=fp 21 [(93,lx k),(94,ly k),(119,DK k)] [] k f56 1
theorem t6 (ho:aj o):Tl o 56 (tg k:Rw S):=am (VB k) ⟨l7 k ho,l8 k ho,Gz k ho,trivial⟩ func56 fun t vars dims c0 Z x h=>ay h
def QH:Rw S:=ai nK xn fun a_n Z=>aa k (Gc k a_n) (OZ Z)
def VC:Fx S:=fx 5 (fun _=>[]) (fun _=>false) [] [] k f95 true [] 0
theorem aaZ (ho:aj o):Tl o 95 (QH k:Rw S):=am (VC k) trivial func95 fun a_n Z x h=>ay h
def ph:Rw S:=ai ac6 dN fun a_e c0 Z=>aa k (lU k a_e c0) (ag4 Z)
def VE:Fx S:=fp 13 [] [] k f270 1
theorem pW (ho:aj o):Tl o 270 (ph k:Rw S):=am (VE k) trivial func270 fun a_e c0 Z x h=>ay h
def DL:Rw S:=ai MH xn fun l Z=>aa k (rC k l) (Dj Z)
def E9:Fx S:=fp 22 [(40,mg k),(270,ph k)] [(3,dw [3,8,9,10] [(7,1)],a8 5 11)] k f207 0
def N3 (l:List Tm) (kV v10:Int):St UU:=⟨[(3,(pt 7)),(8,(sT l)),(9,(iI l.length)),(10,(iI v10))],[(7,bI kV)],[],[]⟩
section
variable (k:Nat) (l:List Tm) (Z:Out UU->Option S)
theorem Xt: ∀n kV v10,(E9 k).lp Z 3 [] n (N3 l kV v10)=uf k (Dj Z) l n kV v10:=dp (zM k (Dj Z) l)
end
theorem GA (ho:aj o):Tl o 207 (DL k:Rw S):=am (E9 k) ⟨mB k ho,pW k ho,trivial⟩ func207 fun l Z x h=>aq (b:=Jb k (Dj Z) (fun kV v10=>(E9 k).lp Z 3 [] k (N3 l kV v10)) l) (by kernel_rfl) (aq (by simp only [Xt];rfl) (dt h))
def qz:Rw S:=ai xO dN fun c0 Z=>aa k (fE k c0) (jM c0 Z)
def VF:Fx S:=fp 8 [] [] k f210 1
theorem rK (ho:aj o):Tl o 210 (qz k:Rw S):=am (VF k) trivial func210 fun c0 Z x h=>ay h
def QI:Rw S:=ai MK dN fun f c0 Z=>aa k (pL k f c0) (Dk Z)
def VG:Fx S:=fp 23 [(75,tf k),(210,qz k),(270,ph k)] [] k f211 1
theorem aa0 (ho:aj o):Tl o 211 (QI k:Rw S):=am (VG k) ⟨tZ k ho,rK k ho,pW k ho,trivial⟩ func211 fun f c0 Z x h=>ay h
def QJ:Rw S:=ai MJ xn fun l Z=>aa k (Bq k l) (bY Z)
def E_:Fx S:=fp 15 [(205,vd k)] [(2,dw [5,6,7] [],a8 4 5)] k f337 0
def N5 (l:List (List Cl)) (v7:Int):St UU:=⟨[(5,(DZ l .none)),(6,(iI l.length)),(7,(iI v7))],[],[],[]⟩
section
variable (k:Nat) (l:List (List Cl)) (Z:Out UU->Option S)
theorem Xx: ∀n v7,(E_ k).lp Z 2 [] n (N5 l v7)=uo k (bY Z) l n v7:=jl (z7 k (bY Z) l)
end
theorem aa1 (ho:aj o):Tl o 337 (QJ k:Rw S):=am (E_ k) ⟨xy k ho,trivial⟩ func337 fun l Z x h=>aq (b:=Jp k (bY Z) (fun v7=>(E_ k).lp Z 2 [] k (N5 l v7)) l) (by kernel_rfl) (aq (by simp only [Xx];rfl) (dt h))
def Im:Rw S:=ai rS xn fun f g Z=>aa k (wX k f g) (cR Z)
def VH:Fx S:=fp 14 [(146,mW k)] [] k f243 0
theorem LH (ho:aj o):Tl o 243 (Im k:Rw S):=am (VH k) ⟨nG k ho,trivial⟩ func243 fun f g Z x h=>ay h
def QK:Rw S:=ai rS xn fun f g Z=>aa k (Bh k f g) (cR Z)
def VI:Fx S:=fp 19 [(243,Im k),(337,QJ k)] [] k f327 0
theorem aa2 (ho:aj o):Tl o 327 (QK k:Rw S):=am (VI k) ⟨LH k ho,aa1 k ho,trivial⟩ func327 fun f g Z x h=>ay h
def QL:Rw S:=ai ac7 dN fun f g c0 Z=>aa k (pK k f g c0) (Dk Z)
def VJ:Fx S:=fp 26 [(210,qz k),(270,ph k),(327,QK k)] [] k f302 1
theorem aa3 (ho:aj o):Tl o 302 (QL k:Rw S):=am (VJ k) ⟨rK k ho,pW k ho,aa2 k ho,trivial⟩ func302 fun f g c0 Z x h=>ay h
def QM:Rw S:=ai G5 Ez fun c0 c1 c2 Z=>aa k (BN k c0 c1 c2) (O0 c0 c1 c2 Z)
def VK:Fx S:=fp 10 [(85,yR (f_ k))] [] k f84 3
theorem aa4 (ho:aj o):Tl o 84 (QM k:Rw S):=am (VK k) ⟨CE o ho k,trivial⟩ func84 fun c0 c1 c2 Z x h=>ay h
def QN:Rw S:=ai ac9 Ez fun t numbers c0 c1 c2 Z=>aa k (BP k t numbers c0 c1 c2) (qy c0 c1 c2 Z)
def Fa:Fx S:=⟨⟨30,(fun _=>[]),(fun _=>false),ab,fun|6=>true|7=>true|_=>false⟩,[(40,mg k),(84,QM k)],[(5,⟨[(2,ab),(6,ab),(7,ab),(17,ab),(18,ab),(19,ab)],[(1000000,[ab]),(1000001,[ab,ab,ab,ab,ab,ab]),(1000002,[ab]),(5000006,[ab,ab,ab,aQ 320200387,aQ 320200388,aQ 320200389]),(5000007,[ab])]⟩,a8 5 11)],k,f83,false,[],3,some (tA 16 164 f164 k)⟩
def N6 (c0:Int) (c1:Tm) (c2:Int) (numbers:List Int) (v19:Int):St UU:=⟨[(2,(.func 84 [] [(pt 1000000),(pt 1000001),(pt 1000002)])),(6,(pt 5000006)),(7,(pt 5000007)),(17,(qI numbers .none)),(18,(iI numbers.length)),(19,(iI v19))],[(1000000,bI c0),(1000001,bT c1),(1000002,bI c2),(5000006,.cells [(iI 0),(iI 0),jv,(.own 320200387 0),(.own 320200388 0),(.own 320200389 0)]),(5000007,bI 0)],[(320200389,gP),(320200388,je),(320200387,iP)],[(320200389,.wr),(320200388,.wr),(320200387,.wr)]⟩
section
variable (k:Nat) (t:Tm) (numbers:List Int) (c0:Int) (c1:Tm) (c2:Int) (Z:Out UU->Option S)
theorem Xy: ∀n v19,(Fa k).lp Z 5 [] n (N6 c0 c1 c2 numbers v19)=rZ k (qy c0 c1 c2 Z) c0 c1 c2 numbers n v19:=jl (An k (qy c0 c1 c2 Z) c0 c1 c2 numbers)
end
theorem aa5 (ho:aj o):Tl o 83 (QN k:Rw S):=Eh (Fa k) rfl (AV o func164 (by kernel_rfl)) ⟨mB k ho,aa4 k ho,trivial⟩ func83 (by kernel_rfl) fun t numbers c0 c1 c2 Z x h=>aq (b:=Eb k (qy c0 c1 c2 Z) (fun v19=>(Fa k).lp Z 5 [] k (N6 c0 c1 c2 numbers v19)) t numbers c0 c1 c2) (by kernel_rfl) (aq (by simp only [Xy];rfl) (dt h))
def yS:Rw S:=ai ue xn fun t a_from a_by Z=>aa k (ox k t a_from a_by) (kB Z)
def VL:Fx S:=fp 16 [(83,QN k)] [] k f35 0
theorem Ch (ho:aj o):Tl o 35 (yS k:Rw S):=am (VL k) ⟨aa5 k ho,trivial⟩ func35 fun t a_from a_by Z x h=>ay h
def yT:Rw S:=ai CN xn fun s i Z=>aa k (nx k s i) (qx Z)
def VM:Fx S:=fp 16 [(232,yP k)] [] k f222 0
theorem Ci (ho:aj o):Tl o 222 (yT k:Rw S):=am (VM k) ⟨Cg k ho,trivial⟩ func222 fun s i Z x h=>ay h
def QO:Rw S:=ai G4 xn fun a_x Z=>aa k (Lb k a_x) (bY Z)
def VO:Fx S:=fp 21 [] [] k f275 0
theorem aa6 (ho:aj o):Tl o 275 (QO k:Rw S):=am (VO k) trivial func275 fun a_x Z x h=>ay h
def DN:Rw S:=ai G4 xn fun s Z=>aa k (pN k s) (bY Z)
def VQ:Fx S:=fp 6 [(275,QO k)] [] k f221 0
theorem GC (ho:aj o):Tl o 221 (DN k:Rw S):=am (VQ k) ⟨aa6 k ho,trivial⟩ func221 fun s Z x h=>ay h
def QP:Rw S:=ai nK xn fun i Z=>aa k (Bb k i) (cW Z)
def VR:Fx S:=fp 7 [(221,DN k),(222,yT k)] [] k f139 0
theorem aa7 (ho:aj o):Tl o 139 (QP k:Rw S):=am (VR k) ⟨GC k ho,Ci k ho,trivial⟩ func139 fun i Z x h=>ay h
def QQ:Rw S:=ai ML xn fun t i a_r Z=>aa k (Bf k t i a_r) (bY Z)
def VS:Fx S:=fp 21 [(40,mg k),(139,QP k),(140,te k)] [] k f74 0
theorem aa8 (ho:aj o):Tl o 74 (QQ k:Rw S):=am (VS k) ⟨mB k ho,aa7 k ho,tY k ho,trivial⟩ func74 fun t i a_r Z x h=>ay h
def QR:Rw S:=ai MM zt fun c0 c1 Z=>aa k (FT k c0 c1) (ag5 c0 c1 Z)
def VT:Fx S:=fp 6 [] [] k f147 2
theorem aa9 (ho:aj o):Tl o 147 (QR k:Rw S):=am (VT k) trivial func147 fun c0 c1 Z x h=>ay h
def QS:Rw S:=ai ac_ zt fun c0 c1 Z=>aa k (FU k c0 c1) (ag6 c0 c1 Z)
def VU:Fx S:=fp 6 [] [] k f147 2
theorem aa_ (ho:aj o):Tl o 147 (QS k:Rw S):=am (VU k) trivial func147 fun c0 c1 Z x h=>ay h
def QU:Rw S:=ai ada xn fun i a_r Z=>aa k (FS k i a_r) (ag7 Z)
def VX:Fx S:=fp 12 [(147,s_ (xG MM zt) (QR k) (QS k))] [] k f76 0
theorem aba (ho:aj o):Tl o 76 (QU k:Rw S):=am (VX k) ⟨yD (aa9 k ho) (aa_ k ho),trivial⟩ func76 fun i a_r Z x h=>ay h
def vf:Rw S:=ai CN xn fun s i Z=>aa k (lW k s i) (cW Z)
def VY:Fx S:=fp 15 [(232,yP k)] [] k f149 0
theorem xz (ho:aj o):Tl o 149 (vf k:Rw S):=am (VY k) ⟨Cg k ho,trivial⟩ func149 fun s i Z x h=>ay h
def Ip:Rw S:=ai oL xn fun f Z=>aa k (wQ k f) (u7 Z)
def VZ:Fx S:=fp 5 [] [] k f151 0
theorem LJ (ho:aj o):Tl o 151 (Ip k:Rw S):=am (VZ k) trivial func151 fun f Z x h=>ay h
def Iq:Rw S:=ai nK xn fun i Z=>aa k (wW k i) (cW Z)
def V0:Fx S:=fp 7 [(221,DN k),(222,yT k)] [] k f239 0
theorem LK (ho:aj o):Tl o 239 (Iq k:Rw S):=am (V0 k) ⟨GC k ho,Ci k ho,trivial⟩ func239 fun i Z x h=>ay h
def Ir:Rw S:=ai CL xn fun c Z=>aa k (wV k c) (ag8 Z)
def V2:Fx S:=fp 8 [(269,Ij k)] [] k f284 0
theorem LM (ho:aj o):Tl o 284 (Ir k:Rw S):=am (V2 k) ⟨LF k ho,trivial⟩ func284 fun c Z x h=>ay h
def QW:Rw S:=ai adb xn fun l Z=>aa k (Bn k l) (u7 Z)
def Fb:Fx S:=fp 29 [(284,Ir k)] [(3,⟨[(1,ab),(5,aQ 100005),(10,ab),(11,ab),(12,ab)],[]⟩,a8 5 11)] k f272 0
def N8 (l:List Cl) (v12:Int) (out5:List Cl):St UU:=⟨[(1,(.func 284 [] [])),(5,(.own 100005 0)),(10,(sC l)),(11,(iI l.length)),(12,(iI v12))],[],[(100005,⟨0,ET.C,out5⟩)],[(100005,.wr)]⟩
section
variable (k:Nat) (l:List Cl) (Z:Out UU->Option S)
theorem XC: ∀n v12 out5,(Fb k).lp Z 3 [] n (N8 l v12 out5)=uk k (u7 Z) l n v12 out5:=dp (zX k (u7 Z) l)
end
theorem abc (ho:aj o):Tl o 272 (QW k:Rw S):=am (Fb k) ⟨LM k ho,trivial⟩ func272 fun l Z x h=>aq (b:=Jm k (u7 Z) (fun v12 out5=>(Fb k).lp Z 3 [] k (N8 l v12 out5)) l) (by kernel_rfl) (aq (by simp only [XC];rfl) (dt h))
def Is:Rw S:=ai oL xn fun f Z=>aa k (wU k f) (cR Z)
def V3:Fx S:=fp 12 [(140,te k),(146,mW k),(272,QW k)] [] k f240 0
theorem LN (ho:aj o):Tl o 240 (Is k:Rw S):=am (V3 k) ⟨tY k ho,nG k ho,abc k ho,trivial⟩ func240 fun f Z x h=>ay h
def QX:Rw S:=ai CM zr fun b c0 Z=>aa k (Bp k b c0) (ag9 c0 Z)
def V4:Fx S:=fp 11 [(278,DC k),(284,Ir k)] [] k f285 1
theorem abd (ho:aj o):Tl o 285 (QX k:Rw S):=am (V4 k) ⟨Gs k ho,LM k ho,trivial⟩ func285 fun b c0 Z x h=>ay h
def QY:Rw S:=ai adc zr fun l c0 Z=>aa k (Bm k l c0) (Dl c0 Z)
def Fc:Fx S:=fp 29 [(285,QX k)] [(3,⟨[(1,ab),(5,aQ 100005),(10,ab),(11,ab),(12,ab)],[(1000000,[ab,ab])]⟩,a8 5 11)] k f272 1
def N9 (c0:Cl) (l:List Cl) (v12:Int) (out5:List Cl):St UU:=⟨[(1,(.func 285 [] [(pt 1000000)])),(5,(.own 100005 0)),(10,(sC l)),(11,(iI l.length)),(12,(iI v12))],[(1000000,bC c0)],[(100005,⟨0,ET.C,out5⟩)],[(100005,.wr)]⟩
section
variable (k:Nat) (l:List Cl) (c0:Cl) (Z:Out UU->Option S)
theorem XD: ∀n v12 out5,(Fc k).lp Z 3 [] n (N9 c0 l v12 out5)=uj k (Dl c0 Z) c0 l n v12 out5:=dp (zW k (Dl c0 Z) c0 l)
end
theorem abe (ho:aj o):Tl o 272 (QY k:Rw S):=am (Fc k) ⟨abd k ho,trivial⟩ func272 fun l c0 Z x h=>aq (b:=Jl k (Dl c0 Z) (fun v12 out5=>(Fc k).lp Z 3 [] k (N9 c0 l v12 out5)) l c0) (by kernel_rfl) (aq (by simp only [XD];rfl) (dt h))
def QZ:Rw S:=ai rS xn fun f g Z=>aa k (tD k f g) (cR Z)
def Fe:Fx S:=fp 25 [(146,mW k),(272,QY k)] [(3,⟨[(1,ab),(6,aQ 100006),(9,ab),(10,ab),(11,ab)],[]⟩,a8 5 11)] k f241 0
def N_ (g f:List Cl) (v11:Int) (out6:List Cl):St UU:=⟨[(1,(sC g)),(6,(.own 100006 0)),(9,(sC f)),(10,(iI f.length)),(11,(iI v11))],[],[(100006,⟨0,ET.C,out6⟩)],[(100006,.wr)]⟩
section
variable (k:Nat) (f g:List Cl) (Z:Out UU->Option S)
theorem XE: ∀n v11 out6,(Fe k).lp Z 3 [] n (N_ g f v11 out6)=um k (cR Z) g f n v11 out6:=dp (zZ k (cR Z) g f)
end
theorem abf (ho:aj o):Tl o 241 (QZ k:Rw S):=am (Fe k) ⟨nG k ho,abe k ho,trivial⟩ func241 fun f g Z x h=>aq (b:=Jo k (cR Z) (fun v11 out6=>(Fe k).lp Z 3 [] k (N_ g f v11 out6)) f g) (by kernel_rfl) (aq (by simp only [XE];rfl) (dt h))
def DO:Rw S:=ai cn xn fun Z=>aa k (rD k) (u7 Z)
def V5:Fx S:=fp 3 [] [] k f29 0
theorem GD (ho:aj o):Tl o 29 (DO k:Rw S):=am (V5 k) trivial func29 fun Z x h=>ay h
def Q0:Rw S:=ai CL xn fun c Z=>aa k (Bz k c) (cR Z)
def vO:Fx S:=fp 43 [(146,mW k),(222,yT k),(314,IG)] [(3,⟨[(1,ab),(4,aQ 100004),(11,ab),(12,ab),(13,ab)],[(1,[ab,ab])]⟩,a8 5 11),(8,⟨[(4,aQ 100004),(26,ab),(27,ab),(28,ab)],[]⟩,a8 6 23)] k f283 0
def HD (c:Cl) (r1:List Int) (v13:Int) (out4:List Cl):St UU:=⟨[(1,(pt 1)),(4,(.own 100004 0)),(11,(qI r1 .none)),(12,(iI r1.length)),(13,(iI v13))],[(1,bC c)],[(100004,⟨0,ET.C,out4⟩)],[(100004,.wr)]⟩
def Oa (r5:List Int) (v28:Int) (out4':List Cl):St UU:=⟨[(4,(.own 100004 0)),(26,(qI r5 .none)),(27,(iI r5.length)),(28,(iI v28))],[],[(100004,⟨0,ET.C,out4'⟩)],[(100004,.wr)]⟩
section
variable (k:Nat) (c:Cl) (Z:Out UU->Option S)
theorem XG (r5): ∀n v28 out4',(vO k).lp Z 8 [] n (Oa r5 v28 out4')=rV k (cR Z) r5 n v28 out4':=dp (Ad k (cR Z) r5)
theorem XF (r1): ∀n v13 out4,(vO k).lp Z 3 [] n (HD c r1 v13 out4)=uw k (cR Z) c r1 n v13 out4:=dp (fun own=>vY k (cR Z) c r1 (fun r5 v28 out4'=>rV k (cR Z) r5 k v28 out4') own) rfl (fun _=>rfl) fun r v13 out4=>aq (b:=vY k (cR Z) c r1 (fun r5 v28 out4'=>(vO k).lp Z 8 [] k (Oa r5 v28 out4')) (fun v13 out4=>r (HD c r1 v13 out4)) v13 out4) (by kernel_rfl) (by simp only [XG])
end
theorem abg (ho:aj o):Tl o 283 (Q0 k:Rw S):=am (vO k) ⟨nG k ho,Ci k ho,ake o ho,trivial⟩ func283 fun c Z x h=>aq (b:=Jv k (cR Z) (fun r1 v13 out4=>(vO k).lp Z 3 [] k (HD c r1 v13 out4)) c) (by kernel_rfl) (aq (by simp only [XF];rfl) (dt h))
def It:Rw S:=ai rS xn fun f g Z=>aa k (oq k f g) (cR Z)
def vP:Fx S:=fp 35 [(146,mW k),(278,DC k)] [(3,⟨[(1,ab),(6,aQ 100006),(11,ab),(12,ab),(13,ab)],[]⟩,a8 5 11),(6,⟨[(1,ab),(6,aQ 100006),(8,ab),(11,ab),(12,ab),(13,ab),(17,ab),(18,ab),(19,ab)],[(8,[ab,ab])]⟩,a8 13 3275)] k f236 0
def yl (g f:List Cl) (v13:Int) (out6:List Cl):St UU:=⟨[(1,(sC g)),(6,(.own 100006 0)),(11,(sC f)),(12,(iI f.length)),(13,(iI v13))],[],[(100006,⟨0,ET.C,out6⟩)],[(100006,.wr)]⟩
def Oc (x1:Cl) (g f:List Cl) (v13:Int) (v19:Int) (out6':List Cl):St UU:=⟨[(1,(sC g)),(6,(.own 100006 0)),(8,(pt 8)),(11,(sC f)),(12,(iI f.length)),(13,(iI v13)),(17,(sC g)),(18,(iI g.length)),(19,(iI v19))],[(8,bC x1)],[(100006,⟨0,ET.C,out6'⟩)],[(100006,.wr)]⟩
section
variable (k:Nat) (f g:List Cl) (Z:Out UU->Option S)
theorem XI (x1 v13 Z0): ∀n v19 out6',(vP k).lp Z 6 [Z0] n (Oc x1 g f v13 v19 out6')=rU k (cR Z) (fun v13 out6=>Z0 (yl g f v13 out6)) x1 g f v13 n v19 out6':=dp (Ac k (cR Z) x1 g f v13 (fun v13 out6=>Z0 (yl g f v13 out6)))
theorem XH: ∀n v13 out6,(vP k).lp Z 3 [] n (yl g f v13 out6)=qi k (cR Z) g f n v13 out6:=dp (fun own=>vX k (cR Z) g f (fun x1 v13 v19 out6'=>rU k (cR Z) own x1 g f v13 k v19 out6') own) rfl (fun _=>rfl) fun r v13 out6=>aq (b:=vX k (cR Z) g f (fun x1 v13 v19 out6'=>(vP k).lp Z 6 [r] k (Oc x1 g f v13 v19 out6')) (fun v13 out6=>r (yl g f v13 out6)) v13 out6) (by kernel_rfl) (by simp only [XI])
end
theorem LO (ho:aj o):Tl o 236 (It k:Rw S):=am (vP k) ⟨nG k ho,Gs k ho,trivial⟩ func236 fun f g Z x h=>aq (b:=Ju k (cR Z) (fun v13 out6=>(vP k).lp Z 3 [] k (yl g f v13 out6)) f g) (by kernel_rfl) (aq (by simp only [XH];rfl) (dt h))
def Q1:Rw S:=ai ade xn fun a_have c Z=>aa k (By k a_have c) (cR Z)
def V6:Fx S:=fp 21 [(236,It k),(283,Q0 k)] [] k f282 0
theorem abh (ho:aj o):Tl o 282 (Q1 k:Rw S):=am (V6 k) ⟨LO k ho,abg k ho,trivial⟩ func282 fun a_have c Z x h=>ay h
def Q4:Rw S:=ai adg xn fun l a_from Z=>aa k (F6 k l a_from) (cR Z)
def Ff:Fx S:=fp 33 [(282,Q1 k)] [(2,dw [1,2,13,14,15] [],a8 4 5)] k f142 0
def Od (l:List Cl) (v1:List Cl) (v15:Int):St UU:=⟨[(1,(sC v1)),(2,(.func 282 [] [])),(13,(sC l)),(14,(iI l.length)),(15,(iI v15))],[],[],[]⟩
section
variable (k:Nat) (l a_from:List Cl) (Z:Out UU->Option S)
theorem XJ: ∀n v1 v15,(Ff k).lp Z 2 [] n (Od l v1 v15)=ut k (cR Z) l n v1 v15:=dp (Aa k (cR Z) l)
end
theorem abj (ho:aj o):Tl o 142 (Q4 k:Rw S):=am (Ff k) ⟨abh k ho,trivial⟩ func142 fun l a_from Z x h=>aq (b:=Js k (cR Z) (fun v1 v15=>(Ff k).lp Z 2 [] k (Od l v1 v15)) l a_from) (by kernel_rfl) (aq (by simp only [XJ];rfl) (dt h))
def Iu:Rw S:=ai oL xn fun f Z=>aa k (tG k f) (cR Z)
def V8:Fx S:=fp 9 [(29,DO k),(142,Q4 k)] [] k f237 0
theorem LP (ho:aj o):Tl o 237 (Iu k:Rw S):=am (V8 k) ⟨GD k ho,abj k ho,trivial⟩ func237 fun f Z x h=>ay h
def Q5:Rw S:=ai oL xn fun f Z=>aa k (Bu k f) (cR Z)
def V9:Fx S:=fp 15 [(141,DI k),(237,Iu k)] [] k f286 0
theorem abk (ho:aj o):Tl o 286 (Q5 k:Rw S):=am (V9 k) ⟨Gx k ho,LP k ho,trivial⟩ func286 fun f Z x h=>ay h
def Q6:Rw S:=ai oL xn fun f Z=>aa k (Bj k f) (cR Z)
def V_:Fx S:=fp 18 [(240,Is k),(286,Q5 k)] [] k f242 0
theorem abl (ho:aj o):Tl o 242 (Q6 k:Rw S):=am (V_ k) ⟨LN k ho,abk k ho,trivial⟩ func242 fun f Z x h=>ay h
def Q7:Rw S:=ai MN xn fun f i a_r Z=>aa k (Bk k f i a_r) (cR Z)
def vQ:Fx S:=fp 92 [(140,te k),(149,vf k),(205,vd k),(233,DE k),(239,Iq k),(240,Is k),(241,QZ k),(242,Q6 k),(243,Im k)] [(5,dw [1,2,8,27,28,29] [],a8 6 23),(1000018,dw [1,2,8,11,13,27,28,29] [],a8 16 63895)] k f153 0
def ym (i:Int) (a_r f:List Cl) (v29:Int) (v8:List Cl):St UU:=⟨[(1,(iI i)),(2,(sC a_r)),(8,(sC v8)),(27,(sC f)),(28,(iI f.length)),(29,(iI v29))],[],[],[]⟩
def Oe (i:Int) (a_r f:List Cl) (v29:Int) (v8:List Cl) (g11:List Cl) (v13:Int):St UU:=⟨[(1,(iI i)),(2,(sC a_r)),(8,(sC v8)),(11,(sC g11)),(13,(iI v13)),(27,(sC f)),(28,(iI f.length)),(29,(iI v29))],[],[],[]⟩
section
variable (k:Nat) (f:List Cl) (i:Int) (a_r:List Cl) (Z:Out UU->Option S)
theorem XL (v29 v8 Z0): ∀n g11 v13,(vQ k).jn Z 1000018 [Z0] n (Oe i a_r f v29 v8 g11 v13)=ui k (cR Z) (fun v29 v8=>Z0 (ym i a_r f v29 v8)) i a_r f v29 v8 n g11 v13:=jn2 (zV k (cR Z) i a_r f v29 v8 (fun v29 v8=>Z0 (ym i a_r f v29 v8)))
theorem XK: ∀n v29 v8,(vQ k).lp Z 5 [] n (ym i a_r f v29 v8)=qh k (cR Z) i a_r f n v29 v8:=dp (fun own=>vW k (cR Z) i a_r f (fun v29 v8 g11 v13=>ui k (cR Z) own i a_r f v29 v8 k g11 v13) own) rfl (fun _=>rfl) fun r v29 v8=>aq (b:=vW k (cR Z) i a_r f (fun v29 v8 g11 v13=>(vQ k).jn Z 1000018 [r] k (Oe i a_r f v29 v8 g11 v13)) (fun v29 v8=>r (ym i a_r f v29 v8)) v29 v8) (by kernel_rfl) (by simp only [XL])
end
theorem abm (ho:aj o):Tl o 153 (Q7 k:Rw S):=am (vQ k) ⟨tY k ho,xz k ho,xy k ho,Gu k ho,LK k ho,LN k ho,abf k ho,abl k ho,LH k ho,trivial⟩ func153 fun f i a_r Z x h=>aq (b:=Jk k (cR Z) (fun v29 v8=>(vQ k).lp Z 5 [] k (ym i a_r f v29 v8)) f i a_r) (by kernel_rfl) (aq (by simp only [XK];rfl) (dt h))
def Iv:Rw S:=ai G7 ala fun f depth c0 c1 Z=>aa k (wR k f depth c0 c1) (ag_ c0 c1 Z)
def Wa:Fx S:=fp 38 [(75,tf k),(149,vf k),(150,DF k),(151,Ip k),(153,Q7 k)] [] k f148 3
theorem LQ (ho:aj o):Tl o 148 (Iv k:Rw S):=am (Wa k) ⟨tZ k ho,xz k ho,Gv k ho,LJ k ho,abm k ho,trivial⟩ func148 fun f depth c0 c1 Z x h=>ay h
def Q8:Rw S:=ai nK xn fun i Z=>aa k (Bt k i) (cR Z)
def Wc:Fx S:=fp 12 [(221,DN k),(222,yT k)] [] k f234 0
theorem abn (ho:aj o):Tl o 234 (Q8 k:Rw S):=am (Wc k) ⟨GC k ho,Ci k ho,trivial⟩ func234 fun i Z x h=>ay h
def Q9:Rw S:=ai rS xn fun f g Z=>aa k (rF k f g) (cR Z)
def Wd:Fx S:=fp 14 [(146,mW k)] [] k f238 0
theorem abo (ho:aj o):Tl o 238 (Q9 k:Rw S):=am (Wd k) ⟨nG k ho,trivial⟩ func238 fun f g Z x h=>ay h
def Q_:Rw S:=ai adh zt fun a_have c c0 c1 Z=>aa k (Bw k a_have c c0 c1) (yH c0 c1 Z)
def We:Fx S:=fp 63 [(149,vf k),(233,DE k),(236,It k),(237,Iu k),(238,Q9 k)] [] k f235 2
theorem abp (ho:aj o):Tl o 235 (Q_ k:Rw S):=am (We k) ⟨xz k ho,Gu k ho,LO k ho,LP k ho,abo k ho,trivial⟩ func235 fun a_have c c0 c1 Z x h=>ay h
def Ra:Rw S:=ai adi zt fun l a_from c0 c1 Z=>aa k (F5 k l a_from c0 c1) (yH c0 c1 Z)
def Fg:Fx S:=fp 33 [(235,Q_ k)] [(2,dw [1,2,13,14,15] [(1000000,1),(1000001,1)],a8 4 5)] k f142 2
def Of (c0:Int) (c1 l:List Cl) (v1:List Cl) (v15:Int):St UU:=⟨[(1,(sC v1)),(2,(.func 235 [] [(pt 1000000),(pt 1000001)])),(13,(sC l)),(14,(iI l.length)),(15,(iI v15))],[(1000000,bI c0),(1000001,.cells [(sC c1)])],[],[]⟩
section
variable (k:Nat) (l a_from:List Cl) (c0:Int) (c1:List Cl) (Z:Out UU->Option S)
theorem XM: ∀n v1 v15,(Fg k).lp Z 2 [] n (Of c0 c1 l v1 v15)=ur k (yH c0 c1 Z) c0 c1 l n v1 v15:=dp (z_ k (yH c0 c1 Z) c0 c1 l)
end
theorem abq (ho:aj o):Tl o 142 (Ra k:Rw S):=am (Fg k) ⟨abp k ho,trivial⟩ func142 fun l a_from c0 c1 Z x h=>aq (b:=Jr k (yH c0 c1 Z) (fun v1 v15=>(Fg k).lp Z 2 [] k (Of c0 c1 l v1 v15)) l a_from c0 c1) (by kernel_rfl) (aq (by simp only [XM];rfl) (dt h))
def O_:Rw S:=ai MN xn fun f i a_r Z=>aa k (Bv k f i a_r) (cR Z)
def TS:Fx S:=fp 32 [(141,DI k),(142,Ra k),(143,DJ k),(234,Q8 k)] [] k f152 0
theorem Zo (ho:aj o):Tl o 152 (O_ k:Rw S):=am (TS k) ⟨Gx k ho,abq k ho,Gy k ho,abn k ho,trivial⟩ func152 fun f i a_r Z x h=>ay h
def Pa:Rw S:=ai G7 TK fun f depth c0 c1 Z=>aa k (Bc k f depth c0 c1) (aha c0 c1 Z)
def TT:Fx S:=fp 38 [(75,tf k),(149,vf k),(150,DF k),(151,Ip k),(152,O_ k)] [] k f148 3
theorem Zp (ho:aj o):Tl o 148 (Pa k:Rw S):=am (TT k) ⟨tZ k ho,xz k ho,Gv k ho,LJ k ho,Zo k ho,trivial⟩ func148 fun f depth c0 c1 Z x h=>ay h
def Pb:Rw S:=ai G8 Kt fun t depth c0 c1 Z=>aa k (Bd k t depth c0 c1) (ahb c0 c1 Z)
def TU:Fx S:=fp 27 [(148,s_ (xG G7 TK) (Pa k) (Iv k))] [] k f154 4
theorem Zq (ho:aj o):Tl o 154 (Pb k:Rw S):=am (TU k) ⟨yD (Zp k ho) (LQ k ho),trivial⟩ func154 fun t depth c0 c1 Z x h=>ay h
def H2:Rw S:=ai MO alb fun i c0 Z=>aa k (wS k i c0) (ahc c0 Z)
def TV:Fx S:=fp 14 [(49,mV k)] [] k f156 1
theorem Lm (ho:aj o):Tl o 156 (H2 k:Rw S):=am (TV k) ⟨nF k ho,trivial⟩ func156 fun i c0 Z x h=>ay h
def H3:Rw S:=ai MO dN fun p c0 Z=>aa k (wT k p c0) (ahd c0 Z)
def TW:Fx S:=fp 5 [] [] k f157 1
theorem Ln (ho:aj o):Tl o 157 (H3 k:Rw S):=am (TW k) trivial func157 fun p c0 Z x h=>ay h
def u_ (hd:fJ S):Rw S:=ai G8 Kt fun t depth c0 c1 Z=>hd t depth c0 c1 (Dm c0 c1 Z)
def Pc (hd:fJ S) (k:Nat):Rw S:=ai MP TM fun l depth c0 c1 c4 Z=>aa k (FX hd k l depth c0 c1 c4) (Dp c0 c1 c4 Z)
def EE (hd:fJ S) (k:Nat):Fx S:=fp 42 [(77,u_ hd),(157,H3 k)] [(3,⟨[(2,ab),(3,ab),(4,ab),(10,aQ 100010),(15,ab),(16,ab),(17,ab)],[(4,[ab,ab]),(1000000,[ab]),(1000001,[ab]),(1000002,[ab]),(1000003,[ab]),(1000004,[ab])]⟩,a8 5 11)] k f155 5
def Nj (c0:Int) (c1:List Cl) (c4:Int) (l:List Tm) (depth:Int) (out10:List Tm) (v17:Int):St UU:=⟨[(2,(iI depth)),(3,(.func 157 [] [(pt 1000004)])),(4,(pt 4)),(10,(.own 100010 0)),(15,(sT l)),(16,(iI l.length)),(17,(iI v17))],[(4,.cells [(.func 148 [] [(pt 1000000),(pt 1000001),(pt 1000002)]),(.func 148 [] [(pt 1000000),(pt 1000001),(pt 1000003)])]),(1000000,bI c0),(1000001,.cells [(sC c1)]),(1000002,.cells [(.func 152 [] [])]),(1000003,.cells [(.func 153 [] [])]),(1000004,bI c4)],[(100010,⟨0,ET.T,out10⟩)],[(100010,.wr)]⟩
section
variable (hd:fJ S) (k:Nat) (l:List Tm) (depth c0:Int) (c1:List Cl) (c4:Int) (Z:Out UU->Option S)
theorem Wu: ∀n out10 v17,(EE hd k).lp Z 3 [] n (Nj c0 c1 c4 l depth out10 v17)=qe hd k (Dp c0 c1 c4 Z) c0 c1 c4 l depth n out10 v17:=dp (zR hd k (Dp c0 c1 c4 Z) c0 c1 c4 l depth)
end
theorem Zr (o:Obj) (ho:aj o) (hd:fJ S) (Hd:Tl o 77 (u_ hd)) (k:Nat):Tl o 155 (Pc hd k:Rw S):=am (EE hd k) ⟨Hd,Ln k ho,trivial⟩ func155 fun l depth c0 c1 c4 Z x h=>aq (b:=Jg hd k (Dp c0 c1 c4 Z) (fun out10 v17=>(EE hd k).lp Z 3 [] k (Nj c0 c1 c4 l depth out10 v17)) l depth c0 c1 c4) (by kernel_rfl) (aq (by simp only [Wu];rfl) (dt h))
def Pd (hd:fJ S) (k:Nat):Rw S:=ai adj alc fun l depth c0 c1 c4 Z=>aa k (FY hd k l depth c0 c1 c4) (Dq c0 c1 c4 Z)
def EF (hd:fJ S) (k:Nat):Fx S:=fp 42 [(77,u_ hd),(156,H2 k)] [(3,⟨[(2,ab),(3,ab),(4,ab),(10,aQ 100010),(15,ab),(16,ab),(17,ab)],[(4,[ab,ab]),(1000000,[ab]),(1000001,[ab]),(1000002,[ab]),(1000003,[ab]),(1000004,[ab,ab,ab,ab,ab,ab])]⟩,a8 5 11)] k f155 5
def Nk (c0:Int) (c1:List Cl) (c4:Tm) (l:List Tm) (depth:Int) (out10:List Tm) (v17:Int):St UU:=⟨[(2,(iI depth)),(3,(.func 156 [] [(pt 1000004)])),(4,(pt 4)),(10,(.own 100010 0)),(15,(sT l)),(16,(iI l.length)),(17,(iI v17))],[(4,.cells [(.func 148 [] [(pt 1000000),(pt 1000001),(pt 1000002)]),(.func 148 [] [(pt 1000000),(pt 1000001),(pt 1000003)])]),(1000000,bI c0),(1000001,.cells [(sC c1)]),(1000002,.cells [(.func 152 [] [])]),(1000003,.cells [(.func 153 [] [])]),(1000004,bT c4)],[(100010,⟨0,ET.T,out10⟩)],[(100010,.wr)]⟩
section
variable (hd:fJ S) (k:Nat) (l:List Tm) (depth c0:Int) (c1:List Cl) (c4:Tm) (Z:Out UU->Option S)
theorem Wv: ∀n out10 v17,(EF hd k).lp Z 3 [] n (Nk c0 c1 c4 l depth out10 v17)=qf hd k (Dq c0 c1 c4 Z) c0 c1 c4 l depth n out10 v17:=dp (zS hd k (Dq c0 c1 c4 Z) c0 c1 c4 l depth)
end
theorem Zs (o:Obj) (ho:aj o) (hd:fJ S) (Hd:Tl o 77 (u_ hd)) (k:Nat):Tl o 155 (Pd hd k:Rw S):=am (EF hd k) ⟨Hd,Lm k ho,trivial⟩ func155 fun l depth c0 c1 c4 Z x h=>aq (b:=Jh hd k (Dq c0 c1 c4 Z) (fun out10 v17=>(EF hd k).lp Z 3 [] k (Nk c0 c1 c4 l depth out10 v17)) l depth c0 c1 c4) (by kernel_rfl) (aq (by simp only [Wv];rfl) (dt h))
def ED (hd:fJ S) (k:Nat):Fx S:=fp 98 [(148,Iv k),(154,Pb k),(155,s_ (xG MP TM) (Pc hd k) (Pd hd k))] [(13,⟨[(2,ab),(3,ab),(6,ab),(8,ab),(10,ab),(53,ab),(54,ab),(55,ab)],[(3,[ab,ab]),(6,[ab,ab,ab,aQ 200387,aQ 200388,aQ 200389]),(8,[ab,ab,ab,ab,ab,aQ 200517]),(10,[ab]),(1000000,[ab]),(1000001,[ab]),(1000002,[ab]),(1000003,[ab])]⟩,a8 11 767)] k f77 4
def Ni (c0:Int) (c1:List Cl) (t:Tm) (r1:List Cl×Int) (r2:List Tm×Int) (depth:Int) (ew:Int) (b8_5:List (Br Tm)) (v55:Int):St UU:=⟨[(2,(iI depth)),(3,(pt 3)),(6,(pt 6)),(8,(pt 8)),(10,(pt 10)),(53,(sB t.sys)),(54,(iI t.sys.length)),(55,(iI v55))],[(3,.cells [(.func 148 [] [(pt 1000000),(pt 1000001),(pt 1000002)]),(.func 148 [] [(pt 1000000),(pt 1000001),(pt 1000003)])]),(6,.cells [(iI 0),(iI 0),jv,(.own 200387 0),(.own 200388 0),(.own 200389 0)]),(8,.cells [(iI t.kind),(iI t.n),(.str t.name),(sC r1.1),(sT r2.1),(.own 200517 0)]),(10,bI ew),(1000000,bI c0),(1000001,.cells [(sC c1)]),(1000002,.cells [(.func 152 [] [])]),(1000003,.cells [(.func 153 [] [])])],[(200517,⟨0,ET.B,b8_5⟩),(200389,gP),(200388,je),(200387,iP)],[(200517,.wr),(200389,.wr),(200388,.wr),(200387,.wr)]⟩
section
variable (hd:fJ S) (k:Nat) (t:Tm) (depth c0:Int) (c1:List Cl) (Z:Out UU->Option S)
theorem Wt (r1 r2): ∀n ew b8_5 v55,(ED hd k).lp Z 13 [] n (Ni c0 c1 t r1 r2 depth ew b8_5 v55)=lh hd k (Dm c0 c1 Z) c0 c1 t r1 r2 depth n ew b8_5 v55:=lm (zT hd k (Dm c0 c1 Z) c0 c1 t r1 r2 depth)
end
theorem GT (o:Obj) (ho:aj o): ∀k:Nat,Tl o 77 (u_ (iW k:fJ S))
 |0=>kI fun t depth c0 c1 Z x h=>by cases h
 |k+1=>am (ED (iW k) k) ⟨LQ k ho,Zq k ho,yD (Zr o ho (iW k) (GT o ho k) k) (Zs o ho (iW k) (GT o ho k) k),trivial⟩ func77 fun t depth c0 c1 Z x h=>aq (b:=Ji (iW k) k (Dm c0 c1 Z) (fun r1 r2 ew b8_5 v55=>(ED (iW k) k).lp Z 13 [] k (Ni c0 c1 t r1 r2 depth ew b8_5 v55)) t depth c0 c1) (by kernel_rfl) (aq (by simp only [Wt];rfl) h)
def Pe:Rw S:=ai nK xn fun i Z=>aa k (FR k i) (ahe Z)
def TX:Fx S:=fp 8 [] [] k f78 0
theorem Zt (ho:aj o):Tl o 78 (Pe k:Rw S):=am (TX k) trivial func78 fun i Z x h=>ay h
def Pf:Rw S:=ai CN xn fun s i Z=>aa k (tO k s i) (qx Z)
def TY:Fx S:=fp 24 [(232,yP k),(244,Il k)] [] k f159 0
theorem Zu (ho:aj o):Tl o 159 (Pf k:Rw S):=am (TY k) ⟨Cg k ho,LG k ho,trivial⟩ func159 fun s i Z x h=>ay h
def H4:Rw S:=ai adk dN fun f depth c0 Z=>aa k (tC k f depth c0) (yI c0 Z)
def EG:Fx S:=fp 37 [(146,mW k),(159,Pf k)] [(3,⟨[(1,ab),(2,ab),(7,aQ 100007),(10,ab),(11,ab),(12,ab)],[(1000000,[ab])]⟩,a8 5 11)] k f158 1
def Nl (c0 depth:Int) (f:List Cl) (v12:Int) (out7:List Cl):St UU:=⟨[(1,(iI depth)),(2,(pt 1000000)),(7,(.own 100007 0)),(10,(sC f)),(11,(iI f.length)),(12,(iI v12))],[(1000000,bI c0)],[(100007,⟨0,ET.C,out7⟩)],[(100007,.wr)]⟩
section
variable (k:Nat) (f:List Cl) (depth c0:Int) (Z:Out UU->Option S)
theorem Ww: ∀n v12 out7,(EG k).lp Z 3 [] n (Nl c0 depth f v12 out7)=uh k (yI c0 Z) c0 depth f n v12 out7:=dp (zO k (yI c0 Z) c0 depth f)
end
theorem Lo (ho:aj o):Tl o 158 (H4 k:Rw S):=am (EG k) ⟨nG k ho,Zu k ho,trivial⟩ func158 fun f depth c0 Z x h=>aq (b:=Jd k (yI c0 Z) (fun v12 out7=>(EG k).lp Z 3 [] k (Nl c0 depth f v12 out7)) f depth c0) (by kernel_rfl) (aq (by simp only [Ww];rfl) (dt h))
def Pi:Rw S:=ai MQ dN fun t depth c0 Z=>aa k (Be k t depth c0) (yI c0 Z)
def T0:Fx S:=fp 27 [(158,H4 k)] [] k f154 1
theorem Zw (ho:aj o):Tl o 154 (Pi k:Rw S):=am (T0 k) ⟨Lo k ho,trivial⟩ func154 fun t depth c0 Z x h=>ay h
def va (hd:fK S):Rw S:=ai MQ dN fun t depth c0 Z=>hd t depth c0 (Dr c0 Z)
def Pj (hd:fK S) (k:Nat):Rw S:=ai MS Ey fun l depth c0 c1 Z=>aa k (FV hd k l depth c0 c1) (Ds c0 c1 Z)
def EI (hd:fK S) (k:Nat):Fx S:=fp 42 [(77,va hd),(157,H3 k)] [(3,⟨[(2,ab),(3,ab),(4,ab),(10,aQ 100010),(15,ab),(16,ab),(17,ab)],[(4,[ab,ab]),(1000000,[ab]),(1000001,[ab])]⟩,a8 5 11)] k f155 2
def Nn (c0 c1:Int) (l:List Tm) (depth:Int) (out10:List Tm) (v17:Int):St UU:=⟨[(2,(iI depth)),(3,(.func 157 [] [(pt 1000001)])),(4,(pt 4)),(10,(.own 100010 0)),(15,(sT l)),(16,(iI l.length)),(17,(iI v17))],[(4,.cells [(.func 158 [] [(pt 1000000)]),(.func 158 [] [(pt 1000000)])]),(1000000,bI c0),(1000001,bI c1)],[(100010,⟨0,ET.T,out10⟩)],[(100010,.wr)]⟩
section
variable (hd:fK S) (k:Nat) (l:List Tm) (depth c0 c1:Int) (Z:Out UU->Option S)
theorem Wy: ∀n out10 v17,(EI hd k).lp Z 3 [] n (Nn c0 c1 l depth out10 v17)=qb hd k (Ds c0 c1 Z) c0 c1 l depth n out10 v17:=dp (zP hd k (Ds c0 c1 Z) c0 c1 l depth)
end
theorem Zx (o:Obj) (ho:aj o) (hd:fK S) (Hd:Tl o 77 (va hd)) (k:Nat):Tl o 155 (Pj hd k:Rw S):=am (EI hd k) ⟨Hd,Ln k ho,trivial⟩ func155 fun l depth c0 c1 Z x h=>aq (b:=Je hd k (Ds c0 c1 Z) (fun out10 v17=>(EI hd k).lp Z 3 [] k (Nn c0 c1 l depth out10 v17)) l depth c0 c1) (by kernel_rfl) (aq (by simp only [Wy];rfl) (dt h))
def Pk (hd:fK S) (k:Nat):Rw S:=ai adl ald fun l depth c0 c1 Z=>aa k (FW hd k l depth c0 c1) (Dt c0 c1 Z)
def EJ (hd:fK S) (k:Nat):Fx S:=fp 42 [(77,va hd),(156,H2 k)] [(3,⟨[(2,ab),(3,ab),(4,ab),(10,aQ 100010),(15,ab),(16,ab),(17,ab)],[(4,[ab,ab]),(1000000,[ab]),(1000001,[ab,ab,ab,ab,ab,ab])]⟩,a8 5 11)] k f155 2
def Np (c0:Int) (c1:Tm) (l:List Tm) (depth:Int) (out10:List Tm) (v17:Int):St UU:=⟨[(2,(iI depth)),(3,(.func 156 [] [(pt 1000001)])),(4,(pt 4)),(10,(.own 100010 0)),(15,(sT l)),(16,(iI l.length)),(17,(iI v17))],[(4,.cells [(.func 158 [] [(pt 1000000)]),(.func 158 [] [(pt 1000000)])]),(1000000,bI c0),(1000001,bT c1)],[(100010,⟨0,ET.T,out10⟩)],[(100010,.wr)]⟩
section
variable (hd:fK S) (k:Nat) (l:List Tm) (depth c0:Int) (c1:Tm) (Z:Out UU->Option S)
theorem Wz: ∀n out10 v17,(EJ hd k).lp Z 3 [] n (Np c0 c1 l depth out10 v17)=qc hd k (Dt c0 c1 Z) c0 c1 l depth n out10 v17:=dp (zQ hd k (Dt c0 c1 Z) c0 c1 l depth)
end
theorem Zy (o:Obj) (ho:aj o) (hd:fK S) (Hd:Tl o 77 (va hd)) (k:Nat):Tl o 155 (Pk hd k:Rw S):=am (EJ hd k) ⟨Hd,Lm k ho,trivial⟩ func155 fun l depth c0 c1 Z x h=>aq (b:=Jf hd k (Dt c0 c1 Z) (fun out10 v17=>(EJ hd k).lp Z 3 [] k (Np c0 c1 l depth out10 v17)) l depth c0 c1) (by kernel_rfl) (aq (by simp only [Wz];rfl) (dt h))
def EH (hd:fK S) (k:Nat):Fx S:=fp 98 [(154,Pi k),(155,s_ (xG MS Ey) (Pj hd k) (Pk hd k)),(158,H4 k)] [(13,⟨[(2,ab),(3,ab),(6,ab),(8,ab),(10,ab),(53,ab),(54,ab),(55,ab)],[(3,[ab,ab]),(6,[ab,ab,ab,aQ 200387,aQ 200388,aQ 200389]),(8,[ab,ab,ab,ab,ab,aQ 200517]),(10,[ab]),(1000000,[ab])]⟩,a8 11 767)] k f77 1
def Nm (c0:Int) (t:Tm) (r1:List Cl×Int) (r2:List Tm×Int) (depth:Int) (ew:Int) (b8_5:List (Br Tm)) (v55:Int):St UU:=⟨[(2,(iI depth)),(3,(pt 3)),(6,(pt 6)),(8,(pt 8)),(10,(pt 10)),(53,(sB t.sys)),(54,(iI t.sys.length)),(55,(iI v55))],[(3,.cells [(.func 158 [] [(pt 1000000)]),(.func 158 [] [(pt 1000000)])]),(6,.cells [(iI 0),(iI 0),jv,(.own 200387 0),(.own 200388 0),(.own 200389 0)]),(8,.cells [(iI t.kind),(iI t.n),(.str t.name),(sC r1.1),(sT r2.1),(.own 200517 0)]),(10,bI ew),(1000000,bI c0)],[(200517,⟨0,ET.B,b8_5⟩),(200389,gP),(200388,je),(200387,iP)],[(200517,.wr),(200389,.wr),(200388,.wr),(200387,.wr)]⟩
section
variable (hd:fK S) (k:Nat) (t:Tm) (depth c0:Int) (Z:Out UU->Option S)
theorem Wx (r1 r2): ∀n ew b8_5 v55,(EH hd k).lp Z 13 [] n (Nm c0 t r1 r2 depth ew b8_5 v55)=li hd k (Dr c0 Z) c0 t r1 r2 depth n ew b8_5 v55:=lm (zU hd k (Dr c0 Z) c0 t r1 r2 depth)
end
theorem GU (o:Obj) (ho:aj o): ∀k:Nat,Tl o 77 (va (iE k:fK S))
 |0=>kI fun t depth c0 Z x h=>by cases h
 |k+1=>am (EH (iE k) k) ⟨Zw k ho,yD (Zx o ho (iE k) (GU o ho k) k) (Zy o ho (iE k) (GU o ho k) k),Lo k ho,trivial⟩ func77 fun t depth c0 Z x h=>aq (b:=Jj (iE k) k (Dr c0 Z) (fun r1 r2 ew b8_5 v55=>(EH (iE k) k).lp Z 13 [] k (Nm c0 t r1 r2 depth ew b8_5 v55)) t depth c0) (by kernel_rfl) (aq (by simp only [Wx];rfl) h)
def vc:Rw S:=ai ML xn fun t i a_r Z=>aa k (mz k t i a_r) (kB Z)
def T1:Fx S:=fp 48 [(74,QQ k),(75,tf k),(76,QU k),(77,s_ (xG G8 Kt) (u_ (iW k)) (va (iE k))),(78,Pe k)] [] k f28 0
theorem xx (ho:aj o):Tl o 28 (vc k:Rw S):=am (T1 k) ⟨aa8 k ho,tZ k ho,aba k ho,yD (GT o ho k) (GU o ho k),Zt k ho,trivial⟩ func28 fun t i a_r Z x h=>ay h
def H5:Rw S:=ai MU dN fun line a_r c0 Z=>aa k (nw k line a_r c0) (kA Z)
def T2:Fx S:=fp 44 [(28,vc k),(35,yS k),(210,qz k),(270,ph k)] [] k f212 1
theorem Lp (ho:aj o):Tl o 212 (H5 k:Rw S):=am (T2 k) ⟨xx k ho,Ch k ho,rK k ho,pW k ho,trivial⟩ func212 fun line a_r c0 Z x h=>ay h
def H6:Rw S:=ai G6 dN fun t vars dims c0 Z=>aa k (kg k t vars dims c0) (kA Z)
def T3:Fx S:=fp 30 [(119,DK k),(210,qz k),(270,ph k)] [] k f209 1
theorem Lq (ho:aj o):Tl o 209 (H6 k:Rw S):=am (T3 k) ⟨Gz k ho,rK k ho,pW k ho,trivial⟩ func209 fun t vars dims c0 Z x h=>ay h
def yJ:Rw S:=ai G3 xn fun kind kids Z=>aa k (fF k kind kids) (De Z)
def T4:Fx S:=fx 8 (fun _=>[]) (fun _=>false) [] [] k f186 true [] 0
theorem Cc (ho:aj o):Tl o 186 (yJ k:Rw S):=am (T4 k) trivial func186 fun kind kids Z x h=>ay h
def DB:Rw S:=ai oM dN fun t c0 Z=>aa k (jB k t c0) (ahf Z)
def T5:Fx S:=fp 28 [(40,mg k),(210,qz k),(270,ph k)] [] k f213 1
theorem Gr (ho:aj o):Tl o 213 (DB k:Rw S):=am (T5 k) ⟨mB k ho,rK k ho,pW k ho,trivial⟩ func213 fun t c0 Z x h=>ay h
def H7:Rw S:=ai adm xn fun line phi a a_end a_r Z=>aa k (wM k line phi a a_end a_r) (kB Z)
def T7:Fx S:=fp 49 [(186,yJ k),(205,vd k),(207,DL k),(209,H6 k),(211,QI k),(212,H5 k),(213,DB k),(270,ph k),(302,QL k)] [] k f274 0
theorem Lr (ho:aj o):Tl o 274 (H7 k:Rw S):=am (T7 k) ⟨Cc k ho,xy k ho,GA k ho,Lq k ho,aa0 k ho,Lp k ho,Gr k ho,pW k ho,aa3 k ho,trivial⟩ func274 fun line phi a a_end a_r Z x h=>ay h
def Pm:Rw S:=ai MV xn fun line phi a Z=>aa k (A2 k line phi a) (kB Z)
def T8:Fx S:=fp 18 [(274,H7 k)] [] k f245 0
theorem ZA (ho:aj o):Tl o 245 (Pm k:Rw S):=am (T8 k) ⟨Lr k ho,trivial⟩ func245 fun line phi a Z x h=>ay h
def Pn:Rw S:=ai MW dN fun line phi a c0 Z=>aa k (BT k line phi a c0) (kA Z)
def T9:Fx S:=fp 21 [(93,lx k),(94,ly k),(245,Pm k)] [] k f160 1
theorem ZB (ho:aj o):Tl o 160 (Pn k:Rw S):=am (T9 k) ⟨l7 k ho,l8 k ho,ZA k ho,trivial⟩ func160 fun line phi a c0 Z x h=>ay h
def Po:Rw S:=ai G5 Ez fun c0 c1 c2 Z=>aa k (BO k c0 c1 c2) (O0 c0 c1 c2 Z)
def T_:Fx S:=fp 10 [(85,yR (f_ k))] [] k f259 3
theorem ZC (ho:aj o):Tl o 259 (Po k:Rw S):=am (T_ k) ⟨CE o ho k,trivial⟩ func259 fun c0 c1 c2 Z x h=>ay h
def Pp:Rw S:=ai adn Ez fun t numbers c0 c1 c2 Z=>aa k (BQ k t numbers c0 c1 c2) (qy c0 c1 c2 Z)
def EK:Fx S:=⟨⟨30,(fun _=>[]),(fun _=>false),ab,fun|6=>true|7=>true|_=>false⟩,[(40,mg k),(259,Po k)],[(5,⟨[(2,ab),(6,ab),(7,ab),(17,ab),(18,ab),(19,ab)],[(1000000,[ab]),(1000001,[ab,ab,ab,ab,ab,ab]),(1000002,[ab]),(5000006,[ab,ab,ab,aQ 320200387,aQ 320200388,aQ 320200389]),(5000007,[ab])]⟩,a8 5 11)],k,f83,false,[],3,some (tA 16 164 f164 k)⟩
def Nq (c0:Int) (c1:Tm) (c2:Int) (numbers:List Int) (v19:Int):St UU:=⟨[(2,(.func 259 [] [(pt 1000000),(pt 1000001),(pt 1000002)])),(6,(pt 5000006)),(7,(pt 5000007)),(17,(qI numbers .none)),(18,(iI numbers.length)),(19,(iI v19))],[(1000000,bI c0),(1000001,bT c1),(1000002,bI c2),(5000006,.cells [(iI 0),(iI 0),jv,(.own 320200387 0),(.own 320200388 0),(.own 320200389 0)]),(5000007,bI 0)],[(320200389,gP),(320200388,je),(320200387,iP)],[(320200389,.wr),(320200388,.wr),(320200387,.wr)]⟩
section
variable (k:Nat) (t:Tm) (numbers:List Int) (c0:Int) (c1:Tm) (c2:Int) (Z:Out UU->Option S)
theorem WA: ∀n v19,(EK k).lp Z 5 [] n (Nq c0 c1 c2 numbers v19)=r_ k (qy c0 c1 c2 Z) c0 c1 c2 numbers n v19:=jl (Ao k (qy c0 c1 c2 Z) c0 c1 c2 numbers)
end
theorem ZD (ho:aj o):Tl o 83 (Pp k:Rw S):=Eh (EK k) rfl (AV o func164 (by kernel_rfl)) ⟨mB k ho,ZC k ho,trivial⟩ func83 (by kernel_rfl) fun t numbers c0 c1 c2 Z x h=>aq (b:=Ec k (qy c0 c1 c2 Z) (fun v19=>(EK k).lp Z 5 [] k (Nq c0 c1 c2 numbers v19)) t numbers c0 c1 c2) (by kernel_rfl) (aq (by simp only [WA];rfl) (dt h))
def Pq:Rw S:=ai ue xn fun t a_from a_by Z=>aa k (tN k t a_from a_by) (kB Z)
def Ua:Fx S:=fp 18 [(83,Pp k)] [] k f182 0
theorem ZE (ho:aj o):Tl o 182 (Pq k:Rw S):=am (Ua k) ⟨ZD k ho,trivial⟩ func182 fun t a_from a_by Z x h=>ay h
def Pr:Rw S:=ai G6 dN fun t vars dims c0 Z=>aa k (BU k t vars dims c0) (kA Z)
def Ub:Fx S:=fp 32 [(35,yS k),(93,lx k),(94,ly k),(182,Pq k)] [] k f101 1
theorem ZF (ho:aj o):Tl o 101 (Pr k:Rw S):=am (Ub k) ⟨Ch k ho,l7 k ho,l8 k ho,ZE k ho,trivial⟩ func101 fun t vars dims c0 Z x h=>ay h
def yK (hd:gJ S):Rw S:=ai ko xn fun t Z=>hd t (bY Z)
def Ps (hd:gJ S) (k:Nat):Rw S:=ai CO dN fun a_k p p' c0 Z=>aa k (xe hd k a_k p p' c0) (eY Z)
def Ud (hd:gJ S) (k:Nat):Fx S:=fp 12 [(254,yK hd)] [] k f296 1
theorem ZG (o:Obj) (ho:aj o) (hd:gJ S) (Hd:Tl o 254 (yK hd)) (k:Nat):Tl o 296 (Ps hd k:Rw S):=am (Ud hd k) ⟨Hd,trivial⟩ func296 fun a_k p p' c0 Z x h=>ay h
def Pt (hd:gJ S) (k:Nat):Rw S:=ai ado dN fun t c0 Z=>aa k (Gk hd k t c0) (eY Z)
def qY (hd:gJ S) (k:Nat):Fx S:=fp 60 [(49,mV k),(296,Ps hd k)] [(2,dw [1,2,15,16,17] [(2,6),(1000000,1)],a8 4 5),(12,dw [1,9,40,41,42] [(1000000,1)],a8 7 47),(15,dw [1,9,40,41,42,47,48,49] [(1000000,1)],a8 15 13103)] k f116 1
def Ht (t:Tm) (cV v17:Int):St UU:=⟨[(1,(.func 296 [] [(pt 1000000)])),(2,(pt 2)),(15,(sT t.kids)),(16,(iI t.kids.length)),(17,(iI v17))],[(2,bT t),(1000000,bI cV)],[],[]⟩
def yb (t:Tm) (e0_0' v42 more9:Int):St UU:=⟨[(1,(.func 296 [] [(pt 1000000)])),(9,(iI more9)),(40,(sB t.sys)),(41,(iI t.sys.length)),(42,(iI v42))],[(1000000,bI e0_0')],[],[]⟩
def Nr (t:Tm) (v42:Int) (x4:(Br Tm)) (more9:Int) (e0_0'' v49:Int):St UU:=⟨[(1,(.func 296 [] [(pt 1000000)])),(9,(iI more9)),(40,(sB t.sys)),(41,(iI t.sys.length)),(42,(iI v42)),(47,(sT x4.kids)),(48,(iI x4.kids.length)),(49,(iI v49))],[(1000000,bI e0_0'')],[],[]⟩
section
variable (hd:gJ S) (k:Nat) (t:Tm) (c0:Int) (Z:Out UU->Option S)
theorem WE (v42 x4 more9 Z1): ∀n e0_0'' v49,(qY hd k).lp Z 15 [Z1] n (Nr t v42 x4 more9 e0_0'' v49)=sI hd k (eY Z) (fun e0_0' v42 more9=>Z1 (yb t e0_0' v42 more9)) t v42 x4 more9 n e0_0'' v49:=dp (AI hd k (eY Z) t v42 x4 more9 (fun e0_0' v42 more9=>Z1 (yb t e0_0' v42 more9)))
theorem WD: ∀n e0_0' v42 more9,(qY hd k).lp Z 12 [] n (yb t e0_0' v42 more9)=oW hd k (eY Z) t n e0_0' v42 more9:=lm (fun own=>wA hd k (eY Z) t (fun v42 x4 more9 e0_0'' v49=>sI hd k (eY Z) own t v42 x4 more9 k e0_0'' v49) own) rfl (fun _=>rfl) fun r e0_0' v42 more9=>aq (b:=wA hd k (eY Z) t (fun v42 x4 more9 e0_0'' v49=>(qY hd k).lp Z 15 [r] k (Nr t v42 x4 more9 e0_0'' v49)) (fun e0_0' v42 more9=>r (yb t e0_0' v42 more9)) e0_0' v42 more9) (by kernel_rfl) (by simp only [WE])
theorem WC: ∀n cV v17,(qY hd k).lp Z 2 [] n (Ht t cV v17)=uN hd k (eY Z) t n cV v17:=dp (fun own=>wz hd k (eY Z) t (fun e0_0' v42 more9=>oW hd k (eY Z) t k e0_0' v42 more9) own) rfl (fun _=>rfl) fun r cV v17=>aq (b:=wz hd k (eY Z) t (fun e0_0' v42 more9=>(qY hd k).lp Z 12 [] k (yb t e0_0' v42 more9)) (fun cV v17=>r (Ht t cV v17)) cV v17) (by kernel_rfl) (by simp only [WD])
end
theorem ZH (o:Obj) (ho:aj o) (hd:gJ S) (Hd:Tl o 254 (yK hd)) (k:Nat):Tl o 116 (Pt hd k:Rw S):=am (qY hd k) ⟨nF k ho,ZG o ho hd Hd k,trivial⟩ func116 fun t c0 Z x h=>aq (b:=JT hd k (eY Z) (fun cV v17=>(qY hd k).lp Z 2 [] k (Ht t cV v17)) t c0) (by kernel_rfl) (aq (by simp only [WC];rfl) (dt h))
def Uc (hd:gJ S) (k:Nat):Fx S:=fp 8 [(116,Pt hd k)] [] k f254 0
theorem Mn (o:Obj) (ho:aj o): ∀k:Nat,Tl o 254 (yK (oB k:gJ S))
 |0=>kI fun t Z x h=>by cases h
 |k+1=>am (Uc (oB k) k) ⟨ZH o ho (oB k) (Mn o ho k) k,trivial⟩ func254 fun t Z x h=>aq (by kernel_rfl) h
def H8 (hd:kL S):Rw S:=ai CJ xn fun t a_n Z=>hd t a_n (bY Z)
def n8 (hd:kL S) (k:Nat):Fx S:=fp 68 [(49,mV k),(255,H8 hd)] [(1000003,dw [1,2] [(2,6)],a8 2 3),(5,dw [1,2,5,24,25,26] [(2,6)],a8 6 23),(11,dw [1,5,47,48,49] [],a8 7 47),(14,dw [1,5,47,48,49,54,55,56] [],a8 15 13103)] k f255 0
def Ns (t:Tm) (a_n:Int):St UU:=⟨[(1,(iI a_n)),(2,(pt 2))],[(2,bT t)],[],[]⟩
def Hu (t:Tm) (a_n:Int) (v26 sum5:Int):St UU:=⟨[(1,(iI a_n)),(2,(pt 2)),(5,(iI sum5)),(24,(sT t.kids)),(25,(iI t.kids.length)),(26,(iI v26))],[(2,bT t)],[],[]⟩
def yc (a_n:Int) (t:Tm) (v49 sum5':Int):St UU:=⟨[(1,(iI a_n)),(5,(iI sum5')),(47,(sB t.sys)),(48,(iI t.sys.length)),(49,(iI v49))],[],[],[]⟩
def Nt (a_n:Int) (t:Tm) (v49:Int) (x4:(Br Tm)) (sum5'' v56:Int):St UU:=⟨[(1,(iI a_n)),(5,(iI sum5'')),(47,(sB t.sys)),(48,(iI t.sys.length)),(49,(iI v49)),(54,(sT x4.kids)),(55,(iI x4.kids.length)),(56,(iI v56))],[],[],[]⟩
section
variable (hd:kL S) (k:Nat) (t:Tm) (a_n:Int) (Z:Out UU->Option S)
theorem WI (v49 x4 Z2): ∀n sum5'' v56,(n8 hd k).lp Z 14 [Z2] n (Nt a_n t v49 x4 sum5'' v56)=sn hd k (bY Z) (fun v49 sum5'=>Z2 (yc a_n t v49 sum5')) a_n t v49 x4 n sum5'' v56:=dp (As hd k (bY Z) a_n t v49 x4 (fun v49 sum5'=>Z2 (yc a_n t v49 sum5')))
theorem WH: ∀n v49 sum5',(n8 hd k).lp Z 11 [] n (yc a_n t v49 sum5')=oS hd k (bY Z) a_n t n v49 sum5':=dp (fun own=>we hd k (bY Z) a_n t (fun v49 x4 sum5'' v56=>sn hd k (bY Z) own a_n t v49 x4 k sum5'' v56) own) rfl (fun _=>rfl) fun r v49 sum5'=>aq (b:=we hd k (bY Z) a_n t (fun v49 x4 sum5'' v56=>(n8 hd k).lp Z 14 [r] k (Nt a_n t v49 x4 sum5'' v56)) (fun v49 sum5'=>r (yc a_n t v49 sum5')) v49 sum5') (by kernel_rfl) (by simp only [WI])
theorem WG: ∀n v26 sum5,(n8 hd k).lp Z 5 [] n (Hu t a_n v26 sum5)=si hd k (bY Z) t a_n n v26 sum5:=dp (fun own=>wc hd k (bY Z) t a_n (fun v49 sum5'=>oS hd k (bY Z) a_n t k v49 sum5') own) rfl (fun _=>rfl) fun r v26 sum5=>aq (b:=wc hd k (bY Z) t a_n (fun v49 sum5'=>(n8 hd k).lp Z 11 [] k (yc a_n t v49 sum5')) (fun v26 sum5=>r (Hu t a_n v26 sum5)) v26 sum5) (by kernel_rfl) (by simp only [WH])
theorem WF: ∀n,(n8 hd k).jn Z 1000003 [] n (Ns t a_n)=CR hd k (bY Z) t a_n n:=My (Ar hd k (bY Z) t a_n (fun v26 sum5=>si hd k (bY Z) t a_n k v26 sum5)) rfl (fun _=>rfl) (aq (b:=Ar hd k (bY Z) t a_n (fun v26 sum5=>(n8 hd k).lp Z 5 [] k (Hu t a_n v26 sum5))) (by kernel_rfl) (by simp only [WG]))
end
theorem Mp (o:Obj) (ho:aj o): ∀k:Nat,Tl o 255 (H8 (lX k:kL S))
 |0=>kI fun t a_n Z x h=>by cases h
 |k+1=>am (n8 (lX k) k) ⟨nF k ho,Mp o ho k,trivial⟩ func255 fun t a_n Z x h=>aq (b:=Ee (lX k) k (bY Z) ((n8 (lX k) k).jn Z 1000003 [] k (Ns t a_n)) t a_n) (by kernel_rfl) (aq (by simp only [WF];rfl) h)
def Pv:Rw S:=ai ko xn fun t Z=>aa k (BX k t) (bY Z)
def Ue:Fx S:=fp 6 [] [] k f297 0
theorem ZJ (ho:aj o):Tl o 297 (Pv k:Rw S):=am (Ue k) trivial func297 fun t Z x h=>ay h
def H9 (hd:mo S):Rw S:=ai adp xn fun t a_n u vars dims Z=>hd t a_n u vars dims (eH Z)
def qZ (hd:mo S) (k:Nat):Fx S:=fp 137 [(49,mV k),(119,DK k),(257,H9 hd),(297,Pv k)] [(12,⟨[(1,ab),(3,ab),(4,ab),(5,ab),(7,ab),(10,ab),(13,ab),(66,ab),(67,ab),(68,ab)],[(5,[ab,ab,ab,ab,ab,ab]),(7,[ab,ab,ab,ab,ab,ab]),(10,[ab,ab,ab,aQ 200643,aQ 200644,aQ 200645]),(13,[ab,ab,ab,aQ 200835,aQ 200836,aQ 200837])]⟩,a8 6 23),(18,⟨[(1,ab),(3,ab),(4,ab),(5,ab),(7,ab),(10,ab),(13,ab),(97,ab),(98,ab),(99,ab)],[(5,[ab,ab,ab,ab,ab,ab]),(7,[ab,ab,ab,ab,ab,ab]),(10,[ab,ab,ab,aQ 200643,aQ 200644,aQ 200645]),(13,[ab,ab,ab,aQ 200835,aQ 200836,aQ 200837])]⟩,a8 7 47),(22,⟨[(1,ab),(3,ab),(4,ab),(5,ab),(7,ab),(10,ab),(13,ab),(20,ab),(97,ab),(98,ab),(99,ab),(108,ab),(109,ab),(110,ab)],[(5,[ab,ab,ab,ab,ab,ab]),(7,[ab,ab,ab,ab,ab,ab]),(10,[ab,ab,ab,aQ 200643,aQ 200644,aQ 200645]),(13,[ab,ab,ab,aQ 200835,aQ 200836,aQ 200837]),(20,[aQ 201280,aQ 201281])]⟩,a8 17 45871)] k f257 0
def Hv (t u:Tm) (a_n vars dims:Int) (b13_4:List Tm) (v68:Int):St UU:=⟨[(1,(iI a_n)),(3,(iI vars)),(4,(iI dims)),(5,(pt 5)),(7,(pt 7)),(10,(pt 10)),(13,(pt 13)),(66,(sT t.kids)),(67,(iI t.kids.length)),(68,(iI v68))],[(5,bT t),(7,bT u),(10,.cells [(iI 0),(iI 0),jv,(.own 200643 0),(.own 200644 0),(.own 200645 0)]),(13,.cells [(iI t.kind),(iI 0),(.str t.name),(.own 200835 0),(.own 200836 0),(.own 200837 0)])],[(200837,gP),(200836,⟨0,ET.T,b13_4⟩),(200835,⟨0,ET.C,t.r⟩),(200645,gP),(200644,je),(200643,iP)],[(200837,.wr),(200836,.wr),(200835,.wr),(200645,.wr),(200644,.wr),(200643,.wr)]⟩
def yd (t:Tm) (b13_4:List Tm) (u:Tm) (a_n vars dims:Int) (b13_5:List (Br Tm)) (v99:Int):St UU:=⟨[(1,(iI a_n)),(3,(iI vars)),(4,(iI dims)),(5,(pt 5)),(7,(pt 7)),(10,(pt 10)),(13,(pt 13)),(97,(sB t.sys)),(98,(iI t.sys.length)),(99,(iI v99))],[(5,bT t),(7,bT u),(10,.cells [(iI 0),(iI 0),jv,(.own 200643 0),(.own 200644 0),(.own 200645 0)]),(13,.cells [(iI t.kind),(iI 0),(.str t.name),(.own 200835 0),(.own 200836 0),(.own 200837 0)])],[(200837,⟨0,ET.B,b13_5⟩),(200836,⟨0,ET.T,b13_4⟩),(200835,⟨0,ET.C,t.r⟩),(200645,gP),(200644,je),(200643,iP)],[(200837,.wr),(200836,.wr),(200835,.wr),(200645,.wr),(200644,.wr),(200643,.wr)]⟩
def Nu (t:Tm) (b13_4:List Tm) (b13_5:List (Br Tm)) (x9:(Br Tm)) (u:Tm) (a_n vars dims v99:Int) (b20_1:List Tm) (v110:Int):St UU:=⟨[(1,(iI a_n)),(3,(iI vars)),(4,(iI dims)),(5,(pt 5)),(7,(pt 7)),(10,(pt 10)),(13,(pt 13)),(20,(pt 20)),(97,(sB t.sys)),(98,(iI t.sys.length)),(99,(iI v99)),(108,(sT x9.kids)),(109,(iI x9.kids.length)),(110,(iI v110))],[(5,bT t),(7,bT u),(10,.cells [(iI 0),(iI 0),jv,(.own 200643 0),(.own 200644 0),(.own 200645 0)]),(13,.cells [(iI t.kind),(iI 0),(.str t.name),(.own 200835 0),(.own 200836 0),(.own 200837 0)]),(20,.cells [(.own 201280 0),(.own 201281 0)])],[(201281,⟨0,ET.T,b20_1⟩),(201280,⟨0,ET.C,x9.face⟩),(200837,⟨0,ET.B,b13_5⟩),(200836,⟨0,ET.T,b13_4⟩),(200835,⟨0,ET.C,t.r⟩),(200645,gP),(200644,je),(200643,iP)],[(201281,.wr),(201280,.wr),(200837,.wr),(200836,.wr),(200835,.wr),(200645,.wr),(200644,.wr),(200643,.wr)]⟩
section
variable (hd:mo S) (k:Nat) (t:Tm) (a_n:Int) (u:Tm) (vars dims:Int) (Z:Out UU->Option S)
theorem WL (b13_4 b13_5 x9 v99 Z1): ∀n b20_1 v110,(qZ hd k).lp Z 22 [Z1] n (Nu t b13_4 b13_5 x9 u a_n vars dims v99 b20_1 v110)=sz hd k (eH Z) (fun b13_5 v99=>Z1 (yd t b13_4 u a_n vars dims b13_5 v99)) t b13_4 b13_5 x9 u a_n vars dims v99 n b20_1 v110:=dp (Au hd k (eH Z) t b13_4 b13_5 x9 u a_n vars dims v99 (fun b13_5 v99=>Z1 (yd t b13_4 u a_n vars dims b13_5 v99)))
theorem WK (b13_4): ∀n b13_5 v99,(qZ hd k).lp Z 18 [] n (yd t b13_4 u a_n vars dims b13_5 v99)=oT hd k (eH Z) t b13_4 u a_n vars dims n b13_5 v99:=dp (fun own=>wi hd k (eH Z) t b13_4 u a_n vars dims (fun b13_5 x9 v99 b20_1 v110=>sz hd k (eH Z) own t b13_4 b13_5 x9 u a_n vars dims v99 k b20_1 v110) own) rfl (fun _=>rfl) fun r b13_5 v99=>aq (b:=wi hd k (eH Z) t b13_4 u a_n vars dims (fun b13_5 x9 v99 b20_1 v110=>(qZ hd k).lp Z 22 [r] k (Nu t b13_4 b13_5 x9 u a_n vars dims v99 b20_1 v110)) (fun b13_5 v99=>r (yd t b13_4 u a_n vars dims b13_5 v99)) b13_5 v99) (by kernel_rfl) (by simp only [WL])
theorem WJ: ∀n b13_4 v68,(qZ hd k).lp Z 12 [] n (Hv t u a_n vars dims b13_4 v68)=uD hd k (eH Z) t u a_n vars dims n b13_4 v68:=dp (fun own=>wg hd k (eH Z) t u a_n vars dims (fun b13_4 b13_5 v99=>oT hd k (eH Z) t b13_4 u a_n vars dims k b13_5 v99) own) rfl (fun _=>rfl) fun r b13_4 v68=>aq (b:=wg hd k (eH Z) t u a_n vars dims (fun b13_4 b13_5 v99=>(qZ hd k).lp Z 18 [] k (yd t b13_4 u a_n vars dims b13_5 v99)) (fun b13_4 v68=>r (Hv t u a_n vars dims b13_4 v68)) b13_4 v68) (by kernel_rfl) (by simp only [WK])
end
theorem Mq (o:Obj) (ho:aj o): ∀k:Nat,Tl o 257 (H9 (lY k:mo S))
 |0=>kI fun t a_n u vars dims Z x h=>by cases h
 |k+1=>am (qZ (lY k) k) ⟨nF k ho,Gz k ho,Mq o ho k,ZJ k ho,trivial⟩ func257 fun t a_n u vars dims Z x h=>aq (b:=JG (lY k) k (eH Z) (fun b13_4 v68=>(qZ (lY k) k).lp Z 12 [] k (Hv t u a_n vars dims b13_4 v68)) t a_n u vars dims) (by kernel_rfl) (aq (by simp only [WJ];rfl) h)
def yL (hd:gI S):Rw S:=ai ko xn fun t Z=>hd t (bY Z)
def Pw (hd:gI S) (k:Nat):Rw S:=ai CO dN fun a_k p p' c0 Z=>aa k (xd hd k a_k p p' c0) (eY Z)
def Ug (hd:gI S) (k:Nat):Fx S:=fp 12 [(258,yL hd)] [] k f298 1
theorem ZK (o:Obj) (ho:aj o) (hd:gI S) (Hd:Tl o 258 (yL hd)) (k:Nat):Tl o 298 (Pw hd k:Rw S):=am (Ug hd k) ⟨Hd,trivial⟩ func298 fun a_k p p' c0 Z x h=>ay h
def Px (hd:gI S) (k:Nat):Rw S:=ai adq dN fun t c0 Z=>aa k (Gl hd k t c0) (eY Z)
def q_ (hd:gI S) (k:Nat):Fx S:=fp 60 [(49,mV k),(298,Pw hd k)] [(2,dw [1,2,15,16,17] [(2,6),(1000000,1)],a8 4 5),(12,dw [1,9,40,41,42] [(1000000,1)],a8 7 47),(15,dw [1,9,40,41,42,47,48,49] [(1000000,1)],a8 15 13103)] k f116 1
def Hw (t:Tm) (cV v17:Int):St UU:=⟨[(1,(.func 298 [] [(pt 1000000)])),(2,(pt 2)),(15,(sT t.kids)),(16,(iI t.kids.length)),(17,(iI v17))],[(2,bT t),(1000000,bI cV)],[],[]⟩
def ye (t:Tm) (e0_0' v42 more9:Int):St UU:=⟨[(1,(.func 298 [] [(pt 1000000)])),(9,(iI more9)),(40,(sB t.sys)),(41,(iI t.sys.length)),(42,(iI v42))],[(1000000,bI e0_0')],[],[]⟩
def Nv (t:Tm) (v42:Int) (x4:(Br Tm)) (more9:Int) (e0_0'' v49:Int):St UU:=⟨[(1,(.func 298 [] [(pt 1000000)])),(9,(iI more9)),(40,(sB t.sys)),(41,(iI t.sys.length)),(42,(iI v42)),(47,(sT x4.kids)),(48,(iI x4.kids.length)),(49,(iI v49))],[(1000000,bI e0_0'')],[],[]⟩
section
variable (hd:gI S) (k:Nat) (t:Tm) (c0:Int) (Z:Out UU->Option S)
theorem WO (v42 x4 more9 Z1): ∀n e0_0'' v49,(q_ hd k).lp Z 15 [Z1] n (Nv t v42 x4 more9 e0_0'' v49)=sJ hd k (eY Z) (fun e0_0' v42 more9=>Z1 (ye t e0_0' v42 more9)) t v42 x4 more9 n e0_0'' v49:=dp (AJ hd k (eY Z) t v42 x4 more9 (fun e0_0' v42 more9=>Z1 (ye t e0_0' v42 more9)))
theorem WN: ∀n e0_0' v42 more9,(q_ hd k).lp Z 12 [] n (ye t e0_0' v42 more9)=oX hd k (eY Z) t n e0_0' v42 more9:=lm (fun own=>wC hd k (eY Z) t (fun v42 x4 more9 e0_0'' v49=>sJ hd k (eY Z) own t v42 x4 more9 k e0_0'' v49) own) rfl (fun _=>rfl) fun r e0_0' v42 more9=>aq (b:=wC hd k (eY Z) t (fun v42 x4 more9 e0_0'' v49=>(q_ hd k).lp Z 15 [r] k (Nv t v42 x4 more9 e0_0'' v49)) (fun e0_0' v42 more9=>r (ye t e0_0' v42 more9)) e0_0' v42 more9) (by kernel_rfl) (by simp only [WO])
theorem WM: ∀n cV v17,(q_ hd k).lp Z 2 [] n (Hw t cV v17)=uO hd k (eY Z) t n cV v17:=dp (fun own=>wB hd k (eY Z) t (fun e0_0' v42 more9=>oX hd k (eY Z) t k e0_0' v42 more9) own) rfl (fun _=>rfl) fun r cV v17=>aq (b:=wB hd k (eY Z) t (fun e0_0' v42 more9=>(q_ hd k).lp Z 12 [] k (ye t e0_0' v42 more9)) (fun cV v17=>r (Hw t cV v17)) cV v17) (by kernel_rfl) (by simp only [WN])
end
theorem ZL (o:Obj) (ho:aj o) (hd:gI S) (Hd:Tl o 258 (yL hd)) (k:Nat):Tl o 116 (Px hd k:Rw S):=am (q_ hd k) ⟨nF k ho,ZK o ho hd Hd k,trivial⟩ func116 fun t c0 Z x h=>aq (b:=JU hd k (eY Z) (fun cV v17=>(q_ hd k).lp Z 2 [] k (Hw t cV v17)) t c0) (by kernel_rfl) (aq (by simp only [WM];rfl) (dt h))
def Uf (hd:gI S) (k:Nat):Fx S:=fp 9 [(116,Px hd k)] [] k f258 0
theorem Mr (o:Obj) (ho:aj o): ∀k:Nat,Tl o 258 (yL (oA k:gI S))
 |0=>kI fun t Z x h=>by cases h
 |k+1=>am (Uf (oA k) k) ⟨ZL o ho (oA k) (Mr o ho k) k,trivial⟩ func258 fun t Z x h=>aq (by kernel_rfl) h
def Py:Rw S:=ai adr xn fun t a_n u Z=>aa k (BW k t a_n u) (kB Z)
def Uh:Fx S:=⟨⟨49,(fun _=>[]),(fun _=>false),ab,fun|6=>true|7=>true|_=>false⟩,[(40,mg k),(254,yK (oB k)),(255,H8 (lX k)),(257,H9 (lY k)),(258,yL (oA k))],[],k,f181,false,[],0,some (tA 16 256 f256 k)⟩
theorem ZM (ho:aj o):Tl o 181 (Py k:Rw S):=Eh (Uh k) rfl (AV o func256 (by kernel_rfl)) ⟨mB k ho,Mn o ho k,Mp o ho k,Mq o ho k,Mr o ho k,trivial⟩ func181 (by kernel_rfl) fun t a_n u Z x h=>ay h
def H_:Rw S:=ai CQ dN fun t u c0 Z=>aa k (w8 k t u c0) (kA Z)
def Ui:Fx S:=fp 18 [(93,lx k),(94,ly k),(181,Py k)] [] k f100 1
theorem Ls (ho:aj o):Tl o 100 (H_ k:Rw S):=am (Ui k) ⟨l7 k ho,l8 k ho,ZM k ho,trivial⟩ func100 fun t u c0 Z x h=>ay h
def yM:Rw S:=ai MU dN fun t a_r c0 Z=>aa k (pQ k t a_r c0) (kA Z)
def Uj:Fx S:=fp 18 [(28,vc k),(93,lx k),(94,ly k)] [] k f130 1
theorem Ce (ho:aj o):Tl o 130 (yM k:Rw S):=am (Uj k) ⟨xx k ho,l7 k ho,l8 k ho,trivial⟩ func130 fun t a_r c0 Z x h=>ay h
def nU:Rw S:=ai G3 xn fun kind kids Z=>aa k (d8 k kind kids) (De Z)
def Uk:Fx S:=fx 8 (fun _=>[]) (fun _=>false) [] [] k f58 true [] 0
theorem oD (ho:aj o):Tl o 58 (nU k:Rw S):=am (Uk k) trivial func58 fun kind kids Z x h=>ay h
def td:Rw S:=ai ads xn fun kind a_r kids Z=>aa k (iF k kind a_r kids) (O1 Z)
def Um:Fx S:=fx 11 (fun _=>[]) (fun _=>false) [] [] k f73 true [] 0
theorem tX (ho:aj o):Tl o 73 (td k:Rw S):=am (Um k) trivial func73 fun kind a_r kids Z x h=>ay h
def ahz:Rw S:=ai CQ vH fun line a bS c0_1 aG aH aI aJ aK aL Z=>aa k (oC k line a bS c0_1 aG aH aI aJ aK aL) (O2 bS c0_1 aG aH aI aJ aK aL Z)
def Ia:Rw S:=ai CQ vH fun line a bS c0_1 aG aH aI aJ aK aL Z=>aa k (oC k line a bS c0_1 aG aH aI aJ aK aL) (O1 Z)
def Un:Fx S:=fx 15 (fun _=>[]) (fun _=>false) [(73,td k)] [] k f161 true [] 1
theorem ZO (ho:aj o):Tl o 161 (ahz k:Rw S):=am (Un k) ⟨tX k ho,trivial⟩ func161 fun line a bS c0_1 aG aH aI aJ aK aL Z x h=>ay h
theorem Lt (ho:aj o):Tl o 161 (Ia k:Rw S):=SU (ZO k ho) fun line a bS c0_1 aG aH aI aJ aK aL Z x h=>aq (b:=aa k (oC k line a bS c0_1 aG aH aI aJ aK aL) (O2 bS c0_1 aG aH aI aJ aK aL (A0 _ Z))) (by kernel_rfl) (aq (congrArg (aa k (oC k line a bS c0_1 aG aH aI aJ aK aL)) (funext fun r=>if_pos rfl)) h)
def PA:Rw S:=ai oM vH fun l bS c0_1 aG aH aI aJ aK aL Z=>aa k (B6 k l bS c0_1 aG aH aI aJ aK aL) (HZ c0_1 aG aH aI aJ aK aL Z)
def Uo:Fx S:=fx 59 (fun _=>[]) (fun _=>false) [(56,tg k),(58,nU k),(95,QH k),(100,H_ k),(101,Pr k),(130,yM k),(160,Pn k),(161,Ia k)] [] k f79 true [] 1
theorem ZP (ho:aj o):Tl o 79 (PA k:Rw S):=am (Uo k) ⟨t6 k ho,oD k ho,aaZ k ho,Ls k ho,ZF k ho,Ce k ho,ZB k ho,Lt k ho,trivial⟩ func79 fun l bS c0_1 aG aH aI aJ aK aL Z x h=>ay h
def PB:Rw S:=ai MV xn fun line phi a Z=>aa k (A5 k line phi a) (kB Z)
def Uq:Fx S:=fp 17 [(274,H7 k)] [] k f219 0
theorem ZQ (ho:aj o):Tl o 219 (PB k:Rw S):=am (Uq k) ⟨Lr k ho,trivial⟩ func219 fun line phi a Z x h=>ay h
def Ib:Rw S:=ai MW dN fun line phi a c0 Z=>aa k (w_ k line phi a c0) (kA Z)
def Ur:Fx S:=fp 21 [(93,lx k),(94,ly k),(219,PB k)] [] k f134 1
theorem Lu (ho:aj o):Tl o 134 (Ib k:Rw S):=am (Ur k) ⟨l7 k ho,l8 k ho,ZQ k ho,trivial⟩ func134 fun line phi a c0 Z x h=>ay h
def PC:Rw S:=ai oM vH fun l bS c0_1 aG aH aI aJ aK aL Z=>aa k (B7 k l bS c0_1 aG aH aI aJ aK aL) (HZ c0_1 aG aH aI aJ aK aL Z)
def Us:Fx S:=fx 52 (fun _=>[]) (fun _=>false) [(58,nU k),(100,H_ k),(134,Ib k),(161,Ia k)] [] k f80 true [] 1
theorem ZR (ho:aj o):Tl o 80 (PC k:Rw S):=am (Us k) ⟨oD k ho,Ls k ho,Lu k ho,Lt k ho,trivial⟩ func80 fun l bS c0_1 aG aH aI aJ aK aL Z x h=>ay h
def PD:Rw S:=ai ko xn fun t Z=>aa k (B4 k t) (kB Z)
def Ut:Fx S:=fp 21 [(28,vc k),(35,yS k)] [] k f12 0
theorem ZS (ho:aj o):Tl o 12 (PD k:Rw S):=am (Ut k) ⟨xx k ho,Ch k ho,trivial⟩ func12 fun t Z x h=>ay h
def PE:Rw S:=ai oM vH fun t bS c0_1 aG aH aI aJ aK aL Z=>aa k (B8 k t bS c0_1 aG aH aI aJ aK aL) (ahh c0_1 aG aH aI aJ aK aL Z)
def Uu:Fx S:=fp 25 [(12,PD k)] [] k f163 1
theorem ZT (ho:aj o):Tl o 163 (PE k:Rw S):=am (Uu k) ⟨ZS k ho,trivial⟩ func163 fun t bS c0_1 aG aH aI aJ aK aL Z x h=>ay h
def PF:Rw S:=ai adt alf fun a_by a_r c1 c2 ez cE ct cu cv cx cz cA Z=>aa k (xo k a_by a_r c1 c2 ez cE ct cu cv cx cz cA) (ahi c1 c2 cE ct cu cv cx cz cA Z)
def Uv:Fx S:=fx 37 (fun _=>[]) (fun _=>false) [(56,tg k),(73,td k)] [] k f162 true [] 4
theorem ZU (ho:aj o):Tl o 162 (PF k:Rw S):=am (Uv k) ⟨t6 k ho,tX k ho,trivial⟩ func162 fun a_by a_r c1 c2 ez cE ct cu cv cx cz cA Z x h=>ay h
def Ic:Rw S:=ai adu dN fun f a_by c0 Z=>aa k (w9 k f a_by c0) (Dk Z)
def Uw:Fx S:=fp 23 [(75,tf k),(93,lx k),(94,ly k)] [] k f103 1
theorem Lv (ho:aj o):Tl o 103 (Ic k:Rw S):=am (Uw k) ⟨tZ k ho,l7 k ho,l8 k ho,trivial⟩ func103 fun f a_by c0 Z x h=>ay h
def mU:Rw S:=ai adv xn fun f kids Z=>aa k (eV k f kids) (O3 Z)
def Uy:Fx S:=fp 8 [] [] k f59 0
theorem nE (ho:aj o):Tl o 59 (mU k:Rw S):=am (Uy k) trivial func59 fun f kids Z x h=>ay h
def Ie:Rw S:=ai MI dN fun t a_by c0 Z=>aa k (pP k t a_by c0) (kA Z)
def Uz:Fx S:=fp 18 [(35,yS k),(93,lx k),(94,ly k)] [] k f104 1
theorem Lx (ho:aj o):Tl o 104 (Ie k:Rw S):=am (Uz k) ⟨Ch k ho,l7 k ho,l8 k ho,trivial⟩ func104 fun t a_by c0 Z x h=>ay h
def PG:Rw S:=ai adw xn fun sys Z=>aa k (wN k sys) (ahj Z)
def UA:Fx S:=fx 8 (fun _=>[]) (fun _=>false) [(186,yJ k)] [] k f208 true [] 0
theorem ZV (ho:aj o):Tl o 208 (PG k:Rw S):=am (UA k) ⟨Cc k ho,trivial⟩ func208 fun sys Z x h=>ay h
def PH:Rw S:=ai oM dN fun line c0 Z=>aa k (A6 k line c0) (kA Z)
def UB:Fx S:=fp 25 [(28,vc k),(29,DO k),(210,qz k),(270,ph k)] [] k f260 1
theorem ZW (ho:aj o):Tl o 260 (PH k:Rw S):=am (UB k) ⟨xx k ho,GD k ho,rK k ho,pW k ho,trivial⟩ func260 fun line c0 Z x h=>ay h
def PJ:Rw S:=ai adx xn fun line a sys Z=>aa k (A3 k line a sys) (kB Z)
def EM:Fx S:=fp 78 [(41,pf (fH k)),(186,yJ k),(207,DL k),(208,PG k),(210,qz k),(212,H5 k),(213,DB k),(260,PH k)] [(5,⟨[(3,ab),(6,ab),(8,ab),(9,ab),(36,ab),(37,ab),(38,ab)],[(3,[ab,ab,ab,ab,ab,ab]),(6,[ab,ab,ab,aQ 200387,aQ 200388,aQ 200389]),(9,[ab,ab,ab,aQ 200579,ab,aQ 200581]),(19000,[ab])]⟩,a8 7 47)] k f183 0
def Nx (r3:Tm) (r9:Int×Int×ByteArray×List Tm) (r6:Tm) (jX:Int) (b9_5:List (Br Tm)) (v38:Int):St UU:=⟨[(3,(pt 3)),(6,(pt 6)),(8,(pt 19000)),(9,(pt 9)),(36,(sB r6.sys)),(37,(iI r6.sys.length)),(38,(iI v38))],[(3,bT r3),(6,.cells [(iI 0),(iI 0),jv,(.own 200387 0),(.own 200388 0),(.own 200389 0)]),(9,.cells [(iI r9.1),(iI r9.2.1),(.str r9.2.2.1),(.own 200579 0),(sT r9.2.2.2),(.own 200581 0)]),(19000,bI jX)],[(200581,⟨0,ET.B,b9_5⟩),(200579,iP),(200389,gP),(200388,je),(200387,iP)],[(200581,.wr),(200579,.wr),(200389,.wr),(200388,.wr),(200387,.wr)]⟩
section
variable (k:Nat) (line a:Tm) (sys:List (Br Tm)) (Z:Out UU->Option S)
theorem WR (r3 r9 r6): ∀n jX b9_5 v38,(EM k).lp Z 5 [] n (Nx r3 r9 r6 jX b9_5 v38)=oP k (kB Z) r3 r9 r6 n jX b9_5 v38:=lm (tt k (kB Z) r3 r9 r6)
end
theorem ZX (ho:aj o):Tl o 183 (PJ k:Rw S):=am (EM k) ⟨rQ o ho k,Cc k ho,GA k ho,ZV k ho,rK k ho,Lp k ho,Gr k ho,ZW k ho,trivial⟩ func183 fun line a sys Z x h=>aq (b:=Ja k (kB Z) (fun r3 r9 r6 jX b9_5 v38=>(EM k).lp Z 5 [] k (Nx r3 r9 r6 jX b9_5 v38)) line a sys) (by kernel_rfl) (aq (by simp only [WR];rfl) (dt h))
def If:Rw S:=ai ady dN fun line a sys c0 Z=>aa k (rI k line a sys c0) (kA Z)
def UC:Fx S:=fp 21 [(93,lx k),(94,ly k),(183,PJ k)] [] k f102 1
theorem Ly (ho:aj o):Tl o 102 (If k:Rw S):=am (UC k) ⟨l7 k ho,l8 k ho,ZX k ho,trivial⟩ func102 fun line a sys c0 Z x h=>ay h
def PK:Rw S:=ai oM vH fun l bS c0_1 aG aH aI aJ aK aL Z=>aa k (B5 k l bS c0_1 aG aH aI aJ aK aL) (HZ c0_1 aG aH aI aJ aK aL Z)
def UD:Fx S:=fx 100 (fun _=>[]) (fun _=>false) [(58,nU k),(59,mU k),(102,If k),(103,Ic k),(104,Ie k),(130,yM k),(162,PF k),(163,PE k)] [] k f81 true [] 1
theorem ZY (ho:aj o):Tl o 81 (PK k:Rw S):=am (UD k) ⟨oD k ho,nE k ho,Ly k ho,Lv k ho,Lx k ho,Ce k ho,ZU k ho,ZT k ho,trivial⟩ func81 fun l bS c0_1 aG aH aI aJ aK aL Z x h=>ay h
def Ig:Rw S:=ai oM dN fun t c0 Z=>aa k (w7 k t c0) (kA Z)
def UE:Fx S:=fp 9 [(29,DO k),(130,yM k)] [] k f67 1
theorem Lz (ho:aj o):Tl o 67 (Ig k:Rw S):=am (UE k) ⟨GD k ho,Ce k ho,trivial⟩ func67 fun t c0 Z x h=>ay h
def yN:Rw S:=ai adz xn fun kind l kids Z=>aa k (ny k kind l kids) (O4 Z)
def UF:Fx S:=fx 11 (fun _=>[]) (fun _=>false) [] [] k f63 true [] 0
theorem Cf (ho:aj o):Tl o 63 (yN k:Rw S):=am (UF k) trivial func63 fun kind l kids Z x h=>ay h
def PL:Rw S:=ai ko xn fun t Z=>aa k (BH k t) (pe Z)
def EO:Fx S:=fp 133 [(40,mg k),(41,pf (fH k)),(42,DH k),(59,mU k),(63,yN k),(67,Ig k),(73,td k),(103,Ic k),(104,Ie k)] [(20,⟨[(1,ab),(2,ab),(6,ab),(8,ab),(9,ab),(10,ab),(11,aQ 100011),(94,ab),(95,ab),(96,ab)],[(1,[ab,ab,ab,ab,ab,ab]),(2,[ab,ab,ab,aQ 200131,aQ 200132,aQ 200133]),(6,[ab,ab,ab,ab,ab,ab]),(9,[ab,ab,ab,ab,ab,ab]),(10,[ab,ab,ab,ab,ab,aQ 200645]),(44,[ab])]⟩,a8 21 769727)] k f82 0
def Ny (r3:Tm) (r15:Int×Int×ByteArray×List Cl×List Tm) (x4:Tm) (r13:Tm×Int) (x5:Tm) (kU:Int) (sys11:List (Br Tm)) (v96:Int):St UU:=⟨[(1,(pt 1)),(2,(pt 2)),(6,(pt 6)),(8,(pt 44)),(9,(pt 9)),(10,(pt 10)),(11,(.own 100011 0)),(94,(sB x5.sys)),(95,(iI x5.sys.length)),(96,(iI v96))],[(1,bT r3),(2,.cells [(iI 0),(iI 0),jv,(.own 200131 0),(.own 200132 0),(.own 200133 0)]),(6,bT x4),(9,bT r13.1),(10,.cells [(iI r15.1),(iI r15.2.1),(.str r15.2.2.1),(sC r15.2.2.2.1),(sT r15.2.2.2.2),(.own 200645 0)]),(44,bI kU)],[(200645,gP),(200133,gP),(200132,je),(200131,iP),(100011,⟨0,ET.B,sys11⟩)],[(200645,.wr),(200133,.wr),(200132,.wr),(200131,.wr),(100011,.wr)]⟩
section
variable (k:Nat) (t:Tm) (Z:Out UU->Option S)
theorem WS (r3 r15 x4 r13 x5): ∀n kU sys11 v96,(EO k).lp Z 20 [] n (Ny r3 r15 x4 r13 x5 kU sys11 v96)=rX k (pe Z) r3 r15 x4 r13 x5 n kU sys11 v96:=lm (Al k (pe Z) r3 r15 x4 r13 x5)
end
theorem ZZ (ho:aj o):Tl o 82 (PL k:Rw S):=am (EO k) ⟨mB k ho,rQ o ho k,Gw k ho,nE k ho,Cf k ho,Lz k ho,tX k ho,Lv k ho,Lx k ho,trivial⟩ func82 fun t Z x h=>aq (b:=JD k (pe Z) (fun r3 r15 x4 r13 x5 kU sys11 v96=>(EO k).lp Z 20 [] k (Ny r3 r15 x4 r13 x5 kU sys11 v96)) t) (by kernel_rfl) (aq (by simp only [WS];rfl) (dt h))
def PM:Rw S:=ai acF xn fun b Z=>aa k (Gb k b) (O3 Z)
def UH:Fx S:=fp 11 [(59,mU k)] [] k f118 0
theorem Z3 (ho:aj o):Tl o 118 (PM k:Rw S):=am (UH k) ⟨nE k ho,trivial⟩ func118 fun b Z x h=>ay h
def PN:Rw S:=ai acG xn fun l Z=>aa k (F_ k l) (Du Z)
def EP:Fx S:=fx 22 (fun _=>[]) (fun _=>false) [(118,PM k)] [(3,⟨[(1,ab),(5,aQ 100005),(8,ab),(9,ab),(10,ab)],[]⟩,a8 5 11)] k f54 false [true] 0
def Nz (l:List (Br Tm)) (v10:Int) (out5:List (Br Tm)):St UU:=⟨[(1,(.func 118 [] [])),(5,(.own 100005 0)),(8,(sB l)),(9,(iI l.length)),(10,(iI v10))],[],[(100005,⟨0,ET.B,out5⟩)],[(100005,.wr)]⟩
section
variable (k:Nat) (l:List (Br Tm)) (Z:Out UU->Option S)
theorem WT: ∀n v10 out5,(EP k).lp Z 3 [] n (Nz l v10 out5)=uB k (Du Z) l n v10 out5:=dp (Aj k (Du Z) l)
end
theorem Z4 (ho:aj o):Tl o 54 (PN k:Rw S):=am (EP k) ⟨Z3 k ho,trivial⟩ func54 fun l Z x h=>aq (b:=JB k (Du Z) (fun v10 out5=>(EP k).lp Z 3 [] k (Nz l v10 out5)) l) (by kernel_rfl) (aq (by simp only [WT];rfl) (dt h))
def PO:Rw S:=ai ko xn fun g Z=>aa k (BG k g) (ahk Z)
def UI:Fx S:=fp 6 [(54,PN k)] [] k f53 0
theorem Z5 (ho:aj o):Tl o 53 (PO k:Rw S):=am (UI k) ⟨Z4 k ho,trivial⟩ func53 fun g Z x h=>ay h
def PP:Rw S:=ai acH xn fun a es Z=>aa k (Ga k a es) (O4 Z)
def UJ:Fx S:=fx 9 (fun _=>[]) (fun _=>false) [(63,yN k)] [] k f57 true [] 0
theorem Z6 (ho:aj o):Tl o 57 (PP k:Rw S):=am (UJ k) ⟨Cf k ho,trivial⟩ func57 fun a es Z x h=>ay h
def PQ:Rw S:=ai CM dN fun c c0 Z=>aa k (FZ k c c0) (ahl c0 Z)
def UK:Fx S:=fp 14 [(149,vf k)] [] k f273 1
theorem Z7 (ho:aj o):Tl o 273 (PQ k:Rw S):=am (UK k) ⟨xz k ho,trivial⟩ func273 fun c c0 Z x h=>ay h
def PR:Rw S:=ai acI dN fun l c0 Z=>aa k (F0 k l c0) (Dv c0 Z)
def EQ:Fx S:=fp 29 [(273,PQ k)] [(3,⟨[(1,ab),(5,aQ 100005),(10,ab),(11,ab),(12,ab)],[(1000000,[ab])]⟩,a8 5 11)] k f272 1
def NA (c0:Int) (l:List Cl) (v12:Int) (out5:List Cl):St UU:=⟨[(1,(.func 273 [] [(pt 1000000)])),(5,(.own 100005 0)),(10,(sC l)),(11,(iI l.length)),(12,(iI v12))],[(1000000,bI c0)],[(100005,⟨0,ET.C,out5⟩)],[(100005,.wr)]⟩
section
variable (k:Nat) (l:List Cl) (c0:Int) (Z:Out UU->Option S)
theorem WU: ∀n v12 out5,(EQ k).lp Z 3 [] n (NA c0 l v12 out5)=ul k (Dv c0 Z) c0 l n v12 out5:=dp (zY k (Dv c0 Z) c0 l)
end
theorem Z8 (ho:aj o):Tl o 272 (PR k:Rw S):=am (EQ k) ⟨Z7 k ho,trivial⟩ func272 fun l c0 Z x h=>aq (b:=Jn k (Dv c0 Z) (fun v12 out5=>(EQ k).lp Z 3 [] k (NA c0 l v12 out5)) l c0) (by kernel_rfl) (aq (by simp only [WU];rfl) (dt h))
def PS:Rw S:=ai MF xn fun f i Z=>aa k (Bg k f i) (cR Z)
def UL:Fx S:=fp 20 [(146,mW k),(205,vd k),(239,Iq k),(272,PR k)] [] k f218 0
theorem Z9 (ho:aj o):Tl o 218 (PS k:Rw S):=am (UL k) ⟨nG k ho,xy k ho,LK k ho,Z8 k ho,trivial⟩ func218 fun f i Z x h=>ay h
def PT:Rw S:=ai MK dN fun f c0 Z=>aa k (BS k f c0) (Dk Z)
def UM:Fx S:=fp 39 [(28,vc k),(58,nU k),(93,lx k),(94,ly k),(143,DJ k),(218,PS k)] [] k f131 1
theorem Z_ (ho:aj o):Tl o 131 (PT k:Rw S):=am (UM k) ⟨xx k ho,oD k ho,l7 k ho,l8 k ho,Gy k ho,Z9 k ho,trivial⟩ func131 fun f c0 Z x h=>ay h
def ahA:Rw S:=ai CK Ks fun c1 jZ gS gZ g5 g6 g7 g8 g9 g_ gy gn gq gr gu gx gU gV gW gX gY g4 Z=>aa k (tJ k c1 jZ gS gZ g5 g6 g7 g8 g9 g_ gy gn gq gr gu gx gU gV gW gX gY g4) (O5 c1 gS gZ g5 g6 g7 g8 g9 g_ gy gn gq gr gu gx gU gV gW gX gY g4 Z)
def PW:Rw S:=ai CK Ks fun c1 jZ gS gZ g5 g6 g7 g8 g9 g_ gy gn gq gr gu gx gU gV gW gX gY g4 Z=>aa k (tJ k c1 jZ gS gZ g5 g6 g7 g8 g9 g_ gy gn gq gr gu gx gU gV gW gX gY g4) (ahn Z)
def UN:Fx S:=fp 8 [(56,tg k)] [] k f132 3
theorem aab (ho:aj o):Tl o 132 (ahA k:Rw S):=am (UN k) ⟨t6 k ho,trivial⟩ func132 fun c1 jZ gS gZ g5 g6 g7 g8 g9 g_ gy gn gq gr gu gx gU gV gW gX gY g4 Z x h=>ay h
theorem aaa (ho:aj o):Tl o 132 (PW k:Rw S):=JY (n:=2) (m:=1) (aab k ho) fun c1 jZ gS gZ g5 g6 g7 g8 g9 g_ gy gn gq gr gu gx gU gV gW gX gY g4 Z x h=>aq (b:=aa k (tJ k c1 jZ gS gZ g5 g6 g7 g8 g9 g_ gy gn gq gr gu gx gU gV gW gX gY g4) (O5 c1 gS gZ g5 g6 g7 g8 g9 g_ gy gn gq gr gu gx gU gV gW gX gY g4 (wK 2 1 [.cells [(pt 2)],bT c1,.cells [(iI jZ),(sC gS),(iI gZ),(iI g5),(.str g6),(sC g7),(sT g8),(sB g9),(sB g_),(iI gy),(iI gn),(.str gq),(sC gr),(sT gu),(sB gx),(iI gU),(iI gV),(.str gW),(sC gX),(sT gY),(sB g4)]] Z))) (by kernel_rfl) (aq (congrArg (aa k (tJ k c1 jZ gS gZ g5 g6 g7 g8 g9 g_ gy gn gq gr gu gx gU gV gW gX gY g4)) (funext fun r=>if_pos ⟨rfl,rfl⟩)) h)
def PX:Rw S:=ai acJ ak5 fun bS c0_1 aG aH aI aJ aK aL dV cL cF cG cH cJ cK b9 b_ ca ce ci cj c2 Z=>aa k (wZ k bS c0_1 aG aH aI aJ aK aL dV cL cF cG cH cJ cK b9 b_ ca ce ci cj c2) (aho c0_1 aG aH aI aJ aK aL dV cL cF cG cH cJ cK b9 b_ ca ce ci cj c2 Z)
def UO:Fx S:=fx 20 (fun _=>[]) (fun _=>false) [(59,mU k),(132,PW k)] [] k f71 true [false,true] 3
theorem aac (ho:aj o):Tl o 71 (PX k:Rw S):=am (UO k) ⟨nE k ho,aaa k ho,trivial⟩ func71 fun bS c0_1 aG aH aI aJ aK aL dV cL cF cG cH cJ cK b9 b_ ca ce ci cj c2 Z x h=>ay h
def DD:Rw S:=ai ko xn fun a_e Z=>aa k (rG k a_e) (De Z)
def UQ:Fx S:=fx 6 (fun _=>[]) (fun _=>false) [(58,nU k)] [] k f61 true [] 0
theorem Gt (ho:aj o):Tl o 61 (DD k:Rw S):=am (UQ k) ⟨oD k ho,trivial⟩ func61 fun a_e Z x h=>ay h
def PZ:Rw S:=ai MB vG fun b dJ ba bm bn bo bp bq bw bK bz be bg bh bj bk bA bB bD bG bH bJ Z=>aa k (F8 k b dJ ba bm bn bo bp bq bw bK bz be bg bh bj bk bA bB bD bG bH bJ) (ahp ba bm bn bo bp bq bw bK bz be bg bh bj bk bA bB bD bG bH bJ Z)
def UR:Fx S:=fp 31 [(58,nU k),(59,mU k),(61,DD k),(134,Ib k)] [] k f133 2
theorem aae (ho:aj o):Tl o 133 (PZ k:Rw S):=am (UR k) ⟨oD k ho,nE k ho,Gt k ho,Lu k ho,trivial⟩ func133 fun b dJ ba bm bn bo bp bq bw bK bz be bg bh bj bk bA bB bD bG bH bJ Z x h=>ay h
def P0:Rw S:=ai acK vG fun l dJ ba bm bn bo bp bq bw bK bz be bg bh bj bk bA bB bD bG bH bJ Z=>aa k (w5 k l dJ ba bm bn bo bp bq bw bK bz be bg bh bj bk bA bB bD bG bH bJ) (Dw ba bm bn bo bp bq bw bK bz be bg bh bj bk bA bB bD bG bH bJ Z)
def ER:Fx S:=fx 22 (fun _=>[]) (fun _=>false) [(133,PZ k)] [(3,⟨[(1,ab),(5,aQ 100005),(8,ab),(9,ab),(10,ab)],[(1000000,[ab]),(1000001,[ab,ab,ab,ab,ab,ab,ab,ab,ab,ab,ab,ab,ab,ab,ab,ab,ab,ab,ab,ab,ab])]⟩,a8 5 11)] k f54 false [true] 2
def NC (ba:List Cl) (be:Int) (bg:ByteArray) (bh:List Cl) (bj:List Tm) (bk:List (Br Tm)) (bA bB:Int) (bD:ByteArray) (bG:List Cl) (bH:List Tm) (bm:Int) (bJ:List (Br Tm)) (bn:Int) (bo:ByteArray) (bp:List Cl) (bq:List Tm) (bw bK:List (Br Tm)) (bz:Int) (l:List (Br Tm)) (dl v10:Int) (out5:List (Br Tm)):St UU:=⟨[(1,(.func 133 [] [(pt 1000000)])),(5,(.own 100005 0)),(8,(sB l)),(9,(iI l.length)),(10,(iI v10))],[(1000000,.cells [(pt 1000001)]),(1000001,.cells [(iI dl),(sC ba),(iI bm),(iI bn),(.str bo),(sC bp),(sT bq),(sB bw),(sB bK),(iI bz),(iI be),(.str bg),(sC bh),(sT bj),(sB bk),(iI bA),(iI bB),(.str bD),(sC bG),(sT bH),(sB bJ)])],[(100005,⟨0,ET.B,out5⟩)],[(100005,.wr)]⟩
section
variable (k:Nat) (l:List (Br Tm)) (dJ:Int) (ba:List Cl) (bm bn:Int) (bo:ByteArray) (bp:List Cl) (bq:List Tm) (bw bK:List (Br Tm)) (bz be:Int) (bg:ByteArray) (bh:List Cl) (bj:List Tm) (bk:List (Br Tm)) (bA bB:Int) (bD:ByteArray) (bG:List Cl) (bH:List Tm) (bJ:List (Br Tm)) (Z:Out UU->Option S)
theorem WV: ∀n dl v10 out5,(ER k).lp Z 3 [] n (NC ba be bg bh bj bk bA bB bD bG bH bm bJ bn bo bp bq bw bK bz l dl v10 out5)=uz k (Dw ba bm bn bo bp bq bw bK bz be bg bh bj bk bA bB bD bG bH bJ Z) ba be bg bh bj bk bA bB bD bG bH bm bJ bn bo bp bq bw bK bz l n dl v10 out5:=lm (Ah k (Dw ba bm bn bo bp bq bw bK bz be bg bh bj bk bA bB bD bG bH bJ Z) ba be bg bh bj bk bA bB bD bG bH bm bJ bn bo bp bq bw bK bz l)
end
theorem aaf (ho:aj o):Tl o 54 (P0 k:Rw S):=am (ER k) ⟨aae k ho,trivial⟩ func54 fun l dJ ba bm bn bo bp bq bw bK bz be bg bh bj bk bA bB bD bG bH bJ Z x h=>aq (b:=Jz k (Dw ba bm bn bo bp bq bw bK bz be bg bh bj bk bA bB bD bG bH bJ Z) (fun dl v10 out5=>(ER k).lp Z 3 [] k (NC ba be bg bh bj bk bA bB bD bG bH bm bJ bn bo bp bq bw bK bz l dl v10 out5)) l dJ ba bm bn bo bp bq bw bK bz be bg bh bj bk bA bB bD bG bH bJ) (by kernel_rfl) (aq (by simp only [WV];rfl) (dt h))
def P1:Rw S:=ai oM ak6 fun g bS c0_1 aG aH aI aJ aK aL cL cF cG cH cJ cK b9 b_ ca ce ci cj Z=>aa k (BC k g bS c0_1 aG aH aI aJ aK aL cL cF cG cH cJ cK b9 b_ ca ce ci cj) (Dx c0_1 aG aH aI aJ aK aL b9 b_ ca ce ci cj Z)
def ES:Fx S:=fp 74 [(53,PO k),(54,P0 k),(57,PP k),(59,mU k),(71,PX k),(102,If k),(130,yM k),(131,PT k)] [(3,⟨[(2,ab),(3,ab),(4,ab),(21,ab),(22,ab),(23,ab)],[(2,[ab]),(3,[ab,ab,ab,ab,ab,ab]),(4,[ab,ab,ab,aQ 200259,ab,ab]),(1000000,[ab,ab,ab,ab,ab,ab,ab,ab,aQ 64200008,ab,ab,ab,ab,ab,ab,ab,ab,ab,ab,ab,ab])]⟩,a8 5 11)] k f66 1
def ND (c0_1:List Cl) (cF:Int) (cG:ByteArray) (cH:List Cl) (cJ:List Tm) (cK:List (Br Tm)) (b9 b_:Int) (ca:ByteArray) (ce:List Cl) (ci:List Tm) (aG:Int) (cj:List (Br Tm)) (aH:Int) (aI:ByteArray) (aJ:List Cl) (aK:List Tm) (aL:List (Br Tm)) (cL:Int) (g:Tm) (r3:Int×Int×ByteArray×List Tm×List (Br Tm)) (cV:Int) (e0_8:List (Br Tm)) (v23:Int):St UU:=⟨[(2,(pt 2)),(3,(pt 3)),(4,(pt 4)),(21,(sB g.sys)),(22,(iI g.sys.length)),(23,(iI v23))],[(2,.cells [(pt 1000000)]),(3,bT g),(4,.cells [(iI r3.1),(iI r3.2.1),(.str r3.2.2.1),(.own 200259 0),(sT r3.2.2.2.1),(sB r3.2.2.2.2)]),(1000000,.cells [(iI cV),(sC c0_1),(iI aG),(iI aH),(.str aI),(sC aJ),(sT aK),(sB aL),(.own 64200008 0),(iI cL),(iI cF),(.str cG),(sC cH),(sT cJ),(sB cK),(iI b9),(iI b_),(.str ca),(sC ce),(sT ci),(sB cj)])],[(64200008,⟨0,ET.B,e0_8⟩),(200259,iP)],[(64200008,.wr),(200259,.wr)]⟩
section
variable (k:Nat) (g:Tm) (bS:Int) (c0_1:List Cl) (aG aH:Int) (aI:ByteArray) (aJ:List Cl) (aK:List Tm) (aL:List (Br Tm)) (cL cF:Int) (cG:ByteArray) (cH:List Cl) (cJ:List Tm) (cK:List (Br Tm)) (b9 b_:Int) (ca:ByteArray) (ce:List Cl) (ci:List Tm) (cj:List (Br Tm)) (Z:Out UU->Option S)
theorem WW (r3): ∀n cV e0_8 v23,(ES k).lp Z 3 [] n (ND c0_1 cF cG cH cJ cK b9 b_ ca ce ci aG cj aH aI aJ aK aL cL g r3 cV e0_8 v23)=uy k (Dx c0_1 aG aH aI aJ aK aL b9 b_ ca ce ci cj Z) c0_1 cF cG cH cJ cK b9 b_ ca ce ci aG cj aH aI aJ aK aL cL g r3 n cV e0_8 v23:=lm (Ag k (Dx c0_1 aG aH aI aJ aK aL b9 b_ ca ce ci cj Z) c0_1 cF cG cH cJ cK b9 b_ ca ce ci aG cj aH aI aJ aK aL cL g r3)
end
theorem aag (ho:aj o):Tl o 66 (P1 k:Rw S):=am (ES k) ⟨Z5 k ho,aaf k ho,Z6 k ho,nE k ho,aac k ho,Ly k ho,Ce k ho,Z_ k ho,trivial⟩ func66 fun g bS c0_1 aG aH aI aJ aK aL cL cF cG cH cJ cK b9 b_ ca ce ci cj Z x h=>aq (b:=Jy k (Dx c0_1 aG aH aI aJ aK aL b9 b_ ca ce ci cj Z) (fun r3 cV e0_8 v23=>(ES k).lp Z 3 [] k (ND c0_1 cF cG cH cJ cK b9 b_ ca ce ci aG cj aH aI aJ aK aL cL g r3 cV e0_8 v23)) g bS c0_1 aG aH aI aJ aK aL cL cF cG cH cJ cK b9 b_ ca ce ci cj) (by kernel_rfl) (aq (by simp only [WW];rfl) (dt h))
def P2:Rw S:=ai nK xn fun a_n Z=>aa k (FQ k a_n) (OZ Z)
def US:Fx S:=fx 5 (fun _=>[]) (fun _=>false) [] [] k f187 true [] 0
theorem aah (ho:aj o):Tl o 187 (P2 k:Rw S):=am (US k) trivial func187 fun a_n Z x h=>ay h
def P3:Rw S:=ai MC dN fun t a f y c0 Z=>aa k (A7 k t a f y c0) (ahq Z)
def UT:Fx S:=fx 28 (fun _=>[]) (fun _=>false) [(186,yJ k),(187,P2 k),(209,H6 k)] [] k f262 true [] 1
theorem aai (ho:aj o):Tl o 262 (P3 k:Rw S):=am (UT k) ⟨Cc k ho,aah k ho,Lq k ho,trivial⟩ func262 fun t a f y c0 Z x h=>ay h
def P4:Rw S:=ai acL xn fun t a f y Z=>aa k (A4 k t a f y) (kB Z)
def UV:Fx S:=fp 28 [(41,pf (fH k)),(207,DL k),(213,DB k),(262,P3 k)] [] k f220 0
theorem aaj (ho:aj o):Tl o 220 (P4 k:Rw S):=am (UV k) ⟨rQ o ho k,GA k ho,Gr k ho,aai k ho,trivial⟩ func220 fun t a f y Z x h=>ay h
def P5:Rw S:=ai MC dN fun t a f y c0 Z=>aa k (BV k t a f y c0) (kA Z)
def UW:Fx S:=fp 24 [(93,lx k),(94,ly k),(220,P4 k)] [] k f136 1
theorem aak (ho:aj o):Tl o 136 (P5 k:Rw S):=am (UW k) ⟨l7 k ho,l8 k ho,aaj k ho,trivial⟩ func136 fun t a f y c0 Z x h=>ay h
def Ih:Rw S:=ai MT Ks fun a_x c1 jZ gS gZ g5 g6 g7 g8 g9 g_ gy gn gq gr gu gx gU gV gW gX gY g4 Z=>aa k (wY k a_x c1 jZ gS gZ g5 g6 g7 g8 g9 g_ gy gn gq gr gu gx gU gV gW gX gY g4) (ahr c1 gS gZ g5 g6 g7 g8 g9 g_ gy gn gq gr gu gx gU gV gW gX gY g4 Z)
def UX:Fx S:=fx 43 (fun _=>[]) (fun _=>false) [(56,tg k),(58,nU k),(73,td k)] [] k f135 true [] 3
theorem LA (ho:aj o):Tl o 135 (Ih k:Rw S):=am (UX k) ⟨t6 k ho,oD k ho,tX k ho,trivial⟩ func135 fun a_x c1 jZ gS gZ g5 g6 g7 g8 g9 g_ gy gn gq gr gu gx gU gV gW gX gY g4 Z x h=>ay h
def ahB:Rw S:=ai CK Ew fun c2 ez cE ct cu cv cx cz cA dj dk c6 c7 c8 c_ da dc de df dg dh di Z=>aa k (tK k c2 ez cE ct cu cv cx cz cA dj dk c6 c7 c8 c_ da dc de df dg dh di) (O6 c2 cE ct cu cv cx cz cA dj dk c6 c7 c8 c_ da dc de df dg dh di Z)
def P6:Rw S:=ai CK Ew fun c2 ez cE ct cu cv cx cz cA dj dk c6 c7 c8 c_ da dc de df dg dh di Z=>aa k (tK k c2 ez cE ct cu cv cx cz cA dj dk c6 c7 c8 c_ da dc de df dg dh di) (ahs Z)
def UY:Fx S:=fx 9 (fun _=>[]) (fun _=>false) [(135,Ih k)] [] k f137 true [] 4
theorem aam (ho:aj o):Tl o 137 (ahB k:Rw S):=am (UY k) ⟨LA k ho,trivial⟩ func137 fun c2 ez cE ct cu cv cx cz cA dj dk c6 c7 c8 c_ da dc de df dg dh di Z x h=>ay h
theorem aal (ho:aj o):Tl o 137 (P6 k:Rw S):=JY (n:=3) (m:=1) (aam k ho) fun c2 ez cE ct cu cv cx cz cA dj dk c6 c7 c8 c_ da dc de df dg dh di Z x h=>aq (b:=aa k (tK k c2 ez cE ct cu cv cx cz cA dj dk c6 c7 c8 c_ da dc de df dg dh di) (O6 c2 cE ct cu cv cx cz cA dj dk c6 c7 c8 c_ da dc de df dg dh di (wK 3 1 [.cells [(.func 135 [] [(pt 1),(pt 2)])],.cells [(pt 3)],bT c2,.cells [(iI ez),(sC cE),(iI ct),(iI cu),(.str cv),(sC cx),(sT cz),(sB cA),(sB dj),(iI dk),(iI c6),(.str c7),(sC c8),(sT c_),(sB da),(iI dc),(iI de),(.str df),(sC dg),(sT dh),(sB di)]] Z))) (by kernel_rfl) (aq (congrArg (aa k (tK k c2 ez cE ct cu cv cx cz cA dj dk c6 c7 c8 c_ da dc de df dg dh di)) (funext fun r=>if_pos ⟨rfl,rfl⟩)) h)
def P8:Rw S:=ai acM ak7 fun bS c0_1 aG aH aI aJ aK aL dV cL cF cG cH cJ cK b9 b_ ca ce ci cj c3 Z=>aa k (BE k bS c0_1 aG aH aI aJ aK aL dV cL cF cG cH cJ cK b9 b_ ca ce ci cj c3) (aht c0_1 aG aH aI aJ aK aL dV cL cF cG cH cJ cK b9 b_ ca ce ci cj c3 Z)
def U0:Fx S:=fx 20 (fun _=>[]) (fun _=>false) [(59,mU k),(137,P6 k)] [] k f71 true [false,true] 4
theorem aao (ho:aj o):Tl o 71 (P8 k:Rw S):=am (U0 k) ⟨nE k ho,aal k ho,trivial⟩ func71 fun bS c0_1 aG aH aI aJ aK aL dV cL cF cG cH cJ cK b9 b_ ca ce ci cj c3 Z x h=>ay h
def P9:Rw S:=ai acN Ew fun b c2 ez cE ct cu cv cx cz cA dj dk c6 c7 c8 c_ da dc de df dg dh di Z=>aa k (F9 k b c2 ez cE ct cu cv cx cz cA dj dk c6 c7 c8 c_ da dc de df dg dh di) (ahu c2 cE ct cu cv cx cz cA dj dk c6 c7 c8 c_ da dc de df dg dh di Z)
def U1:Fx S:=fp 25 [(59,mU k),(73,td k),(135,Ih k)] [] k f138 4
theorem aap (ho:aj o):Tl o 138 (P9 k:Rw S):=am (U1 k) ⟨nE k ho,tX k ho,LA k ho,trivial⟩ func138 fun b c2 ez cE ct cu cv cx cz cA dj dk c6 c7 c8 c_ da dc de df dg dh di Z x h=>ay h
def P_:Rw S:=ai acO Ew fun l c2 ez cE ct cu cv cx cz cA dj dk c6 c7 c8 c_ da dc de df dg dh di Z=>aa k (BF k l c2 ez cE ct cu cv cx cz cA dj dk c6 c7 c8 c_ da dc de df dg dh di) (Dy c2 cE ct cu cv cx cz cA dj dk c6 c7 c8 c_ da dc de df dg dh di Z)
def EU:Fx S:=fx 22 (fun _=>[]) (fun _=>false) [(138,P9 k)] [(3,⟨[(1,ab),(5,aQ 100005),(8,ab),(9,ab),(10,ab)],[(1000000,[ab]),(1000001,[ab]),(1000002,[ab,ab,ab,ab,ab,ab]),(1000003,[ab,ab,ab,ab,ab,ab,ab,ab,ab,ab,ab,ab,ab,ab,ab,ab,ab,ab,ab,ab,ab])]⟩,a8 5 11)] k f54 false [true] 4
def NE (c2:Tm) (cE:List Cl) (c6:Int) (c7:ByteArray) (c8:List Cl) (c_:List Tm) (da:List (Br Tm)) (dc de:Int) (df:ByteArray) (dg:List Cl) (dh:List Tm) (ct:Int) (di:List (Br Tm)) (cu:Int) (cv:ByteArray) (cx:List Cl) (cz:List Tm) (cA dj:List (Br Tm)) (dk:Int) (l:List (Br Tm)) (lb v10:Int) (out5:List (Br Tm)):St UU:=⟨[(1,(.func 138 [] [(pt 1000000),(pt 1000001)])),(5,(.own 100005 0)),(8,(sB l)),(9,(iI l.length)),(10,(iI v10))],[(1000000,.cells [(.func 135 [] [(pt 1000001),(pt 1000002)])]),(1000001,.cells [(pt 1000003)]),(1000002,bT c2),(1000003,.cells [(iI lb),(sC cE),(iI ct),(iI cu),(.str cv),(sC cx),(sT cz),(sB cA),(sB dj),(iI dk),(iI c6),(.str c7),(sC c8),(sT c_),(sB da),(iI dc),(iI de),(.str df),(sC dg),(sT dh),(sB di)])],[(100005,⟨0,ET.B,out5⟩)],[(100005,.wr)]⟩
section
variable (k:Nat) (l:List (Br Tm)) (c2:Tm) (ez:Int) (cE:List Cl) (ct cu:Int) (cv:ByteArray) (cx:List Cl) (cz:List Tm) (cA dj:List (Br Tm)) (dk c6:Int) (c7:ByteArray) (c8:List Cl) (c_:List Tm) (da:List (Br Tm)) (dc de:Int) (df:ByteArray) (dg:List Cl) (dh:List Tm) (di:List (Br Tm)) (Z:Out UU->Option S)
theorem WX: ∀n lb v10 out5,(EU k).lp Z 3 [] n (NE c2 cE c6 c7 c8 c_ da dc de df dg dh ct di cu cv cx cz cA dj dk l lb v10 out5)=rW k (Dy c2 cE ct cu cv cx cz cA dj dk c6 c7 c8 c_ da dc de df dg dh di Z) c2 cE c6 c7 c8 c_ da dc de df dg dh ct di cu cv cx cz cA dj dk l n lb v10 out5:=lm (Ak k (Dy c2 cE ct cu cv cx cz cA dj dk c6 c7 c8 c_ da dc de df dg dh di Z) c2 cE c6 c7 c8 c_ da dc de df dg dh ct di cu cv cx cz cA dj dk l)
end
theorem aaq (ho:aj o):Tl o 54 (P_ k:Rw S):=am (EU k) ⟨aap k ho,trivial⟩ func54 fun l c2 ez cE ct cu cv cx cz cA dj dk c6 c7 c8 c_ da dc de df dg dh di Z x h=>aq (b:=JC k (Dy c2 cE ct cu cv cx cz cA dj dk c6 c7 c8 c_ da dc de df dg dh di Z) (fun lb v10 out5=>(EU k).lp Z 3 [] k (NE c2 cE c6 c7 c8 c_ da dc de df dg dh ct di cu cv cx cz cA dj dk l lb v10 out5)) l c2 ez cE ct cu cv cx cz cA dj dk c6 c7 c8 c_ da dc de df dg dh di) (by kernel_rfl) (aq (by simp only [WX];rfl) (dt h))
def Qa:Rw S:=ai CQ ak8 fun t a_e bS c0_1 aG aH aI aJ aK aL dV cL cF cG cH cJ cK b9 b_ ca ce ci cj Z=>aa k (BD k t a_e bS c0_1 aG aH aI aJ aK aL dV cL cF cG cH cJ cK b9 b_ ca ce ci cj) (ahv c0_1 aG aH aI aJ aK aL dV cL cF cG cH cJ cK b9 b_ ca ce ci cj Z)
def U2:Fx S:=fx 54 (fun _=>[]) (fun _=>false) [(54,P_ k),(58,nU k),(61,DD k),(63,yN k),(71,P8 k),(136,P5 k)] [] k f70 true [] 1
theorem aar (ho:aj o):Tl o 70 (Qa k:Rw S):=am (U2 k) ⟨aaq k ho,oD k ho,Gt k ho,Cf k ho,aao k ho,aak k ho,trivial⟩ func70 fun t a_e bS c0_1 aG aH aI aJ aK aL dV cL cF cG cH cJ cK b9 b_ ca ce ci cj Z x h=>ay h
def Qb:Rw S:=ai MB vG fun b dJ ba bm bn bo bp bq bw bK bz be bg bh bj bk bA bB bD bG bH bJ Z=>aa k (F7 k b dJ ba bm bn bo bp bq bw bK bz be bg bh bj bk bA bB bD bG bH bJ) (ahw ba bm bn bo bp bq bw bK bz be bg bh bj bk bA bB bD bG bH bJ Z)
def U3:Fx S:=fx 14 (fun _=>[]) (fun _=>false) [(70,Qa k)] [] k f69 true [] 2
theorem aas (ho:aj o):Tl o 69 (Qb k:Rw S):=am (U3 k) ⟨aar k ho,trivial⟩ func69 fun b dJ ba bm bn bo bp bq bw bK bz be bg bh bj bk bA bB bD bG bH bJ Z x h=>ay h
def Qc:Rw S:=ai acQ vG fun l dJ ba bm bn bo bp bq bw bK bz be bg bh bj bk bA bB bD bG bH bJ Z=>aa k (tM k l dJ ba bm bn bo bp bq bw bK bz be bg bh bj bk bA bB bD bG bH bJ) (Dz ba bm bn bo bp bq bw bK bz be bg bh bj bk bA bB bD bG bH bJ Z)
def EV:Fx S:=fx 22 (fun _=>[]) (fun _=>false) [(69,Qb k)] [(3,⟨[(1,ab),(5,aQ 100005),(8,ab),(9,ab),(10,ab)],[(1000000,[ab]),(1000001,[ab,ab,ab,ab,ab,ab,ab,ab,ab,ab,ab,ab,ab,ab,ab,ab,ab,ab,ab,ab,ab])]⟩,a8 5 11)] k f68 false [true] 2
def NF (ba:List Cl) (be:Int) (bg:ByteArray) (bh:List Cl) (bj:List Tm) (bk:List (Br Tm)) (bA bB:Int) (bD:ByteArray) (bG:List Cl) (bH:List Tm) (bm:Int) (bJ:List (Br Tm)) (bn:Int) (bo:ByteArray) (bp:List Cl) (bq:List Tm) (bw bK:List (Br Tm)) (bz:Int) (l:List (Br Tm)) (dl v10:Int) (out5:List Tm):St UU:=⟨[(1,(.func 69 [] [(pt 1000000)])),(5,(.own 100005 0)),(8,(sB l)),(9,(iI l.length)),(10,(iI v10))],[(1000000,.cells [(pt 1000001)]),(1000001,.cells [(iI dl),(sC ba),(iI bm),(iI bn),(.str bo),(sC bp),(sT bq),(sB bw),(sB bK),(iI bz),(iI be),(.str bg),(sC bh),(sT bj),(sB bk),(iI bA),(iI bB),(.str bD),(sC bG),(sT bH),(sB bJ)])],[(100005,⟨0,ET.T,out5⟩)],[(100005,.wr)]⟩
section
variable (k:Nat) (l:List (Br Tm)) (dJ:Int) (ba:List Cl) (bm bn:Int) (bo:ByteArray) (bp:List Cl) (bq:List Tm) (bw bK:List (Br Tm)) (bz be:Int) (bg:ByteArray) (bh:List Cl) (bj:List Tm) (bk:List (Br Tm)) (bA bB:Int) (bD:ByteArray) (bG:List Cl) (bH:List Tm) (bJ:List (Br Tm)) (Z:Out UU->Option S)
theorem WY: ∀n dl v10 out5,(EV k).lp Z 3 [] n (NF ba be bg bh bj bk bA bB bD bG bH bm bJ bn bo bp bq bw bK bz l dl v10 out5)=uA k (Dz ba bm bn bo bp bq bw bK bz be bg bh bj bk bA bB bD bG bH bJ Z) ba be bg bh bj bk bA bB bD bG bH bm bJ bn bo bp bq bw bK bz l n dl v10 out5:=lm (Ai k (Dz ba bm bn bo bp bq bw bK bz be bg bh bj bk bA bB bD bG bH bJ Z) ba be bg bh bj bk bA bB bD bG bH bm bJ bn bo bp bq bw bK bz l)
end
theorem aat (ho:aj o):Tl o 68 (Qc k:Rw S):=am (EV k) ⟨aas k ho,trivial⟩ func68 fun l dJ ba bm bn bo bp bq bw bK bz be bg bh bj bk bA bB bD bG bH bJ Z x h=>aq (b:=JA k (Dz ba bm bn bo bp bq bw bK bz be bg bh bj bk bA bB bD bG bH bJ Z) (fun dl v10 out5=>(EV k).lp Z 3 [] k (NF ba be bg bh bj bk bA bB bD bG bH bm bJ bn bo bp bq bw bK bz l dl v10 out5)) l dJ ba bm bn bo bp bq bw bK bz be bg bh bj bk bA bB bD bG bH bJ) (by kernel_rfl) (aq (by simp only [WY];rfl) (dt h))
def ahC:Rw S:=ai xO vG fun dJ ba bm bn bo bp bq bw bK bz be bg bh bj bk bA bB bD bG bH bJ Z=>aa k (tI k dJ ba bm bn bo bp bq bw bK bz be bg bh bj bk bA bB bD bG bH bJ) (O8 ba bm bn bo bp bq bw bK bz be bg bh bj bk bA bB bD bG bH bJ Z)
def Qd:Rw S:=ai xO vG fun dJ ba bm bn bo bp bq bw bK bz be bg bh bj bk bA bB bD bG bH bJ Z=>aa k (tI k dJ ba bm bn bo bp bq bw bK bz be bg bh bj bk bA bB bD bG bH bJ) (ahx Z)
def U4:Fx S:=fp 10 [(56,tg k)] [] k f72 2
theorem aav (ho:aj o):Tl o 72 (ahC k:Rw S):=am (U4 k) ⟨t6 k ho,trivial⟩ func72 fun dJ ba bm bn bo bp bq bw bK bz be bg bh bj bk bA bB bD bG bH bJ Z x h=>ay h
theorem aau (ho:aj o):Tl o 72 (Qd k:Rw S):=JY (n:=1) (m:=1) (aav k ho) fun dJ ba bm bn bo bp bq bw bK bz be bg bh bj bk bA bB bD bG bH bJ Z x h=>aq (b:=aa k (tI k dJ ba bm bn bo bp bq bw bK bz be bg bh bj bk bA bB bD bG bH bJ) (O8 ba bm bn bo bp bq bw bK bz be bg bh bj bk bA bB bD bG bH bJ (wK 1 1 [.cells [(pt 1)],.cells [(iI dJ),(sC ba),(iI bm),(iI bn),(.str bo),(sC bp),(sT bq),(sB bw),(sB bK),(iI bz),(iI be),(.str bg),(sC bh),(sT bj),(sB bk),(iI bA),(iI bB),(.str bD),(sC bG),(sT bH),(sB bJ)]] Z))) (by kernel_rfl) (aq (congrArg (aa k (tI k dJ ba bm bn bo bp bq bw bK bz be bg bh bj bk bA bB bD bG bH bJ)) (funext fun r=>if_pos ⟨rfl,rfl⟩)) h)
def Qe:Rw S:=ai acR ak9 fun bS c0_1 aG aH aI aJ aK aL dV cL cF cG cH cJ cK b9 b_ ca ce ci cj Z=>aa k (tL k bS c0_1 aG aH aI aJ aK aL dV cL cF cG cH cJ cK b9 b_ ca ce ci cj) (ahy c0_1 aG aH aI aJ aK aL dV cL cF cG cH cJ cK b9 b_ ca ce ci cj Z)
def U5:Fx S:=fx 20 (fun _=>[]) (fun _=>false) [(59,mU k),(72,Qd k)] [] k f71 true [false,true] 2
theorem aaw (ho:aj o):Tl o 71 (Qe k:Rw S):=am (U5 k) ⟨nE k ho,aau k ho,trivial⟩ func71 fun bS c0_1 aG aH aI aJ aK aL dV cL cF cG cH cJ cK b9 b_ ca ce ci cj Z x h=>ay h
def Qf:Rw S:=ai ko xn fun t Z=>aa k (BB k t) (pe Z)
def EW:Fx S:=fp 165 [(40,mg k),(41,pf (fH k)),(42,DH k),(56,tg k),(58,nU k),(59,mU k),(61,DD k),(63,yN k),(66,P1 k),(67,Ig k),(68,Qc k),(71,Qe k),(73,td k)] [(16,⟨[(2,ab),(6,ab),(8,aQ 100008),(9,some (100009,false)),(10,aQ 100010),(77,ab),(78,ab),(79,ab)],[(2,[ab,ab,ab,aQ 200131,aQ 200132,aQ 200133]),(6,[ab]),(43,[ab,ab,ab,ab,ab,ab,ab,ab,ab,ab,ab,ab,ab,ab,ab,ab,ab,ab,ab,ab,ab])]⟩,a8 14 6143)] k f27 0
def NG (r3:Tm) (r6:Int×List (Br Tm)×Int×Int×ByteArray×List Cl×List Tm×List (Br Tm)) (x4:Tm) (r8:Tm×Int) (kM kN kO:Int) (kP:ByteArray) (kQ:List Cl) (kR:List Tm) (kS parts10:List (Br Tm)) (v79:Int) (ws8:List Tm) (sys9:List (Br Tm)):St UU:=⟨[(2,(pt 2)),(6,(pt 6)),(8,(.own 100008 0)),(9,(.own 100009 0)),(10,(.own 100010 0)),(77,(sB r8.1.sys)),(78,(iI r8.1.sys.length)),(79,(iI v79))],[(2,.cells [(iI 0),(iI 0),jv,(.own 200131 0),(.own 200132 0),(.own 200133 0)]),(6,.cells [(pt 43)]),(43,.cells [(iI kM),(sC r3.r),(iI x4.kind),(iI x4.n),(.str x4.name),(sC x4.r),(sT x4.kids),(sB x4.sys),(sB r6.2.1),(iI r6.2.2.1),(iI r6.2.2.2.1),(.str r6.2.2.2.2.1),(sC r6.2.2.2.2.2.1),(sT r6.2.2.2.2.2.2.1),(sB r6.2.2.2.2.2.2.2),(iI kN),(iI kO),(.str kP),(sC kQ),(sT kR),(sB kS)])],[(200133,gP),(200132,je),(200131,iP),(100010,⟨0,ET.B,parts10⟩),(100009,⟨0,ET.B,sys9⟩),(100008,⟨0,ET.T,ws8⟩)],[(200133,.wr),(200132,.wr),(200131,.wr),(100010,.wr),(100009,.app),(100008,.wr)]⟩
section
variable (k:Nat) (t:Tm) (Z:Out UU->Option S)
theorem WZ (r3 r6 x4 r8): ∀n kM kN kO kP kQ kR kS parts10 v79 ws8 sys9,(EW k).lp Z 16 [] n (NG r3 r6 x4 r8 kM kN kO kP kQ kR kS parts10 v79 ws8 sys9)=qj k (pe Z) r3 r6 x4 r8 n kM kN kO kP kQ kR kS parts10 v79 ws8 sys9:=afq (Af k (pe Z) r3 r6 x4 r8)
end
theorem aax (ho:aj o):Tl o 27 (Qf k:Rw S):=am (EW k) ⟨mB k ho,rQ o ho k,Gw k ho,t6 k ho,oD k ho,nE k ho,Gt k ho,Cf k ho,aag k ho,Lz k ho,aat k ho,aaw k ho,tX k ho,trivial⟩ func27 fun t Z x h=>aq (b:=Jx k (pe Z) (fun r3 r6 x4 r8 kM kN kO kP kQ kR kS parts10 v79 ws8 sys9=>(EW k).lp Z 16 [] k (NG r3 r6 x4 r8 kM kN kO kP kQ kR kS parts10 v79 ws8 sys9)) t) (by kernel_rfl) (aq (by simp only [WZ];rfl) (dt h))
def Ii:Rw S:=ai ko xn fun t Z=>aa k (tU k t) (pe Z)
def U6:Fx S:=fp 100 [(27,Qf k),(40,mg k),(41,pf (fH k)),(42,DH k),(79,PA k),(80,PC k),(81,PK k),(82,PL k)] [] k f33 0
theorem LD (ho:aj o):Tl o 33 (Ii k:Rw S):=am (U6 k) ⟨aax k ho,mB k ho,rQ o ho k,Gw k ho,ZP k ho,ZR k ho,ZY k ho,ZZ k ho,trivial⟩ func33 fun t Z x h=>ay h
def Qh:Rw S:=ai rS xn fun a b Z=>aa k (xa k a b) (cW Z)
def EY:Fx S:=fp 26 [] [(4,dw [0,1,5] [],a8 5 11)] k f30 0
def NH (a b:List Cl) (i5:Int):St UU:=⟨[(0,(sC a)),(1,(sC b)),(5,(iI i5))],[],[],[]⟩
section
variable (k:Nat) (a b:List Cl) (Z:Out UU->Option S)
theorem W4: ∀n i5,(EY k).lp Z 4 [] n (NH a b i5)=uE k (cW Z) a b n i5:=jl (Av k (cW Z) a b)
end
theorem aaz (ho:aj o):Tl o 30 (Qh k:Rw S):=am (EY k) trivial func30 fun a b Z x h=>aq (b:=JH k (cW Z) (fun i5=>(EY k).lp Z 4 [] k (NH a b i5)) a b) (by kernel_rfl) (aq (by simp only [W4];rfl) (dt h))
def yO (hd:jR S):Rw S:=ai acS xn fun a b Z=>hd a b (cW Z)
def Qi (hd:jR S) (k:Nat):Rw S:=ai acT xn fun a b Z=>aa k (xb hd k a b) (cW Z)
def E0 (hd:jR S) (k:Nat):Fx S:=fp 27 [(14,yO hd)] [(4,dw [0,1,5] [],a8 5 11)] k f38 0
def NJ (a b:List Tm) (i5:Int):St UU:=⟨[(0,(sT a)),(1,(sT b)),(5,(iI i5))],[],[],[]⟩
section
variable (hd:jR S) (k:Nat) (a b:List Tm) (Z:Out UU->Option S)
theorem W6: ∀n i5,(E0 hd k).lp Z 4 [] n (NJ a b i5)=uG hd k (cW Z) a b n i5:=jl (Ay hd k (cW Z) a b)
end
theorem aaA (o:Obj) (ho:aj o) (hd:jR S) (Hd:Tl o 14 (yO hd)) (k:Nat):Tl o 38 (Qi hd k:Rw S):=am (E0 hd k) ⟨Hd,trivial⟩ func38 fun a b Z x h=>aq (b:=JK hd k (cW Z) (fun i5=>(E0 hd k).lp Z 4 [] k (NJ a b i5)) a b) (by kernel_rfl) (aq (by simp only [W6];rfl) (dt h))
def EZ (hd:jR S) (k:Nat):Fx S:=fp 87 [(30,Qh k),(38,Qi hd k)] [(4,dw [2,3,5] [(2,6),(3,6)],a8 5 11)] k f14 0
def NI (a b:Tm) (i5:Int):St UU:=⟨[(2,(pt 2)),(3,(pt 3)),(5,(iI i5))],[(2,bT a),(3,bT b)],[],[]⟩
section
variable (hd:jR S) (k:Nat) (a b:Tm) (Z:Out UU->Option S)
theorem W5: ∀n i5,(EZ hd k).lp Z 4 [] n (NI a b i5)=uF hd k (cW Z) a b n i5:=jl (Ax hd k (cW Z) a b)
end
theorem GV (o:Obj) (ho:aj o): ∀k:Nat,Tl o 14 (yO (fP k:jR S))
 |0=>kI fun a b Z x h=>by cases h
 |k+1=>am (EZ (fP k) k) ⟨aaz k ho,aaA o ho (fP k) (GV o ho k) k,trivial⟩ func14 fun a b Z x h=>aq (b:=JJ (fP k) k (cW Z) (fun i5=>(EZ (fP k) k).lp Z 4 [] k (NI a b i5)) a b) (by kernel_rfl) (aq (by simp only [W5];rfl) h)
def Qj:Rw S:=ai cn xn fun Z=>aa k (BL k) (cW Z)
def U7:Fx S:=fp 69 [(14,yO (fP k)),(33,Ii k),(34,O9 k)] [] k f10 0
theorem aaB (ho:aj o):Tl o 10 (Qj k:Rw S):=am (U7 k) ⟨GV o ho k,LD k ho,Zn k ho,trivial⟩ func10 fun Z x h=>ay h
section
variable (hd:Wi S) (k:Nat) (t:Tm) (Z:Out UU->Option S)
end
section
variable (hd:Wj S) (k:Nat) (t:Tm) (Z:Out UU->Option S)
end
section
variable (hd:Wl S) (k:Nat) (t:Tm) (Z:Out UU->Option S)
end
section
variable (k:Nat) (s:ByteArray) (Z:Out UU->Option S)
end
section
variable (k:Nat) (a_n:Int) (Z:Out UU->Option S)
end
section
variable (k:Nat) (l:List Cl) (c:Cl) (Z:Out UU->Option S)
end
section
variable (k:Nat) (l:List Cl) (Z:Out UU->Option S)
end
section
variable (k:Nat) (l:List Int) (Z:Out UU->Option S)
end
section
variable (k:Nat) (f:List Cl) (Z:Out UU->Option S)
end
section
variable (k:Nat) (s:Int) (Z:Out UU->Option S)
end
section
variable (k:Nat) (kind kid:Int) (Z:Out UU->Option S)
end
section
variable (k:Nat) (c:Cl) (Z:Out UU->Option S)
end
section
variable (k:Nat) (f:List Cl) (Z:Out UU->Option S)
end
section
variable (hd:Wh S) (k:Nat) (t:Tm) (vars dims:Int) (bound:Bool) (Z:Out UU->Option S)
end
section
variable (k:Nat) (s a_from a_by:Int) (Z:Out UU->Option S)
end
section
variable (k:Nat) (f:List Cl) (a_from a_by:Int) (Z:Out UU->Option S)
end
section
variable (hd:Wm S) (k:Nat) (t:Tm) (v vby d dby:Int) (Z:Out UU->Option S)
end
section
variable (k:Nat) (s i:Int) (Z:Out UU->Option S)
end
section
variable (k:Nat) (l:List Cl) (Z:Out UU->Option S)
end
section
variable (k:Nat) (c:Cl) (Z:Out UU->Option S)
end
section
variable (k:Nat) (a b:Int) (Z:Out UU->Option S)
end
section
variable (k:Nat) (f g:List Cl) (Z:Out UU->Option S)
end
section
variable (k:Nat) (f:List Cl) (Z:Out UU->Option S)
end
section
variable (k:Nat) (f g:List Cl) (Z:Out UU->Option S)
end
section
variable (k:Nat) (f:List Cl) (i:Int) (a_r:List Cl) (Z:Out UU->Option S)
end
section
variable (k:Nat) (f:List Cl) (i:Int) (a_r:List Cl) (Z:Out UU->Option S)
end
section
variable (k:Nat) (s i:Int) (Z:Out UU->Option S)
end
section
variable (k:Nat) (f:List Cl) (i:Int) (Z:Out UU->Option S)
end
section
variable (hd:Wp S) (k:Nat) (t:Tm) (i:Int) (a_r:List Cl) (depth:Int) (drop:Bool) (Z:Out UU->Option S)
end
section
variable (k:Nat) (bS c0_1 aG:Int) (aH:ByteArray) (aI:List Cl) (aJ:List Tm) (aK aL:List (Br Tm)) (Z:Out UU->Option S)
end
section
variable (k:Nat) (bS c0_1 aG:Int) (aH:ByteArray) (aI:List Cl) (aJ:List Tm) (aK aL:List (Br Tm)) (c1:Int) (Z:Out UU->Option S)
end
section
variable (k:Nat) (t a:Tm) (sys:List (Br Tm)) (Z:Out UU->Option S)
end
section
variable (k:Nat) (t:Tm) (bS c0_1 aG:Int) (aH:ByteArray) (aI:List Cl) (aJ:List Tm) (aK aL:List (Br Tm)) (Z:Out UU->Option S)
end
section
variable (k:Nat) (bS c0_1 aG:Int) (aH:ByteArray) (aI:List Cl) (aJ:List Tm) (aK aL:List (Br Tm)) (Z:Out UU->Option S)
end
section
variable (k:Nat) (l c1:List (Br Tm)) (c2:Int) (Z:Out UU->Option S)
end
section
variable (k:Nat) (l:List (Br Tm)) (c1 c2:Tm) (c3:Int) (Z:Out UU->Option S)
end
section
variable (k:Nat) (l:List (Br Tm)) (c0 c1:Tm) (Z:Out UU->Option S)
end
section
variable (k:Nat) (kind:Int) (kids:List Tm) (Z:Out UU->Option S)
end
section
variable (k:Nat) (a_k a:Tm) (sys:List (Br Tm)) (Z:Out UU->Option S)
end
section
variable (k:Nat) (kind:Int) (sys:List (Br Tm)) (Z:Out UU->Option S)
end
section
variable (k:Nat) (kind:Int) (l:List (Br Tm)) (Z:Out UU->Option S)
end
section
variable (k:Nat) (l:List Tm) (Z:Out UU->Option S)
end
section
variable (k:Nat) (t a:Tm) (sys:List (Br Tm)) (Z:Out UU->Option S)
end
section
variable (hd:Wn S) (k:Nat) (t:Tm) (a_n:Int) (Z:Out UU->Option S)
end
section
variable (k:Nat) (t:Tm) (a_from a_by:Int) (Z:Out UU->Option S)
end
section
variable (k:Nat) (t:Tm) (vars dims:Int) (Z:Out UU->Option S)
end
section
variable (hd:Wo S) (k:Nat) (t:Tm) (a_n:Int) (u:Tm) (vars dims:Int) (Z:Out UU->Option S)
end
section
variable (k:Nat) (line a:Tm) (sys:List (Br Tm)) (Z:Out UU->Option S)
end
section
variable (k:Nat) (a_k a:Tm) (sys:List (Br Tm)) (Z:Out UU->Option S)
end
section
variable (k:Nat) (kind:Int) (kids:List Tm) (Z:Out UU->Option S)
end
section
variable (k:Nat) (a:Tm) (sys:List (Br Tm)) (Z:Out UU->Option S)
end
section
variable (k:Nat) (g:Tm) (Z:Out UU->Option S)
end
section
variable (k:Nat) (t:Tm) (Z:Out UU->Option S)
end
section
variable (hd:Wg S) (k:Nat) (t:Tm) (Z:Out UU->Option S)
end
def Qq:Rw S:=ai ue xn fun t vars dims Z=>aa k (tR k t vars dims) (bY Z)
def Vi:Fx S:=fp 28 [(50,H1 k),(51,ve (kh k))] [] k f20 0
theorem aaI (ho:aj o):Tl o 20 (Qq k:Rw S):=am (Vi k) ⟨Ll k ho,GW o ho k,trivial⟩ func20 fun t vars dims Z x h=>ay h
section
variable (k:Nat) (a b:Tm) (Z:Out UU->Option S)
end
section
variable (hd:Wf S) (k:Nat) (t:Tm) (Z:Out UU->Option S)
end
section
variable (k:Nat) (t:Tm) (vars many:Int) (Z:Out UU->Option S)
end
def Qs:Rw S:=ai ko xn fun t Z=>aa k (BJ k t) (cW Z)
def Vj:Fx S:=fp 6 [(9,H0 (lZ k))] [] k f31 0
theorem aaK (ho:aj o):Tl o 31 (Qs k:Rw S):=am (Vj k) ⟨Mm o ho k,trivial⟩ func31 fun t Z x h=>ay h
def Ik (hd:mn S):Rw S:=ai ko xn fun t Z=>hd t (bY Z)
def ra (hd:mn S) (k:Nat):Fx S:=fp 56 [(32,Ik hd),(49,mV k)] [(3,dw [1,3,13,14,15] [(1,6)],a8 5 11),(9,dw [3,35,36,37] [],a8 6 23),(12,dw [3,35,36,37,42,43,44] [],a8 14 6551)] k f32 0
def Hy (t:Tm) (v15 sum3:Int):St UU:=⟨[(1,(pt 1)),(3,(iI sum3)),(13,(sT t.kids)),(14,(iI t.kids.length)),(15,(iI v15))],[(1,bT t)],[],[]⟩
def yg (t:Tm) (sum3' v37:Int):St UU:=⟨[(3,(iI sum3')),(35,(sB t.sys)),(36,(iI t.sys.length)),(37,(iI v37))],[],[],[]⟩
def NP (t:Tm) (v37:Int) (x4:(Br Tm)) (sum3'' v44:Int):St UU:=⟨[(3,(iI sum3'')),(35,(sB t.sys)),(36,(iI t.sys.length)),(37,(iI v37)),(42,(sT x4.kids)),(43,(iI x4.kids.length)),(44,(iI v44))],[],[],[]⟩
section
variable (hd:mn S) (k:Nat) (t:Tm) (Z:Out UU->Option S)
theorem Xe (v37 x4 Z1): ∀n sum3'' v44,(ra hd k).lp Z 12 [Z1] n (NP t v37 x4 sum3'' v44)=rY hd k (bY Z) (fun sum3' v37=>Z1 (yg t sum3' v37)) t v37 x4 n sum3'' v44:=dp (Am hd k (bY Z) t v37 x4 (fun sum3' v37=>Z1 (yg t sum3' v37)))
theorem Xd: ∀n sum3' v37,(ra hd k).lp Z 9 [] n (yg t sum3' v37)=oQ hd k (bY Z) t n sum3' v37:=dp (fun own=>v6 hd k (bY Z) t (fun v37 x4 sum3'' v44=>rY hd k (bY Z) own t v37 x4 k sum3'' v44) own) rfl (fun _=>rfl) fun r sum3' v37=>aq (b:=v6 hd k (bY Z) t (fun v37 x4 sum3'' v44=>(ra hd k).lp Z 12 [r] k (NP t v37 x4 sum3'' v44)) (fun sum3' v37=>r (yg t sum3' v37)) sum3' v37) (by kernel_rfl) (by simp only [Xe])
theorem Xc: ∀n v15 sum3,(ra hd k).lp Z 3 [] n (Hy t v15 sum3)=uC hd k (bY Z) t n v15 sum3:=dp (fun own=>vZ hd k (bY Z) t (fun sum3' v37=>oQ hd k (bY Z) t k sum3' v37) own) rfl (fun _=>rfl) fun r v15 sum3=>aq (b:=vZ hd k (bY Z) t (fun sum3' v37=>(ra hd k).lp Z 9 [] k (yg t sum3' v37)) (fun v15 sum3=>r (Hy t v15 sum3)) v15 sum3) (by kernel_rfl) (by simp only [Xd])
end
theorem Mt (o:Obj) (ho:aj o): ∀k:Nat,Tl o 32 (Ik (lV k:mn S))
 |0=>kI fun t Z x h=>by cases h
 |k+1=>am (ra (lV k) k) ⟨Mt o ho k,nF k ho,trivial⟩ func32 fun t Z x h=>aq (b:=JE (lV k) k (bY Z) (fun v15 sum3=>(ra (lV k) k).lp Z 3 [] k (Hy t v15 sum3)) t) (by kernel_rfl) (aq (by simp only [Xc];rfl) h)
def DG:Rw S:=ai ue xn fun t vars many Z=>aa k (BI k t vars many) (cW Z)
def Vl:Fx S:=fp 131 [(10,Qj k),(14,yO (fP k)),(20,Qq k),(31,Qs k),(32,Ik (lV k)),(33,Ii k)] [] k f8 0
theorem aaL (ho:aj o):Tl o 8 (DG k:Rw S):=am (Vl k) ⟨aaB k ho,GV o ho k,aaI k ho,aaK k ho,Mt o ho k,LD k ho,trivial⟩ func8 fun t vars many Z x h=>ay h
theorem akd (o:Obj) (ho:aj o) (k:Nat):Tl o 8 (DG k:Rw S):=aaL k ho
end
end Go.Proofs.YtgajalidbabccaaGreatDoor
namespace Go.Proofs.YtgajalidbabccaaGreatDoor
open Go PI
variable {S:Type} {k:Nat}
def bE {α β:Type} (x:Except Int α) (f:α->Except Int β):Except Int β:=match x with
 | .error e=> .error e
 | .ok a=>f a
theorem bP {α β:Type} (a:α) (f:α->Except Int β):bE (.ok a) f=f a:=rfl
theorem zL {α β:Type} (e:Int) (f:α->Except Int β):bE (.error e) f= .error e:=rfl
theorem ar {α β:Type} {x:Except Int α} {f:α->Except Int β} {b:β} (h:bE x f= .ok b): ∃a,x= .ok a/\f a= .ok b:=by
 cases x with
 |error e=>cases h
 |ok a=>exact ⟨a,rfl,h⟩
theorem cS {α β:Type} {x:Except Int α} {f:α->Except Int β} {e:Int} (h:bE x f= .error e):x= .error e\/ ∃a,x= .ok a/\f a= .error e:=by
 cases x with
 |error e=>injection h with h;grind
 |ok a=>exact .inr ⟨a,rfl,h⟩
def eM (x:LC×Int):Except Int (LC):=if x.2=0 then .ok x.1 else .error x.2
theorem qN {x:LC×Int} (h:x.2=0):eM x= .ok x.1:=if_pos h
theorem vC {x:LC×Int} (h:x.2≠0):eM x= .error x.2:=if_neg h
theorem j7 {x:LC×Int} {l:LC} (h:eM x= .ok l):x.2=0/\x.1=l:=by
 grind [eM]
theorem Ei {x:LC×Int} {e:Int} (h:eM x= .error e):x.2≠0/\x.2=e:=by
 grind [eM]
def EN (e:Int):Prop:=0<=e/\e<=1000
theorem xB:EN 0:=by unfold EN;omega
theorem oE:EN 2:=by unfold EN;omega
theorem en3:EN 3:=by unfold EN;omega
theorem abv:EN 10:=by unfold EN;omega
theorem uR (l:LC):EN (du l).2:=by
 grind [du,en3,xB,oE]
theorem Cz {step:LC->Cl->LC×Int} (hs: ∀h c,EN (step h c).2): ∀ {r h:LC},EN (dP step h r).2:=by
 intro r
 induction r<;>grind [xB,dP]
theorem ae9 (s i b:Int):EN (fh s i b).2:=by
 grind [fh,oE,lk,xB,abv]
theorem aeZ (c:Cl) (i b:Int):EN (ig c i b).2:=by
 grind [ig,ae9,oE]
theorem CV (f:LC) (i b:Int):EN (cm f i b).2:=by
 unfold cm
 split
 ·split
  ·exact uR _
  ·exact Cz fun h c=>aeZ c i b
 ·exact oE
theorem SZ {n b x y:Nat} (h:il n b x=il n b y):x=y:=by
 grind [il]
theorem ako (n b:Nat) {l:List Nat} (h:l.Nodup):(l.map (il n b)).Nodup:=
 List.Pairwise.map (S:=fun a b=>a≠b) (R:=fun a b=>a≠b) _ (fun x y hxy h=>hxy (SZ h)) h
theorem ae7 {m n b:Nat} (h:(lk m n b).2=0) (j:Nat):(lk m n b).1.testBit j=true↔ ∃x,x<24/\m.testBit x=true/\il n b x=j:=by
 rw [M3] at h ⊢
 split<;>grind [I5,ako,Fw,mem_bitsN]
theorem X3 {m:Nat} (h:m<16777216):m&&&M24=m:=by
 apply Nat.eq_of_testBit_eq
 grind [pH,rx]
theorem abU {i b:Int}: ∀ {r h:LC},(dP (jH i b) h r).2=0->(∀c∈r,(ig c i b).2=0)/\(dP (jH i b) h r).1=h++r.map fun c=>(ig c i b).1:=by
 intro r
 induction r<;>grind [dP,jH]
theorem ae3 {f:LC} {i b:Int} (h:(cm f i b).2=0): ∀c∈(cm f i b).1,∃d∈f,(ig d i b).2=0/\c=(ig d i b).1:=by
 grind [cm,abU,du,mem_mins]
theorem YR {c:Cl}:fC c=false↔ ∀j,¬ (c.pos.toNat.testBit j=true/\c.neg.toNat.testBit j=true):=by
 unfold fC
 rw [Bool.not_eq_false',decide_eq_true_eq]
 constructor
 ·intro h j ⟨h1,h2⟩
  have:(c.pos.toNat&&&c.neg.toNat).testBit j=true:=by grind
  grind
 ·intro h
  apply Nat.eq_of_testBit_eq
  grind
theorem ae8 {s i b:Int} (h:(fh s i b).2=0) {j:Nat} (hj:(fh s i b).1.toNat.testBit j=true): ∃x,s.toNat.testBit x=true/\il i.toNat b.toNat x=j:=by
 unfold fh at h hj
 split at h
 ·cases h
 ·next hn=>
  rw [if_neg hn] at hj
  have h':(lk s.toNat i.toNat b.toNat).2=0:=by
   omega
  obtain ⟨x,_,h2,h3⟩:=(ae7 h' j).1 hj
  grind
theorem aeY {c:Cl} {i b:Int} (h:(ig c i b).2=0) (hc:fC c=false):fC (ig c i b).1=false:=by
 grind [YR,ig,ae8,SZ]
def eI (d b:Int) (f:LC):Except Int (LC):=if b=0\/d>=24 then .ok f else eM (cm f d b)
theorem yW {d b:Int} {f g:LC} (hf:RF f) (h:eI d b f= .ok g):RF g:=by
 grind [eI,j7,lj]
theorem Rn {d b:Int} {f:LC} {e:Int} (h:eI d b f= .error e):0<e/\e<=1000:=by
 grind [eI,Ei,CV,EN]
theorem ahW {d b:Int} {f g:LC} (hf:f.all (fun c=> !fC c)=true) (h:eI d b f= .ok g):g.all (fun c=> !fC c)=true:=by
 grind [eI,j7,ae3,aeY]
theorem IE (d b:Int):eI d b []= .ok []:=by
 unfold eI
 split
 all_goals rfl
mutual
def dm (vb db v d:Int):Tm->Except Int Tm
 | .mk kd n nm r ks sys=>
  if kd=1/\n>=v/\n>1000000000-vb then .error 100
  else bE (eI d db r) fun r'=>bE (iJ vb db v d kd 0 ks) fun ks'=>bE (fI vb db v d kd sys) fun sys'=> .ok (.mk kd (if kd=1/\n>=v then n+vb else n) nm r' ks' sys')
def iJ (vb db v d kd:Int) (i:Nat):LT->Except Int (LT)
 |[]=> .ok []
 |t::l=>bE (dm vb db (v+b8 kd i) (d+bL kd i) t) fun t'=>bE (iJ vb db v d kd (i+1) l) fun l'=> .ok (t'::l')
def fI (vb db v d kd:Int):LB->Except Int (LB)
 |[]=> .ok []
 |b::l=>bE (sO vb db v d kd b) fun b'=>bE (fI vb db v d kd l) fun l'=> .ok (b'::l')
def sO (vb db v d kd:Int):Br Tm->Except Int (Br Tm)
 | .mk f ks=>bE (eI d db f) fun f'=>bE (iL vb db v d kd ks) fun ks'=> .ok (.mk f' ks')
def iL (vb db v d kd:Int):LT->Except Int (LT)
 |[]=> .ok []
 |t::l=>bE (dm vb db v (d+aS kd) t) fun t'=>bE (iL vb db v d kd l) fun l'=> .ok (t'::l')
end
mutual
def RowsT:Tm->Prop
 | .mk kd n nm r ks sys=>(RF r/\(kd=1->r=[])/\0<=kd)/\eN ks/\gO sys
def eN:LT->Prop
 |[]=>True
 |t::l=>RowsT t/\eN l
def gO:LB->Prop
 |[]=>True
 |b::l=>og b/\gO l
def og:Br Tm->Prop
 | .mk f ks=>RF f/\eN ks
end
theorem rowsK_iff: ∀ {l:LT},eN l↔ ∀t∈l,RowsT t:=by
 intro l
 induction l<;>grind [eN]
theorem II {b:Br Tm}:og b↔RF b.face/\ ∀t∈b.kids,RowsT t:=by cases b;rw [og,rowsK_iff]
theorem rowsS_iff: ∀ {l:LB},gO l↔ ∀b∈l,RF b.face/\ ∀t∈b.kids,RowsT t:=by
 intro l
 induction l<;>grind [gO,II]
inductive F2 {α β:Type} (R:α->β->Prop):List α->List β->Prop
 |nil:F2 R [] []
 |cons {a:α} {b:β} {l:List α} {m:List β}:R a b->F2 R l m->F2 R (a::l) (b::m)
theorem F2.len {α β:Type} {R:α->β->Prop} {l:List α} {m:List β} (h:F2 R l m):m.length=l.length:=by
 induction h<;>grind
theorem F2.imp {α β:Type} {R Q:α->β->Prop} {l:List α} {m:List β} (h:F2 R l m) (hq: ∀a b,R a b->Q a b):F2 Q l m:=by
 induction h<;>grind [nil,cons]
theorem ae4 {vb db v d kd:Int} {R:Tm->Tm->Prop}: ∀ {l:LT} {i:Nat} {l':LT},(∀x∈l,∀v d x',dm vb db v d x= .ok x'->R x x')->iJ vb db v d kd i l= .ok l'->F2 R l l':=by
 intro l
 induction l with
 |nil=>intro i l' _ h;rw [iJ] at h;injection h with h;subst h;exact .nil
 |cons t l ih=>
  intro i l' hr h
  rw [iJ] at h
  obtain ⟨t',h1,h⟩:=ar h
  obtain ⟨m,h2,h⟩:=ar h
  injection h with h;subst h
  exact .cons (hr t (by simp) _ _ _ h1) (ih (fun x hx=>hr x (by simp [hx])) h2)
theorem ae5 {vb db v d kd:Int} {R:Tm->Tm->Prop}: ∀ {l:LT} {l':LT},(∀x∈l,∀v d x',dm vb db v d x= .ok x'->R x x')->iL vb db v d kd l= .ok l'->F2 R l l':=by
 intro l
 induction l with
 |nil=>intro l' _ h;rw [iL] at h;injection h with h;subst h;exact .nil
 |cons t l ih=>
  intro l' hr h
  rw [iL] at h
  obtain ⟨t',h1,h⟩:=ar h
  obtain ⟨m,h2,h⟩:=ar h
  injection h with h;subst h
  exact .cons (hr t (by simp) _ _ _ h1) (ih (fun x hx=>hr x (by simp [hx])) h2)
theorem ae_ {vb db v d kd:Int} {R:Tm->Tm->Prop}: ∀ {l l':LB},(∀b∈l,∀x∈b.kids,∀v d x',dm vb db v d x= .ok x'->R x x')->fI vb db v d kd l= .ok l'->
  F2 (fun b b'=>eI d db b.face= .ok b'.face/\F2 R b.kids b'.kids) l l':=by
 intro l
 induction l with
 |nil=>intro l' _ h;rw [fI] at h;injection h with h;subst h;exact .nil
 |cons b l ih=>
  intro l' hr h
  rw [fI] at h
  obtain ⟨b',h1,h⟩:=ar h
  obtain ⟨m,h2,h⟩:=ar h
  injection h with h;subst h
  cases b with
  |mk f ks=>
   rw [sO] at h1
   obtain ⟨f',h3,h1⟩:=ar h1
   obtain ⟨ks',h4,h1⟩:=ar h1
   injection h1 with h1;subst h1
   exact .cons ⟨h3,ae5 (hr ⟨f,ks⟩ (by simp)) h4⟩ (ih (fun b hb=>hr b (by simp [hb])) h2)
theorem CZ {f:LC} {d:Int} (h:24<=d):a7 f d=true:=by
 grind [a7,mem_bitsN]
def Up (x x':Tm):Prop:=ah x'=ah x/\aA x'=aA x/\x'.kind=x.kind/\(OkT x->OkT x'/\(RowsT x->RowsT x')/\ ∀dd dd',24<=dd->24<=dd'->aE false (-1) dd x=true->aE false (-1) dd' x'=true)
theorem S2 {l l':LT} (h:F2 Up l l'):az l'=az l:=by
 induction h with
 |nil=>rfl
 |cons h1 _ ih=>rw [az,az,h1.1,ih]
theorem S5 {l l':LT} (h:F2 Up l l'):ax l'=ax l:=by
 induction h with
 |nil=>rfl
 |cons h1 _ ih=>rw [ax,ax,h1.2.1,ih]
theorem akv {l l':LB} (h:F2 (fun b b':Br Tm=>F2 Up b.kids b'.kids) l l'):aN l'=aN l:=by
 induction h with
 |nil=>rfl
 |cons h1 _ ih=>grind [aN,xq,S2]
theorem akw {l l':LB} (h:F2 (fun b b':Br Tm=>F2 Up b.kids b'.kids) l l'):aM l'=aM l:=by
 induction h with
 |nil=>rfl
 |cons h1 _ ih=>grind [aM,pm,S5]
theorem S3 {l l':LT} (h:F2 Up l l'):aU l->aU l':=by
 induction h with
 |nil=>exact id
 |cons h1 _ ih=>rw [aU,aU];exact fun h=>⟨(h1.2.2.2 h.1).1,ih h.2⟩
theorem S4 {l l':LT} (h:F2 Up l l'):aU l->eN l->eN l':=by
 induction h with
 |nil=>simp
 |cons h1 _ ih=>rw [aU,eN,eN];exact fun h g=>⟨(h1.2.2.2 h.1).2.1 g.1,ih h.2 g.2⟩
theorem zk (v:Int):cq (-1) v= -1:=by rfl
theorem akt {kd dd dd':Int} (h1:24<=dd) (h2:24<=dd') {l l':LT} (h:F2 Up l l'): ∀ {i:Nat},aU l->bO false (-1) dd kd i l=true->bO false (-1) dd' kd i l'=true:=by
 induction h with
 |nil=>exact fun _ h=>h
 |cons h3 _ ih=>
  intro i
  rw [aU,bO,bO,ak,ak,zk]
  have:=iz kd i
  exact fun h g=>⟨(h3.2.2.2 h.1).2.2 _ _ (by omega) (by omega) g.1,ih h.2 g.2⟩
theorem aku {kd dd dd':Int} (h1:24<=dd) (h2:24<=dd') {l l':LT} (h:F2 Up l l'):aU l->cQ false (-1) dd kd l=true->cQ false (-1) dd' kd l'=true:=by
 induction h with
 |nil=>exact fun _ h=>h
 |cons h3 _ ih=>
  rw [aU,cQ,cQ,ak,ak]
  have:=iZ kd
  exact fun h g=>⟨(h3.2.2.2 h.1).2.2 _ _ (by omega) (by omega) g.1,ih h.2 g.2⟩
def tr (d db:Int) (b b':Br Tm):Prop:=eI d db b.face= .ok b'.face/\F2 Up b.kids b'.kids
theorem Rp {d db:Int} {f g:LC} (h:eI d db f= .ok g) (hf:av f) (hl:f.length<1073741824):av g/\g.length<1073741824:=by
 unfold eI at h
 split at h
 ·grind
 ·obtain ⟨h1,rfl⟩:=j7 h
  have:=lj h1
  exact ⟨this.2,by have:=this.len;omega⟩
theorem IF {d db:Int} {f g:LC} (h:eI d db f= .ok g) (hf:av f) (hr:dF f=true):dF g=true:=(yW ((mY hf).1 hr) h).right
theorem vm {d db:Int} {f g:LC} (h:eI d db f= .ok g) (hf:av f) (hr:bV f=true):bV g=true:=by
 grind [bV,IF,ahW]
theorem DT {d db:Int} {f g:LC} (h:eI d db f= .ok g) (hf:f.length=0):g.length=0:=by
 grind [IE]
theorem akq {d db:Int} {l l':LB} (h:F2 (tr d db) l l'):a_ l->a_ l':=by
 induction h with
 |nil=>exact id
 |cons h1 _ ih=>
  rw [a_,a_,sY,sY]
  intro h
  have h3:=Rp h1.1 h.1.1.1 h.1.1.2.1
  exact ⟨⟨⟨h3.1,h3.2,by have:=h1.2.len;omega⟩,okK_iff.1 (S3 h1.2 (okK_iff.2 h.1.2))⟩,ih h.2⟩
theorem aks {d db:Int} {l l':LB} (h:F2 (tr d db) l l'):a_ l->gO l->gO l':=by
 induction h with
 |nil=>simp
 |cons h1 _ ih=>
  rw [a_,sY,gO,gO,II,II]
  intro h g
  exact ⟨⟨yW g.1.1 h1.1,rowsK_iff.1 (S4 h1.2 (okK_iff.2 h.1.2) (rowsK_iff.2 g.1.2))⟩,ih h.2 g.2⟩
theorem akp {d db kd dd dd':Int} (h1:24<=dd) (h2:24<=dd') {l l':LB} (h:F2 (tr d db) l l'):a_ l->aY false (-1) dd kd l=true->aY false (-1) dd' kd l'=true:=by
 induction h with
 |nil=>exact fun _ h=>h
 | @cons a b _ _ h3 _ ih=>
  rw [a_,sY,aY,aY,ak,ak]
  intro h g
  refine ⟨?_,ih h.2 g.2⟩
  cases a;cases b
  have g1:=g.1
  rw [iQ] at g1 ⊢
  exact aku h1 h2 h3.2 (okK_iff.2 h.1.2) g1
theorem akr {d db kd dd dd':Int} (h1:24<=dd) (h2:24<=dd') {l l':LB} (h:F2 (tr d db) l l'):a_ l->l.all (bR kd dd)=true->l'.all (bR kd dd')=true:=by
 induction h with
 |nil=>simp
 | @cons a b _ _ h3 _ ih=>
  rw [a_,sY,iO,iO,ak,ak]
  intro h g
  refine ⟨?_,ih h.2 g.2⟩
  have g1:=g.1
  unfold bR at g1 ⊢
  rw [ak,ak,decide_eq_true_eq] at g1 ⊢
  rw [h3.2.len]
  exact ⟨g1.1,vm h3.1 h.1.1.1 g1.2.1,CZ h2⟩
theorem S1 {d db:Int} {l l':LB} (h:F2 (tr d db) l l'):F2 (fun b b':Br Tm=>F2 Up b.kids b'.kids) l l':=h.imp fun _ _ h=>h.2
theorem xU {vb db:Int} (hvb:0<=vb) (hvb':vb<=1000000000) (t:Tm): ∀v d t',dm vb db v d t= .ok t'->Up t t':=by
 induction t using gi with
 |h kd n nm r ks sys ih1 ih2=>
  intro v d t' h
  rw [dm] at h
  split at h
  ·cases h
  next hv=>
  obtain ⟨r',hr,h⟩:=ar h
  obtain ⟨ks',hk,h⟩:=ar h
  obtain ⟨sys',hs,h⟩:=ar h
  injection h with h;subst h
  have fk:F2 Up ks ks':=ae4 (fun x hx v d x'=>ih1 x hx v d x') hk
  have fs:F2 (tr d db) sys sys':=ae_ (fun b hb x hx v d x'=>ih2 b hb x hx v d x') hs
  refine ⟨?_, ?_,rfl,fun hok=> ?_⟩
  ·grind [ah,S2,akv,S1]
  ·grind [aA,S5,akw,S1]
  ·obtain ⟨o1,o2,o3,o4,o5,o6,o7⟩:=hok.node
   have hok':=hok
   rw [OkT] at hok'
   obtain ⟨_,ok,os⟩:=hok'
   have hr':=Rp hr o4 o5
   have o2':=o2
   unfold aR at o2'
   refine ⟨?_, ?_, ?_⟩
   ·rw [OkT]
    refine ⟨⟨o1, ?_,o3,hr'.1,hr'.2,by rw [fk.len];exact o6,by rw [fs.len];exact o7⟩,S3 fk ok,akq fs os⟩
    grind [aR]
   ·grind [RowsT,yW,S4,aks,IE]
   ·intro dd dd' h1 h2
    rw [aE,aE]
    simp only [Bool.false_and,dr,Bool.true_and,ak]
    rintro ⟨a,b,c⟩
    refine ⟨?_,akt h1 h2 fk ok b,akp h1 h2 fs os c⟩
    unfold dL at a ⊢
    simp only [ak,decide_eq_true_eq,fk.len,fs.len] at a ⊢
    grind [DT,IF,CZ,vm,akr]
theorem adF {kd:Int} {n:Nat} (h:j4 kd=n):0<=kd:=by
 grind [j4]
theorem XZ {bd:Bool} (t:Tm): ∀ {vars dims:Int},OkT t->aE bd vars dims t=true->RowsT t:=by
 induction t using gi with
 |h kd n nm r ks sys ih1 ih2=>
  intro vars dims hok h
  rw [aE,ak,ak,ak] at h
  obtain ⟨_,a,b,c⟩:=h
  obtain ⟨o1,o2,o3,o4,o5,o6,o7⟩:=hok.node
  have hok':=hok
  rw [OkT] at hok'
  obtain ⟨_,ok,os⟩:=hok'
  have hkids: ∀ {l:LT} {i:Nat},(∀x∈l,∀ {vars dims:Int},OkT x->aE bd vars dims x=true->RowsT x)->aU l->bO bd vars dims kd i l=true->eN l:=by
   intro l
   induction l<;>grind [eN,bO,aU]
  rw [rq,d7] at c
  unfold dL at a
  simp only [ak,decide_eq_true_eq] at a
  obtain ⟨⟨a1,a2,a3,a4⟩,a5⟩:=a
  have r0: ∀ {l:LC},l.length=0->RF l:=fun h=>by
   grind [ja]
  rw [RowsT]
  have hfaces:(sys=[]\/sys.all (bR kd dims)=true)/\RF r/\(kd=1->r=[]):=by
   have nosys:fQ kd=0->sys=[]:=fun h=>List.length_eq_zero_iff.1 (a4 h)
   by_cases c1:kd=1
   ·rw [if_pos c1] at a5
    simp only [ak,decide_eq_true_eq] at a5
    exact ⟨.inl (nosys (by subst c1;decide)),r0 a5.1,fun _=>List.length_eq_zero_iff.1 a5.1⟩
   ·rw [if_neg c1] at a5
    by_cases c2:kd=2
    ·rw [if_pos c2] at a5
     simp only [ak,decide_eq_true_eq] at a5
     exact ⟨.inl (nosys (by subst c2;decide)),r0 a5.1,fun h=>absurd h c1⟩
    ·rw [if_neg c2] at a5
     by_cases c3:kd=13\/kd=21\/kd=26
     ·rw [if_pos c3,ak] at a5
      exact ⟨.inl (nosys (by rcases c3 with rfl|rfl|rfl<;>decide)),(mY o4).1 a5.1,fun h=>absurd h c1⟩
     ·rw [if_neg c3] at a5
      by_cases c4:kd=14
      ·rw [if_pos c4,ak] at a5
       unfold bV at a5
       rw [ak] at a5
       exact ⟨.inl (nosys (by subst c4;decide)),(mY o4).1 a5.1.1,fun h=>absurd h c1⟩
      grind
  refine ⟨⟨hfaces.2.1,hfaces.2.2,adF a1⟩,hkids (fun x hx=>ih1 x hx) ok b, ?_⟩
  rw [rowsS_iff]
  intro br hbr
  have hc:=c br hbr
  rw [d7] at hc
  have hob:=hok.br hbr
  refine ⟨?_,fun x hx=>ih2 br hbr x hx (hob.2 x hx) (hc x hx)⟩
  rcases hfaces.1 with h|h<;>grind [bR,bV,mY]
theorem oZ {vb db:Int} (t:Tm): ∀ {v d e},dm vb db v d t= .error e->0<e/\e<=1000:=by
 induction t using gi with
 |h kd n nm r ks sys ih1 ih2=>
  intro v d e h
  rw [dm] at h
  split at h
  ·grind
  rcases cS h with h|⟨_,_,h⟩
  ·exact Rn h
  have hkids: ∀ {l:LT} {i:Nat},(∀x∈l,∀ {v d e},dm vb db v d x= .error e->0<e/\e<=1000)->iJ vb db v d kd i l= .error e->0<e/\e<=1000:=by
   intro l
   induction l with
   |nil=>grind [iJ]
   |cons t l ih=>
    intro i hl h
    rw [iJ] at h
    rcases cS h with h|⟨_,_,h⟩
    ·exact hl t (by simp) h
    grind [cS]
  have hmore: ∀ {l:LT},(∀x∈l,∀ {v d e},dm vb db v d x= .error e->0<e/\e<=1000)-> ∀ {e},iL vb db v d kd l= .error e->0<e/\e<=1000:=by
   intro l
   induction l with
   |nil=>grind [iL]
   |cons t l ih=>
    intro hl e h
    rw [iL] at h
    rcases cS h with h|⟨_,_,h⟩
    ·grind
    ·rcases cS h with h|⟨_,_,h⟩
     ·exact ih (fun x hx=>hl x (by simp [hx])) h
     simp_all
  have hsys: ∀ {l:LB},(∀b∈l,∀x∈b.kids,∀ {v d e},dm vb db v d x= .error e->0<e/\e<=1000)->fI vb db v d kd l= .error e->0<e/\e<=1000:=by
   intro l
   induction l with
   |nil=>grind [fI]
   |cons b l ih=>
    intro hl h
    rw [fI] at h
    rcases cS h with h|⟨_,_,h⟩
    ·cases b with
     |mk f ks'=>
      rw [sO] at h
      rcases cS h with h|⟨_,_,h⟩
      ·exact Rn h
      ·rcases cS h with h|⟨_,_,h⟩
       ·exact hmore (hl (Br.mk f ks') (by simp)) h
       ·cases h
    grind [cS]
  grind [cS]
abbrev gN:=Int->LC->Except Int (LC)
mutual
def b7 (fo fa:gN) (d:Int):Tm->Except Int Tm
 | .mk kd n nm r ks sys=>bE (if kd=14 then fa d r else fo d r) fun r'=>bE (dq fo fa d kd 0 ks) fun ks'=>bE (cr fo fa d kd sys) fun sys'=> .ok (.mk kd n nm r' ks' sys')
def dq (fo fa:gN) (d kd:Int) (i:Nat):LT->Except Int (LT)
 |[]=> .ok []
 |t::l=>bE (b7 fo fa (d+bL kd i) t) fun t'=>bE (dq fo fa d kd (i+1) l) fun l'=> .ok (t'::l')
def cr (fo fa:gN) (d kd:Int):LB->Except Int (LB)
 |[]=> .ok []
 |b::l=>bE (jP fo fa d kd b) fun o=>bE (cr fo fa d kd l) fun l'=> .ok (o++l')
def jP (fo fa:gN) (d kd:Int):Br Tm->Except Int (LB)
 | .mk f ks=>bE (fa d f) fun f'=>if f'.length=0 then .ok [] else bE (dB fo fa d kd ks) fun ks'=> .ok [.mk f' ks']
def dB (fo fa:gN) (d kd:Int):LT->Except Int (LT)
 |[]=> .ok []
 |t::l=>bE (b7 fo fa (d+aS kd) t) fun t'=>bE (dB fo fa d kd l) fun l'=> .ok (t'::l')
end
theorem akC {fo fa:gN} {d kd:Int} {R:Tm->Tm->Prop}: ∀ {l:LT} {i:Nat} {l':LT},(∀x∈l,∀d x',b7 fo fa d x= .ok x'->R x x')->dq fo fa d kd i l= .ok l'->F2 R l l':=by
 intro l
 induction l with
 |nil=>intro i l' _ h;rw [dq] at h;injection h with h;subst h;exact .nil
 |cons t l ih=>
  intro i l' hr h
  rw [dq] at h
  obtain ⟨t',h1,h⟩:=ar h
  obtain ⟨m,h2,h⟩:=ar h
  injection h with h;subst h
  exact .cons (hr t (by simp) _ _ h1) (ih (fun x hx=>hr x (by simp [hx])) h2)
theorem akE {fo fa:gN} {d kd:Int} {R:Tm->Tm->Prop}: ∀ {l:LT} {l':LT},(∀x∈l,∀d x',b7 fo fa d x= .ok x'->R x x')->dB fo fa d kd l= .ok l'->F2 R l l':=by
 intro l
 induction l with
 |nil=>intro l' _ h;rw [dB] at h;injection h with h;subst h;exact .nil
 |cons t l ih=>
  intro l' hr h
  rw [dB] at h
  obtain ⟨t',h1,h⟩:=ar h
  obtain ⟨m,h2,h⟩:=ar h
  injection h with h;subst h
  exact .cons (hr t (by simp) _ _ h1) (ih (fun x hx=>hr x (by simp [hx])) h2)
def Wk (x x':Tm):Prop:=ah x'<=ah x/\aA x'<=aA x/\x'.kind=x.kind/\(OkT x->RowsT x->OkT x'/\RowsT x')
theorem Tw {l l':LT} (h:F2 Wk l l'):az l'<=az l:=by
 induction h with
 |nil=>simp
 |cons h1 _ ih=>rw [az,az];have:=h1.1;omega
theorem TC {l l':LT} (h:F2 Wk l l'):ax l'<=ax l:=by
 induction h with
 |nil=>simp
 |cons h1 _ ih=>rw [ax,ax];have:=h1.2.1;omega
theorem TB {l l':LT} (h:F2 Wk l l'):aU l->eN l->aU l'/\eN l':=by
 induction h with
 |nil=>grind
 |cons h1 _ ih=>
  rw [aU,aU,eN,eN]
  intro h g
  have a:=h1.2.2.2 h.1 g.1
  grind
theorem akH {fo fa:gN} {d kd:Int} (hfa: ∀d f g,RF f->fa d f= .ok g->RF g): ∀ {l l':LB},(∀b∈l,∀x∈b.kids,∀d x',b7 fo fa d x= .ok x'->Wk x x')->cr fo fa d kd l= .ok l'->
  aN l'<=aN l/\aM l'<=aM l/\l'.length<=l.length/\(a_ l->gO l->a_ l'/\gO l'):=by
 intro l
 induction l with
 |nil=>grind [cr]
 |cons b l ih=>
  intro l' hr h
  rw [cr] at h
  obtain ⟨o,h1,h⟩:=ar h
  obtain ⟨m,h2,h⟩:=ar h
  injection h with h;subst h
  obtain ⟨i1,i2,i3,i4⟩:=ih (fun b hb=>hr b (by simp [hb])) h2
  cases b with
  |mk f ks=>
   rw [jP] at h1
   obtain ⟨f',h3,h1⟩:=ar h1
   split at h1
   ·grind [aN,aM,a_,gO]
   ·obtain ⟨ks',h4,h1⟩:=ar h1
    injection h1 with h1;subst h1
    have f2:F2 Wk ks ks':=akE (hr ⟨f,ks⟩ (by simp)) h4
    have hd:=Tw f2
    have hs:=TC f2
    refine ⟨?_, ?_, ?_,fun ho hg=> ?_⟩
    ·grind [aN,ji]
    ·grind [aM,jp]
    ·grind
    ·rw [a_,gM] at ho;rw [gO,og] at hg
     have a:=TB f2 ho.1.2 hg.1.2
     have b:=i4 ho.2 hg.2
     have c:=hfa d f f' hg.1.1 h3
     show a_ (Br.mk f' ks'::m)/\gO (Br.mk f' ks'::m)
     rw [a_,gM,gO,og]
     exact ⟨⟨⟨⟨c.2,by have:=c.len;omega,by rw [f2.len];simp_all⟩,a.1⟩,b.1⟩,⟨c,a.2⟩,b.2⟩
theorem Tb {fo fa:gN} (hfo: ∀d f g,RF f->fo d f= .ok g->RF g) (hfa: ∀d f g,RF f->fa d f= .ok g->RF g) (h0: ∀d,fo d []= .ok []) (t:Tm): ∀d t',b7 fo fa d t= .ok t'->Wk t t':=by
 induction t using gi with
 |h kd n nm r ks sys ih1 ih2=>
  intro d t' h
  rw [b7] at h
  obtain ⟨r',hr,h⟩:=ar h
  obtain ⟨ks',hk,h⟩:=ar h
  obtain ⟨sys',hs,h⟩:=ar h
  injection h with h;subst h
  have fk:F2 Wk ks ks':=akC ih1 hk
  obtain ⟨s1,s2,s3,s4⟩:=akH hfa ih2 hs
  refine ⟨?_, ?_,rfl,fun hok hro=> ?_⟩
  ·rw [ah,ah];have:=Tw fk;omega
  ·rw [aA,aA];have:=TC fk;omega
  ·rw [OkT] at hok;rw [RowsT] at hro
   obtain ⟨⟨o1,o2,o3,o4,o5,o6,o7⟩,ok,os⟩:=hok
   obtain ⟨⟨a,b,z⟩,c,e⟩:=hro
   have hk:=TB fk ok c
   have hs:=s4 os e
   have hrf:RF r':=by
    grind
   rw [OkT,RowsT]
   refine ⟨⟨⟨o1,o2,o3,hrf.2,by have:=hrf.len;omega,by rw [fk.len];exact o6,by omega⟩,hk.1,hs.1⟩,⟨hrf,fun h1=> ?_,z⟩,hk.2,hs.2⟩
   grind
section
variable {fo fa:gN} {G:Int->LC->LC}
def fO (f:gN) (G:Int->LC->LC):gN:=fun d l=>bE (f d l) fun m=> .ok (G d m)
def aW (G:Int->LC->LC):gN:=fun d l=> .ok (G d l)
theorem Eo (t:Tm): ∀d,∃t',b7 (aW G) (aW G) d t= .ok t':=by
 induction t using gi with
 |h kd n nm r ks sys ih1 ih2=>
  intro d
  have hk: ∀ {l:LT} {i:Nat},(∀x∈l,∀d,∃t',b7 (aW G) (aW G) d x= .ok t')-> ∃l',dq (aW G) (aW G) d kd i l= .ok l':=by
   intro l
   induction l with
   |nil=>simp_all [dq]
   |cons t l ih=>
    intro i h
    obtain ⟨t',e⟩:=h t (by simp) (d+bL kd i)
    obtain ⟨l',e'⟩:=ih (i:=i+1) fun x hx=>h x (by simp [hx])
    grind [dq,bP]
  have hm: ∀ {l:LT},(∀x∈l,∀d,∃t',b7 (aW G) (aW G) d x= .ok t')-> ∃l',dB (aW G) (aW G) d kd l= .ok l':=by
   intro l
   induction l with
   |nil=>simp_all [dB]
   |cons t l ih=>
    intro h
    obtain ⟨t',e⟩:=h t (by simp) (d+aS kd)
    obtain ⟨l',e'⟩:=ih fun x hx=>h x (by simp [hx])
    grind [dB,bP]
  have hs: ∀ {l:LB},(∀b∈l,∀x∈b.kids,∀d,∃t',b7 (aW G) (aW G) d x= .ok t')-> ∃l',cr (aW G) (aW G) d kd l= .ok l':=by
   intro l
   induction l with
   |nil=>simp_all [cr]
   |cons b l ih=>
    intro h
    obtain ⟨l',e'⟩:=ih fun b hb=>h b (by simp [hb])
    cases b with
    |mk f ks=>
     obtain ⟨ks',e⟩:=hm (h ⟨f,ks⟩ (by simp))
     have: ∃o,jP (aW G) (aW G) d kd (.mk f ks)= .ok o:=by
      grind [jP,aW,bP]
     grind [cr,bP]
  obtain ⟨ks',ek⟩:=hk (i:=0) ih1
  obtain ⟨sys',es⟩:=hs ih2
  simp_all [aW,b7,bP]
theorem akD (d kd:Int): ∀ (l:LT) (i:Nat),∃l',dq (aW G) (aW G) d kd i l= .ok l':=by
 intro l
 induction l with
 |nil=>simp_all [dq]
 |cons t l ih=>
  intro i
  obtain ⟨t',e⟩:=Eo (G:=G) t (d+bL kd i)
  obtain ⟨l',e'⟩:=ih (i+1)
  grind [dq,bP]
theorem Ta (d kd:Int): ∀ (l:LT),∃l',dB (aW G) (aW G) d kd l= .ok l':=by
 intro l
 induction l with
 |nil=>simp_all [dB]
 |cons t l ih=>
  obtain ⟨t',e⟩:=Eo (G:=G) t (d+aS kd)
  grind [dB,bP]
theorem akB (d kd:Int) (b:Br Tm): ∃o,jP (aW G) (aW G) d kd b= .ok o:=by
 cases b with
 |mk f ks=>
  obtain ⟨ks',e⟩:=Ta (G:=G) d kd ks
  rw [jP,aW,bP]
  split<;>simp_all [bP]
theorem akG (d kd:Int): ∀ (l:LB),∃l',cr (aW G) (aW G) d kd l= .ok l':=by
 intro l
 induction l with
 |nil=>simp_all [cr]
 |cons b l ih=>
  obtain ⟨l',e'⟩:=ih
  obtain ⟨o,e⟩:=akB (G:=G) d kd b
  grind [cr,bP]
theorem akF (d kd:Int): ∀ (a b:LB),cr fo fa d kd (a++b)=bE (cr fo fa d kd a) fun a'=>bE (cr fo fa d kd b) fun b'=> .ok (a'++b'):=by
 intro a
 induction a with
 |nil=>intro b;rw [fq,cr,bP];cases cr fo fa d kd b<;>rfl
 |cons x a ih=>
  intro b
  rw [List.cons_append,cr,cr,ih]
  cases jP fo fa d kd x with
  |error e=>rfl
  |ok o=>
   rw [bP,bP]
   cases cr fo fa d kd a with
   |error e=>rfl
   |ok a'=>
    rw [bP,bP]
    cases cr fo fa d kd b with
    |error e=>rfl
    |ok b'=>grind [bP]
theorem akJ (hfa: ∀d f g,RF f->fa d f= .ok g->RF g) (hG: ∀d f,RF f->((G d f).length=0↔f.length=0)) (t:Tm): ∀d,RowsT t->bE (b7 fo fa d t) (b7 (aW G) (aW G) d)=b7 (fO fo G) (fO fa G) d t:=by
 induction t using gi with
 |h kd n nm r ks sys ih1 ih2=>
  intro d hrows
  rw [RowsT] at hrows
  obtain ⟨_,hrk,hrs⟩:=hrows
  have hk: ∀ {l:LT} {i:Nat},(∀x∈l,∀d,RowsT x->bE (b7 fo fa d x) (b7 (aW G) (aW G) d)=b7 (fO fo G) (fO fa G) d x)->eN l->bE (dq fo fa d kd i l) (dq (aW G) (aW G) d kd i)=dq (fO fo G) (fO fa G) d kd i l:=by
   intro l
   induction l with
   |nil=>grind [dq,bP]
   |cons t l ih=>
    intro i h hr
    rw [eN] at hr
    have h1:=h t (by simp) (d+bL kd i) hr.1
    have h2:=ih (i:=i+1) (fun x hx=>h x (by simp [hx])) hr.2
    rw [dq,dq,<-h1,<-h2]
    cases b7 fo fa (d+bL kd i) t with
    |error e=>rfl
    |ok t'=>
     rw [bP,bP]
     obtain ⟨t'',e⟩:=Eo (G:=G) t' (d+bL kd i)
     rw [e,bP]
     cases dq fo fa d kd (i+1) l with
     |error e=>rfl
     |ok l'=>
      grind [bP,dq]
  have hm: ∀ {l:LT},(∀x∈l,∀d,RowsT x->bE (b7 fo fa d x) (b7 (aW G) (aW G) d)=b7 (fO fo G) (fO fa G) d x)->eN l->bE (dB fo fa d kd l) (dB (aW G) (aW G) d kd)=dB (fO fo G) (fO fa G) d kd l:=by
   intro l
   induction l with
   |nil=>grind [dB,bP]
   |cons t l ih=>
    intro h hr
    rw [eN] at hr
    have h1:=h t (by simp) (d+aS kd) hr.1
    have h2:=ih (fun x hx=>h x (by simp [hx])) hr.2
    rw [dB,dB,<-h1,<-h2]
    cases b7 fo fa (d+aS kd) t with
    |error e=>rfl
    |ok t'=>
     rw [bP,bP]
     obtain ⟨t'',e⟩:=Eo (G:=G) t' (d+aS kd)
     rw [e,bP]
     cases dB fo fa d kd l with
     |error e=>rfl
     |ok l'=>
      grind [bP,dB]
  have hb: ∀ {b:Br Tm},(∀x∈b.kids,∀d,RowsT x->bE (b7 fo fa d x) (b7 (aW G) (aW G) d)=b7 (fO fo G) (fO fa G) d x)->og b->bE (jP fo fa d kd b) (cr (aW G) (aW G) d kd)=jP (fO fo G) (fO fa G) d kd b:=by
   intro b h hr
   cases b with
   |mk f ks'=>
    rw [og] at hr
    have h2:=hm h hr.2
    rw [jP,jP]
    show _=bE (bE (fa d f) fun m=> .ok (G d m)) _
    cases hf:fa d f with
    |error e=>rfl
    |ok f'=>
     rw [bP,bP,bP]
     have hg:=hG d f' (hfa d f f' hr.1 hf)
     by_cases h0:f'.length=0
     ·grind [bP,cr]
     ·rw [if_neg h0,if_neg (fun h=>h0 (hg.1 h)),<-h2]
      cases dB fo fa d kd ks' with
      |error e=>rfl
      |ok l'=>
       rw [bP,bP,bP,cr,jP]
       show bE (bE (.ok (G d f')) _) _=_
       rw [bP,if_neg (fun h=>h0 (hg.1 h))]
       obtain ⟨l'',e⟩:=Ta (G:=G) d kd l'
       grind [bP,cr]
  have hs: ∀ {l:LB},(∀b∈l,∀x∈b.kids,∀d,RowsT x->bE (b7 fo fa d x) (b7 (aW G) (aW G) d)=b7 (fO fo G) (fO fa G) d x)->gO l->bE (cr fo fa d kd l) (cr (aW G) (aW G) d kd)=cr (fO fo G) (fO fa G) d kd l:=by
   intro l
   induction l with
   |nil=>grind [cr,bP]
   |cons b l ih=>
    intro h hr
    rw [gO] at hr
    have h1:=hb (h b (by simp)) hr.1
    have h2:=ih (fun b hb=>h b (by simp [hb])) hr.2
    rw [cr,cr,<-h1,<-h2]
    cases jP fo fa d kd b with
    |error e=>rfl
    |ok o=>
     rw [bP,bP]
     obtain ⟨o',e⟩:=akG (G:=G) d kd o
     rw [e,bP]
     cases cr fo fa d kd l with
     |error e=>rfl
     |ok l'=>
      grind [bP,akF]
  rw [b7,b7,<-hk (i:=0) ih1 hrk,<-hs ih2 hrs]
  have hrow:(if kd=14 then fO fa G d r else fO fo G d r)=bE (if kd=14 then fa d r else fo d r) fun m=> .ok (G d m):=by split<;>rfl
  rw [hrow]
  cases (if kd=14 then fa d r else fo d r) with
  |error e=>rfl
  |ok r'=>
   rw [bP,bP,bP]
   cases dq fo fa d kd 0 ks with
   |error e=>rfl
   |ok ks'=>
    rw [bP,bP]
    obtain ⟨ks'',ek⟩:=akD (G:=G) d kd ks' 0
    rw [ek,bP]
    cases cr fo fa d kd sys with
    |error e=>rfl
    |ok sys'=>
     grind [bP,b7,aW]
end
set_option maxRecDepth 20000
theorem adG (kd:Int):(kd<0\/kd>28)\/(∃n:Nat,n<29/\kd=n):=by
 by_cases h:kd<0\/kd>28
 ·omega
 ·exact .inr ⟨kd.toNat,by omega,by omega⟩
theorem aii (kd:Int) (J:Int->OS S):BZ k kd J=J (j4 kd):=by
 simp only [BZ]
 rcases adG kd with h|⟨n,hn,rfl⟩
 ·simp only [kH,beq_iff_eq]
  unfold j4
  rw [if_pos h]
  repeat rw [if_neg (by omega)]
 ·unfold j4
  rw [if_neg (by omega),ir]
  match n,hn with
  |0,_=>rfl
  |1,_=>rfl
  |2,_=>rfl
  |3,_=>rfl
  |4,_=>rfl
  |5,_=>rfl
  |6,_=>rfl
  |7,_=>rfl
  |8,_=>rfl
  |9,_=>rfl
  |10,_=>rfl
  |11,_=>rfl
  |12,_=>rfl
  |13,_=>rfl
  |14,_=>rfl
  |15,_=>rfl
  |16,_=>rfl
  |17,_=>rfl
  |18,_=>rfl
  |19,_=>rfl
  |20,_=>rfl
  |21,_=>rfl
  |22,_=>rfl
  |23,_=>rfl
  |24,_=>rfl
  |25,_=>rfl
  |26,_=>rfl
  |27,_=>rfl
  |28,_=>rfl
  |n+29,h=>omega
theorem mZ (kd i:Int) (J:Int×Int->OS S):la k kd i J=J (b8 kd i,bL kd i):=by
 simp only [la,kH,beq_iff_eq]
 grind [b8,bL]
theorem RP (kd:Int) (J:Int->OS S):pR k kd J=J (fQ kd):=by
 grind [pR,kH,fQ]
theorem KL (s t:BA):(s==t)=decide (s=t):=by
 obtain ⟨a⟩:=s;obtain ⟨b⟩:=t
 show (a==b)=_
 grind
theorem Oo (s:BA):(s==au)=decide (s.size=0):=by
 simp_all [KL]
theorem I6 (s:BA):(s.size:Int)=(s.data.toList.length:Int):=by
 rfl
def qn (p:List UInt8) (r:List UInt8):Bool:=match p with
 |[]=>yr r
 |_::_=>r.all fun d=>sN d||xu d
theorem afG (p:List UInt8) (x:UInt8) (r:List UInt8):qn p (x::r)=((sN x||(decide (p≠[])&&xu x))&&qn (p++[x]) r):=by
 cases p<;>grind [qn,yr]
theorem afH {p:List UInt8}:qn p []=decide (p.length≠0):=by
 cases p with
 |nil=>rfl
 |cons c l=>rfl
theorem aew (hk:Fu k) (J:Bool->OS S) {s:BA} (hs:s.size<2147483648):
  ∀ (r p:List UInt8) (m:Nat),s.data.toList=p++r->r.length<m->sK k J s m (p.length:Int)=J (qn p r):=by
 obtain ⟨q,rfl⟩: ∃q,k=q+1:=⟨k-1,by omega⟩
 have hs':s.data.toList.length<2147483648:=by simp_all
 intro r
 induction r with
 |nil=>
  grind [aw,sK,wD,I6,ae,Oo,afH]
 |cons x r ih=>
  intro p m h hm
  obtain ⟨m,rfl,hm'⟩:=aw hm
  obtain ⟨e1,e2,e3,e4⟩:=bM h (by omega)
  have hi:=ih (p++[x]) m e4 hm'
  rw [afG]
  simp only [sK,wD,I6,e1,al,e2,aV,eJ,CS,Fq,e3,hi]
  have hl: ∀b:Bool,b=sN x->ac (!b) (ac (((p.length:Nat):Int)==0) (J false) (if ((x.toNat:Nat):Int)<48 then J false else if ((x.toNat:Nat):Int)>57 then J false else J (qn (p++[x]) r))) (J (qn (p++[x]) r))=J ((sN x||(decide (p≠[])&&xu x))&&qn (p++[x]) r):=by
   grind [kH,List.length_pos_iff,xu]
  grind [sN]
theorem aiV (hk:Fu k) {s:BA} (hs:s.size<2147483648) (J:Bool->OS S):B2 k s J=J (yr s.data.toList):=by
 simp only [B2,JV]
 have:=aew hk J hs s.data.toList [] k rfl (by grind [I6])
 exact this
theorem CU (n:Nat):(((n:Nat):Int)==0)=decide (n=0):=by grind
theorem aez (hk:Fu k) (J:Bool->OS S) {t:Tm} {dims:Int} (hd:0<=dims) (hd':dims<9223372036854775808) (hs: ∀b∈t.sys,av b.face/\b.face.length<1073741824) (hlen:t.sys.length<1073741824):
  ∀ (r p:LB) (m:Nat),t.sys=p++r->r.length<m->oY k J t dims m (p.length:Int)=J (r.all (bR t.kind dims)&&decide (t.r.length=0)):=by
 intro r
 induction r with
 |nil=>
  grind [aw,oY,AK,ae,CU]
 |cons x r ih=>
  intro p m h hm
  obtain ⟨m,rfl,hm'⟩:=aw hm
  obtain ⟨e1,e2,e3,e4⟩:=bM h (by omega)
  have hx:=hs x (by grind)
  have hb:((x.kids.length:Int)==fQ t.kind)=decide ((x.kids.length:Int)=fQ t.kind):=by rfl
  simp only [oY,AK,e1,al,e2,aV,ap hk,RP,vt hk hx.1 (show x.face.length<2147483648 by omega),Sr hk hx.1 (show x.face.length<4294967296 by omega) hd hd',e3,ih (p++[x]) m e4 hm',iO,hb]
  grind [bR,decide,Int,bV,al,ae]
theorem ajs {S:Type} (b c:Bool) (J:Bool->OS S):ac b (J c) (J false)=J (b&&c):=by
 cases b<;>rfl
def uZ (vars dims:Int) (t:Tm):Bool:=
 if t.kind=1 then decide (t.r.length=0)&&(decide (0<=t.n)&&decide (vars<0\/t.n<vars))
   else if t.kind=2 then decide (t.r.length=0)&&yr t.name.data.toList
   else if t.kind=13\/t.kind=21\/t.kind=26 then dF t.r&&a7 t.r dims
   else if t.kind=14 then bV t.r&&a7 t.r dims
   else t.sys.all (bR t.kind dims)&&decide (t.r.length=0)
theorem ago (vars dims:Int) (t:Tm):dL vars dims t=((decide (j4 t.kind=t.kids.length)&&(decide (t.kind=1\/t.n=0)&&(decide (t.kind=2\/t.name.size=0)&&decide (fQ t.kind=0->t.sys.length=0))))&&uZ vars dims t):=by
 cases t;rfl
def XN (t:Tm):Prop:=aR t.kind/\aR t.n/\t.name.size<1073741824/\av t.r/\t.r.length<1073741824/\t.kids.length<1073741824/\t.sys.length<1073741824
theorem OkT.no {t:Tm} (h:OkT t):XN t:=by cases t;exact h.node
theorem OkT.ki {t x:Tm} (h:OkT t) (hx:x∈t.kids):OkT x:=by cases t;exact h.kid hx
theorem OkT.bi {t:Tm} {b:Br Tm} (h:OkT t) (hb:b∈t.sys):(av b.face/\b.face.length<1073741824/\b.kids.length<1073741824)/\ ∀t∈b.kids,OkT t:=by cases t;exact h.br hb
theorem ai1 (hk:Fu k) {t:Tm} (ht:OkT t) {vars dims:Int} (hd:0<=dims) (hd':dims<9223372036854775808) (J:Bool->OS S):CT k J t vars dims k=J (uZ vars dims t):=by
 obtain ⟨o1,o2,o3,o4,o5,o6,o7⟩:=ht.no
 have hb:=fun b hb=>(ht.bi (b:=b) hb).1
 obtain ⟨q,hq⟩: ∃q,k=q+1:=⟨k-1,by omega⟩
 have: ∀j,j=q+1->CT k J t vars dims j=wE k J t vars dims (fun v109=>oY k J t dims k v109):=by rintro j rfl;rfl
 rw [this k hq]
 have hl:=aez hk J hd hd' (fun b h=>⟨(hb b h).1,(hb b h).2.1⟩) o7 t.sys [] k rfl (by omega)
 have hl:oY k J t dims k 0=_:=hl
 simp only [wE,ap hk,aiV hk (show t.name.size<2147483648 by omega),vr hk o4 (show t.r.length<2147483648 by omega),vt hk o4 (show t.r.length<2147483648 by omega),Sr hk o4 (show t.r.length<4294967296 by omega) hd hd',hl,CU,ajs]
 grind [kH,uZ]
theorem ai0 (hk:Fu k) {t:Tm} (ht:OkT t) {vars dims:Int} (hd:0<=dims) (hd':dims<9223372036854775808) (J:Bool->OS S):xj k t vars dims J=J (dL vars dims t):=by
 have hq:(j4 t.kind==(t.kids.length:Int))=decide (j4 t.kind=t.kids.length):=by rfl
 have hp:(fQ t.kind==0)=decide (fQ t.kind=0):=fc _
 simp only [xj,JW,ap hk,aii,RP,ai1 hk ht hd hd',Oo,hq,hp,fc,ago]
 have hsy:ac (decide (fQ t.kind=0)) (ac (decide (((t.sys.length:Nat):Int)>0)) (J false) (J (uZ vars dims t))) (J (uZ vars dims t))=J (decide (fQ t.kind=0->t.sys.length=0)&&uZ vars dims t):=by
  rw [eJ,eJ]
  by_cases h1:fQ t.kind=0
  ·rw [if_pos h1]
   by_cases h2:t.sys.length=0<;>grind
  grind
 grind [al,ae,decide_eq_false]
abbrev Fd (k n:Nat):Prop:=4294967296+n<=k
theorem Fd.fu {n:Nat} (h:Fd k n):Fu k:=by omega
theorem Fd.pos {n:Nat} (h:Fd k n): ∃q,k=q+1/\ ∀j,j+1<=n->Fd q j:=⟨k-1,by omega,fun j hj=>by omega⟩
theorem Fd.pos' {n:Nat} (h:Fd k n) (hn:1<=n): ∃q,k=q+1/\Fu q/\ ∀j,j+1<=n->Fd q j:=⟨k-1,by omega,by omega,fun j hj=>by omega⟩
theorem h_ (t:Tm):1<=ah t:=by cases t;rw [ah];omega
theorem xt (t:Tm):ah t=max (az t.kids) (aN t.sys)+1:=by cases t;rfl
theorem DY (t:Tm):aA t=1+ax t.kids+aM t.sys:=by cases t;rfl
theorem ga {t x:Tm} (h:x∈t.kids):ah x+1<=ah t:=by rw [xt t];have:=Gm h;omega
theorem gA {t:Tm} {b:Br Tm} {x:Tm} (hb:b∈t.sys) (h:x∈b.kids):ah x+1<=ah t:=by rw [xt t];have:=Gm h;have:=Lf hb;omega
theorem jr {Q:Tm->Prop} (h: ∀t,(∀x∈t.kids,Q x)->(∀b∈t.sys,∀x∈b.kids,Q x)->Q t) (t:Tm):Q t:=gi (fun kd n nm r ks sys h1 h2=>h (.mk kd n nm r ks sys) h1 h2) t
theorem Sx {α:Type} (b c:Bool) (x y:α):ac (!b) y (if c then x else y)=if b&&c then x else y:=by cases b<;>cases c<;>rfl
theorem Sy {S:Type} (b c:Bool) (J:Bool->OS S):ac (!b) (J false) (J c)=J (b&&c):=by cases b<;>rfl
theorem c5 {n:Int} (h1: -9223372036854775808<=n) (h2:n<9223372036854775808):af .i64 n=n:=TH h1 h2
section
variable {hd:Tm->Int->(Bool->OS S)->OS S} {c0:Int} {t:Tm} {Q:Tm->Bool}
theorem ad_ (hk:Fu k) (J:Bool->OS S) (rec1:Int->Int->OS S) (hc: -9223372036854775807<=c0) (hc':c0<9223372036854775808) {v more:Int} {x:Br Tm} (hQ: ∀y∈x.kids,∀g,hd y (c0-1) g=g (Q y)) (hl:x.kids.length<1073741824):
  ∀ (r p:LT) (m:Nat),x.kids=p++r->r.length<m->sH hd k J rec1 c0 t v x more m (p.length:Int)=if r.all Q then rec1 (af .i64 (v+1)) more else J false:=by
 intro r
 induction r with
 |nil=>
  grind [aw,sH,AH,ae]
 |cons y r ih=>
  intro p m h hm
  obtain ⟨m,rfl,hm'⟩:=aw hm
  obtain ⟨e1,e2,e3,e4⟩:=bM h (by omega)
  have hy:=hQ y (by grind)
  simp only [sH,AH,e1,al,e2,aV,ap hk,xk,aO,c5 (show-9223372036854775808<=c0-1 by omega) (by omega),hy,e3,ih (p++[y]) m e4 hm',Sx]
  rfl
theorem ad9 (hk:Fu k) (J:Bool->OS S) (hc: -9223372036854775807<=c0) (hc':c0<9223372036854775808) {more:Int} (hQ: ∀b∈t.sys,∀y∈b.kids,∀g,hd y (c0-1) g=g (Q y)) (hl:t.sys.length<1073741824) (hl': ∀b∈t.sys,b.kids.length<1073741824):
  ∀ (r p:LB) (m:Nat),t.sys=p++r->r.length<m->nM hd k J c0 t m (p.length:Int) more=J (r.all fun b=>b.kids.all Q):=by
 intro r
 induction r with
 |nil=>
  grind [aw,nM,wy,ae]
 |cons x r ih=>
  intro p m h hm
  obtain ⟨m,rfl,hm'⟩:=aw hm
  obtain ⟨e1,e2,e3,e4⟩:=bM h (by omega)
  have hx:x∈t.sys:=by grind
  have hlx:=hl' x hx
  have:=ad_ (t:=t) hk J (nM hd k J c0 t m) (v:=(p.length:Int)) (more:=more) hc hc' (hQ x hx) hlx x.kids [] k rfl (by omega)
  simp only [nM,wy,e1,al,e2,aV,iO]
  refine aq this ?_
  rw [e3,ih (p++[x]) m e4 hm']
  cases x.kids.all Q<;>rfl
theorem ad8 (hk:Fu k) (J:Bool->OS S) (hc: -9223372036854775807<=c0) (hc':c0<9223372036854775808) (hQ: ∀y∈t.kids,∀g,hd y (c0-1) g=g (Q y)) (hQ': ∀b∈t.sys,∀y∈b.kids,∀g,hd y (c0-1) g=g (Q y)) (ht:OkT t):
  ∀ (r p:LT) (m:Nat),t.kids=p++r->r.length<m->uM hd k J c0 t m (p.length:Int)=J (r.all Q&&t.sys.all fun b=>b.kids.all Q):=by
 obtain ⟨o1,o2,o3,o4,o5,o6,o7⟩:=ht.no
 intro r
 induction r with
 |nil=>
  intro p m h hm
  obtain ⟨m,rfl,hm'⟩:=aw hm
  have hs: ∀more:Int,nM hd k J c0 t k 0 more=_:=fun more=>ad9 hk J hc hc' (more:=more) hQ' o7 (fun b hb=>(ht.bi hb).1.2.2) t.sys [] k rfl (by omega)
  simp only [uM,wx,eP h,ae,hs]
  cases (t.kind==15)<;>rfl
 |cons y r ih=>
  intro p m h hm
  obtain ⟨m,rfl,hm'⟩:=aw hm
  obtain ⟨e1,e2,e3,e4⟩:=bM h (by omega)
  have hy:=hQ y (by grind)
  simp only [uM,wx,e1,al,e2,aV,ap hk,mZ,xk,aO,c5 (show-9223372036854775808<=c0-1 by omega) (by omega),hy,e3,ih (p++[y]) m e4 hm',Sy,iO,Bool.and_assoc]
end
theorem Lc {n:Int} (hn:0<=n): ∀ {l:LT},(l.all fun x=>decide ((ah x:Int)<=n))=decide ((az l:Int)<=n):=by
 intro l
 induction l<;>grind [az]
theorem Ze {n:Int} (hn:0<=n): ∀ {l:LB},(l.all fun b=>b.kids.all fun x=>decide ((ah x:Int)<=n))=decide ((aN l:Int)<=n):=by
 intro l
 induction l with
 |nil=>rw [aN];simp [hn]
 |cons b l ih=>rw [iO,ih,Lc hn,aN,xq,Bool.eq_iff_iff];grind
theorem ai9 (t:Tm):OkT t-> ∀ {k:Nat} {left:Int} (J:Bool->OS S),Fd k (ah t)-> -4611686018427387904<=left->left<4611686018427387904->nz k t left J=J (decide ((ah t:Int)<=left)):=by
 induction t using jr with
 |h t ih1 ih2=>
  intro ht k left J hk h1 h2
  obtain ⟨q,rfl,hq,hf⟩:=hk.pos' (h_ t)
  simp only [nz,SR,eJ,aO,ap hq]
  by_cases h0:left>0
  ·rw [if_pos h0]
   have hQ: ∀y∈t.kids,∀g:Bool->OS S,nz q y (left-1) g=g (decide ((ah y:Int)<=left-1)):=fun y hy g=>ih1 y hy (ht.ki hy) g (hf _ (ga hy)) (by omega) (by omega)
   have hQ': ∀b∈t.sys,∀y∈b.kids,∀g:Bool->OS S,nz q y (left-1) g=g (decide ((ah y:Int)<=left-1)):=fun b hb y hy g=>ih2 b hb y hy ((ht.bi hb).2 y hy) g (hf _ (gA hb hy)) (by omega) (by omega)
   have:=ad8 (Q:=fun y=>decide ((ah y:Int)<=left-1)) hq J (by omega) (by omega) hQ hQ' ht t.kids [] q rfl (by have:=ht.no.2.2.2.2.2.1;omega)
   simp only [Gj,JS]
   refine aq this ?_
   rw [Lc (by omega),Ze (by omega),xt]
   congr 1
   rw [Bool.eq_iff_iff];simp;omega
  grind [h_]
section
variable {hd:Tm->Int->(Bool×Int->OS S)->OS S} {t:Tm}
def vJ (hd:Tm->Int->(Bool×Int->OS S)->OS S) (k:Nat) (y:Tm):Prop:= ∀ (c:Int) (g:Bool×Int->OS S),0<=c->c<4611686018427387904->
 ∃v,tT hd k y c g=g (decide ((aA y:Int)<=c),v)/\((aA y:Int)<=c->v=c-aA y)
theorem ad7 (hk:Fu k) (J:Bool×Int->OS S) (rec1:Int->Int->Int->OS S) {v more:Int} {x:Br Tm} (hQ: ∀y∈x.kids,vJ hd k y) (hl:x.kids.length<1073741824):
  ∀ (r p:LT) (m:Nat) (c:Int),0<=c->c<4611686018427387904->x.kids=p++r->r.length<m->
  ((ax r:Int)<=c->oV hd k J rec1 t v x more m c (p.length:Int)=rec1 (c-ax r) (af .i64 (v+1)) more)/\(¬ (ax r:Int)<=c-> ∃w,oV hd k J rec1 t v x more m c (p.length:Int)=J (false,w)):=by
 intro r
 induction r with
 |nil=>
  grind [aw,oV,AF,ae,ax]
 |cons y r ih=>
  intro p m c h0 h1 h hm
  obtain ⟨m,rfl,hm'⟩:=aw hm
  obtain ⟨e1,e2,e3,e4⟩:=bM h (by omega)
  have hy:=hQ y (by grind)
  obtain ⟨w,hw,hw'⟩:=hy c (fun r1=>(fun r6:Bool×Int=>ac (!r6.1) (J (false,r6.2)) (oV hd k J rec1 t v x more m r6.2 (((p++[y]).length:Nat):Int))) (r1.1,r1.2)) h0 h1
  simp only [oV,AF,e1,al,e2,aV,ap hk,xm,aO,e3,ax]
  rw [hw]
  by_cases hs:(aA y:Int)<=c
  ·grind [ae]
  grind [al]
theorem ad6 (hk:Fu k) (J:Bool×Int->OS S) {more:Int} (hQ: ∀b∈t.sys,∀y∈b.kids,vJ hd k y) (hl:t.sys.length<1073741824) (hl': ∀b∈t.sys,b.kids.length<1073741824):
  ∀ (r p:LB) (m:Nat) (c:Int),0<=c->c<4611686018427387904->t.sys=p++r->r.length<m->
  ((aM r:Int)<=c->mH hd k J t m c (p.length:Int) more=J (true,c-aM r))/\(¬ (aM r:Int)<=c-> ∃w,mH hd k J t m c (p.length:Int) more=J (false,w)):=by
 intro r
 induction r with
 |nil=>
  grind [aw,mH,wm,ae,aM]
 |cons x r ih=>
  intro p m c h0 h1 h hm
  obtain ⟨m,rfl,hm'⟩:=aw hm
  obtain ⟨e1,e2,e3,e4⟩:=bM h (by omega)
  have hx:x∈t.sys:=by grind
  have hlx:=hl' x hx
  have:=ad7 (t:=t) hk J (mH hd k J t m) (v:=(p.length:Int)) (more:=more) (hQ x hx) hlx x.kids [] k c h0 h1 rfl (by omega)
  simp only [mH,wm,e1,al,e2,aV,aM,pm]
  obtain ⟨t1,t2⟩:=this
  rw [show (((([]:LT).length:Nat):Int))=0 from rfl] at t1 t2
  by_cases hs:(ax x.kids:Int)<=c
  ·obtain ⟨i1,i2⟩:=ih (p++[x]) m (c-ax x.kids) (by omega) (by omega) e4 hm'
   rw [t1 hs,e3]
   refine ⟨fun h=> ?_,fun h=>i2 (by omega)⟩
   rw [i1 (by omega),show c-(ax x.kids:Int)-(aM r:Int)=c-((ax x.kids+aM r:Nat):Int) by omega]
  ·exact ⟨fun h=>absurd (by omega) hs,fun _=>t2 hs⟩
theorem ad5 (hk:Fu k) (J:Bool×Int->OS S) (hQ: ∀y∈t.kids,vJ hd k y) (hQ': ∀b∈t.sys,∀y∈b.kids,vJ hd k y) (ht:OkT t):
  ∀ (r p:LT) (m:Nat) (c:Int),0<=c->c<4611686018427387904->t.kids=p++r->r.length<m->
  ∃w,sD hd k J t m c (p.length:Int)=J (decide (((ax r+aM t.sys:Nat):Int)<=c),w)/\(((ax r+aM t.sys:Nat):Int)<=c->w=c-((ax r+aM t.sys:Nat):Int)):=by
 obtain ⟨o1,o2,o3,o4,o5,o6,o7⟩:=ht.no
 intro r
 induction r with
 |nil=>
  intro p m c h0 h1 h hm
  obtain ⟨m,rfl,hm'⟩:=aw hm
  have hs: ∀more:Int,_:=fun more=>ad6 hk J (more:=more) hQ' o7 (fun b hb=>(ht.bi hb).1.2.2) t.sys [] k c h0 h1 rfl (by omega)
  have key: ∀more:Int,∃w,mH hd k J t k c 0 more=J (decide (((aM t.sys:Nat):Int)<=c),w)/\(((aM t.sys:Nat):Int)<=c->w=c-((aM t.sys:Nat):Int)):=fun more=>by
   by_cases hc:(aM t.sys:Int)<=c
   ·simp_all
   ·obtain ⟨w,e⟩:=(hs more).2 hc
    grind
  have hz:ax []+aM t.sys=aM t.sys:=by rw [ax,jd]
  rw [hz]
  simp only [sD,wl,eP h,ae]
  cases (t.kind==15) with
  |true=>exact key 1
  |false=>exact key 0
 |cons y r ih=>
  intro p m c h0 h1 h hm
  obtain ⟨m,rfl,hm'⟩:=aw hm
  obtain ⟨e1,e2,e3,e4⟩:=bM h (by omega)
  have hy:=hQ y (by grind)
  obtain ⟨w,hw,hw'⟩:=hy c (fun r1=>(fun r3:Bool×Int=>ac (!r3.1) (J (false,r3.2)) (sD hd k J t m r3.2 (((p++[y]).length:Nat):Int))) (r1.1,r1.2)) h0 h1
  have hz:ax (y::r)+aM t.sys=aA y+ax r+aM t.sys:=by rw [ax]
  rw [hz]
  simp only [sD,wl,e1,al,e2,aV,ap hk,mZ,xm,aO,e3]
  rw [hw]
  by_cases hs:(aA y:Int)<=c
  ·have:=hw' hs
   subst this
   obtain ⟨u,i1,i2⟩:=ih (p++[y]) m (c-aA y) (by omega) (by omega) e4 hm'
   grind [ae]
  grind [al,decide_eq_false]
end
theorem aiv (t:Tm):OkT t-> ∀ {k:Nat} (c:Int) (J:Bool×Int->OS S),Fd k (ah t)->0<=c->c<4611686018427387904->
  ∃w,kj k t c J=J (decide ((aA t:Int)-1<=c),w)/\((aA t:Int)-1<=c->w=c-((aA t:Int)-1)):=by
 induction t using jr with
 |h t ih1 ih2=>
  intro ht k c J hk h1 h2
  obtain ⟨q,rfl,hq,hf⟩:=hk.pos' (h_ t)
  have cnt: ∀y,(∀ {k:Nat} (c:Int) (J:Bool×Int->OS S),Fd k (ah y)->0<=c->c<4611686018427387904-> ∃w,kj k y c J=J (decide ((aA y:Int)-1<=c),w)/\((aA y:Int)-1<=c->w=c-((aA y:Int)-1)))->
    Fd q (ah y)->vJ (S:=S) (kj q) q y:=by
   intro y hy hfy c g h0 h1
   simp only [tT,aO,c5 (show-9223372036854775808<=c-1 by omega) (by omega),eJ]
   have:=po y
   by_cases hc:c-1>=0
   ·rw [if_pos hc]
    obtain ⟨w,e,e'⟩:=hy (c-1) (fun r1=>g (r1.1,r1.2)) hfy (by omega) (by omega)
    grind
   ·rw [if_neg hc]
    exact ⟨c-1,by grind,fun h=>by omega⟩
  obtain ⟨w,e,e'⟩:=ad5 hq J (fun y hy=>cnt y (fun c J=>ih1 y hy (ht.ki hy) c J) (hf _ (ga hy))) (fun b hb y hy=>cnt y (fun c J=>ih2 b hb y hy ((ht.bi hb).2 y hy) c J) (hf _ (gA hb hy))) ht t.kids [] q c h1 h2 rfl (by have:=ht.no.2.2.2.2.2.1;omega)
  grind [kj,JQ,DY]
theorem ai_ {t:Tm} (ht:OkT t) (hk:Fd k (ah t)) {most:Int} (h0:0<most) (h1:most<4611686018427387904) (J:Bool->OS S):B3 k t most J=J (decide ((aA t:Int)<=most)):=by
 simp only [B3,ap hk.fu,tT,aO,c5 (show-9223372036854775808<=most-1 by omega) (by omega),eJ]
 rw [if_pos (by omega)]
 obtain ⟨w,e,_⟩:=aiv t ht (most-1) (fun r1=>J (r1.1,r1.2).1) hk (by omega) (by omega)
 grind
def VW (vars dims:Int) (n:Nat):Prop:= -9223372036854775808<=vars/\vars<9223372036854775808/\0<=dims/\dims+n<4611686018427387904
section
variable {hd:Tm->Int->Int->Bool->(Bool->OS S)->OS S} {vars dims:Int} {bd:Bool} {t:Tm}
theorem RS (hv:VW vars dims 1) {v d:Int} (h1:0<=v/\v<=1) (h2:0<=d/\d<=1) (y:Tm) (g:Bool->OS S):xg hd k y v d vars dims bd g=hd y (af .i64 (cq vars v)) (dims+d) bd g:=by
 obtain ⟨v1,v2,v3,v4⟩:=hv
 simp only [xg,aO,eJ,c5 (show-9223372036854775808<=dims+d by omega) (by omega)]
 unfold cq
 split
 ·rw [dH]
 ·rfl
theorem ad4 (hk:Fu k) (J:Bool->OS S) (rec1:Int->Int->OS S) (hv:VW vars dims 1) {v more:Int} {x:Br Tm} (hm:more=aS t.kind) (hQ: ∀y∈x.kids,∀g,hd y vars (dims+more) bd g=g (aE bd vars (dims+more) y)) (hl:x.kids.length<1073741824):
  ∀ (r p:LT) (m:Nat),x.kids=p++r->r.length<m->ql hd k J rec1 vars dims bd t v x more m (p.length:Int)=if cQ bd vars dims t.kind r then rec1 (af .i64 (v+1)) more else J false:=by
 subst hm
 intro r
 induction r with
 |nil=>
  intro p m h hm
  obtain ⟨m,rfl,hm'⟩:=aw hm
  simp only [ql,AG,eP h,ae];rfl
 |cons y r ih=>
  intro p m h hm
  obtain ⟨m,rfl,hm'⟩:=aw hm
  obtain ⟨e1,e2,e3,e4⟩:=bM h (by omega)
  have hy:=hQ y (by grind)
  have h0:af .i64 (cq vars 0)=vars:=by rw [show cq vars 0=vars by grind [cq]];exact c5 hv.1 hv.2.1
  simp only [ql,AG,e1,al,e2,aV,ap hk,aO,RS hv (show (0:Int)<=0/\(0:Int)<=1 by omega) (iZ t.kind),h0,hy,e3,ih (p++[y]) m e4 hm',Sx]
  rw [cQ]
theorem ad3 (hk:Fu k) (J:Bool->OS S) (hv:VW vars dims 1) {more:Int} (hm:more=aS t.kind) (hQ: ∀b∈t.sys,∀y∈b.kids,∀g,hd y vars (dims+more) bd g=g (aE bd vars (dims+more) y)) (hl:t.sys.length<1073741824) (hl': ∀b∈t.sys,b.kids.length<1073741824):
  ∀ (r p:LB) (m:Nat),t.sys=p++r->r.length<m->mI hd k J vars dims bd t m (p.length:Int) more=J (aY bd vars dims t.kind r):=by
 intro r
 induction r with
 |nil=>
  grind [aw,mI,ww,ae,aY]
 |cons x r ih=>
  intro p m h hml
  obtain ⟨m,rfl,hm'⟩:=aw hml
  obtain ⟨e1,e2,e3,e4⟩:=bM h (by omega)
  have hx:x∈t.sys:=by grind
  have hlx:=hl' x hx
  have:=ad4 (t:=t) (bd:=bd) hk J (mI hd k J vars dims bd t m) hv (v:=(p.length:Int)) hm (hQ x hx) hlx x.kids [] k rfl (by omega)
  have this:ql hd k J (mI hd k J vars dims bd t m) vars dims bd t (p.length:Int) x more k 0=_:=this
  simp only [mI,ww,e1,al,e2,aV,this,e3,ih (p++[x]) m e4 hm']
  have ea:aY bd vars dims t.kind (x::r)=(cQ bd vars dims t.kind x.kids&&aY bd vars dims t.kind r):=by cases x;rfl
  grind
theorem ad2 (hk:Fu k) (J:Bool->OS S) (hv:VW vars dims 1) (hQ: ∀y∈t.kids,∀v d,0<=v/\v<=1->0<=d/\d<=1-> ∀g,hd y (af .i64 (cq vars v)) (dims+d) bd g=g (aE bd (cq vars v) (dims+d) y)) (hQ': ∀b∈t.sys,∀y∈b.kids,∀g,hd y vars (dims+aS t.kind) bd g=g (aE bd vars (dims+aS t.kind) y)) (ht:OkT t):
  ∀ (r p:LT) (m:Nat),t.kids=p++r->r.length<m->sE hd k J vars dims bd t m (p.length:Int)=J (bO bd vars dims t.kind p.length r&&aY bd vars dims t.kind t.sys):=by
 obtain ⟨o1,o2,o3,o4,o5,o6,o7⟩:=ht.no
 intro r
 induction r with
 |nil=>
  intro p m h hm
  obtain ⟨m,rfl,hm'⟩:=aw hm
  have hs:mI hd k J vars dims bd t k 0 (aS t.kind)=_:=ad3 hk J hv rfl hQ' o7 (fun b hb=>(ht.bi hb).1.2.2) t.sys [] k rfl (by omega)
  grind [sE,wq,bO,aS,kH]
 |cons y r ih=>
  intro p m h hm
  obtain ⟨m,rfl,hm'⟩:=aw hm
  obtain ⟨e1,e2,e3,e4⟩:=bM h (by omega)
  have b1:=pG t.kind p.length
  have b2:=iz t.kind p.length
  have hy:=hQ y (by grind) (b8 t.kind p.length) (bL t.kind p.length) b1 b2
  simp only [sE,wq,e1,al,e2,aV,ap hk,mZ,aO,RS hv b1 b2,hy,e3,ih (p++[y]) m e4 hm',Sy]
  grind [bO]
end
theorem zF (bd:Bool) (vars dims:Int) (t:Tm):aE bd vars dims t=(!(bd&&decide (dims>24))&&(dL vars dims t&&(bO bd vars dims t.kind 0 t.kids&&aY bd vars dims t.kind t.sys))):=by cases t;rfl
theorem akA {vars v:Int} (h:0<=v/\v<=1):vars<=cq vars v/\cq vars v<=vars+1:=by grind [cq]
theorem XV {bd:Bool} (t:Tm):OkT t-> ∀ {V W D:Int},W<0->9223372036854775808<=V->aE bd W D t=aE bd V D t:=by
 induction t using gi with
 |h kd n nm r ks sys ih1 ih2=>
  intro ht V W D hW hV
  have ho:=ht
  rw [OkT] at ht
  obtain ⟨o1,o2,o3,o4,o5,o6,o7⟩:=ht.1
  have hk: ∀ {l:LT} {i:Nat},(∀x∈l,OkT x-> ∀ {V W D:Int},W<0->9223372036854775808<=V->aE bd W D x=aE bd V D x)->aU l->bO bd W D kd i l=bO bd V D kd i l:=by
   intro l
   induction l with
   |nil=>intro i _ _;rw [bO,bO]
   |cons t l ih=>
    intro i h hl
    rw [aU] at hl
    have hb:=pG kd i
    rw [bO,bO,ih (fun x hx=>h x (by simp [hx])) hl.2,h t (by simp) hl.1 (W:=cq W (b8 kd i)) (V:=cq V (b8 kd i)) (by unfold cq;split<;>omega) (by unfold cq;split<;>omega)]
  have hm: ∀ {l:LT},(∀x∈l,OkT x-> ∀ {V W D:Int},W<0->9223372036854775808<=V->aE bd W D x=aE bd V D x)->aU l->cQ bd W D kd l=cQ bd V D kd l:=by
   intro l
   induction l with
   |nil=>intro _ _;rw [cQ,cQ]
   |cons t l ih=>
    intro h hl
    rw [aU] at hl
    rw [cQ,cQ,ih (fun x hx=>h x (by simp [hx])) hl.2,h t (by simp) hl.1 hW hV]
  have hs: ∀ {l:LB},(∀b∈l,∀x∈b.kids,OkT x-> ∀ {V W D:Int},W<0->9223372036854775808<=V->aE bd W D x=aE bd V D x)->a_ l->aY bd W D kd l=aY bd V D kd l:=by
   intro l
   induction l with
   |nil=>intro _ _;rw [aY,aY]
   |cons b l ih=>
    intro h hl
    obtain ⟨f,ks'⟩:=b
    rw [a_,gM] at hl
    rw [aY,aY,iQ,iQ,ih (fun b hb=>h b (by simp [hb])) hl.2,hm (l:=ks') (h ⟨f,ks'⟩ (by simp)) hl.1.2]
  have hw:dL W D (.mk kd n nm r ks sys)=dL V D (.mk kd n nm r ks sys):=by
   unfold dL
   have:decide (W<0\/n<W)=decide (V<0\/n<V):=by
    have hn:n<9223372036854775808:=by unfold aR at o2;omega
    rw [decide_eq_true (.inl hW),decide_eq_true (.inr (by omega))]
   dsimp only
   rw [this]
  rw [aE,aE,hw,hk ih1 ht.2.1,hs ih2 ht.2.2]
theorem RT (t:Tm):OkT t-> ∀ {k:Nat} {vars dims:Int} {bd:Bool} (J:Bool->OS S),Fd k (ah t)->VW vars dims (ah t)->kh k t vars dims bd J=J (aE bd vars dims t):=by
 induction t using jr with
 |h t ih1 ih2=>
  intro ht k vars dims bd J hk hv
  obtain ⟨q,rfl,hq,hf⟩:=hk.pos' (h_ t)
  have hp:=h_ t
  have hv':=hv
  unfold VW at hv'
  have hv1:VW vars dims 1:=by unfold VW;omega
  have hm:=iZ t.kind
  have hQ: ∀y∈t.kids,∀v d,0<=v/\v<=1->0<=d/\d<=1-> ∀g:Bool->OS S,kh q y (af .i64 (cq vars v)) (dims+d) bd g=g (aE bd (cq vars v) (dims+d) y):=fun y hy v d h1 h2 g=>by
   have hd:=ga hy
   have hvb:=akA (vars:=vars) h1
   by_cases hlt:cq vars v<9223372036854775808
   ·rw [c5 (by omega) hlt]
    exact ih1 y hy (ht.ki hy) g (hf _ (ga hy)) (by unfold VW;omega)
   ·have e:cq vars v=9223372036854775808:=by omega
    rw [e,show af .i64 9223372036854775808= -9223372036854775808 from by decide,ih1 y hy (ht.ki hy) g (hf _ (ga hy)) (by unfold VW;omega),XV y (ht.ki hy) (by omega) (eD _)]
  have hQ': ∀b∈t.sys,∀y∈b.kids,∀g:Bool->OS S,kh q y vars (dims+aS t.kind) bd g=g (aE bd vars (dims+aS t.kind) y):=fun b hb y hy g=>ih2 b hb y hy ((ht.bi hb).2 y hy) g (hf _ (gA hb hy)) (by
   have:=gA hb hy;unfold VW;omega)
  have:=ad2 (bd:=bd) hq J hv1 hQ hQ' ht t.kids [] q rfl (by have:=ht.no.2.2.2.2.2.1;omega)
  have this:sE (kh q) q J vars dims bd t q 0=_:=this
  simp only [kh,SQ,aO,ap hq,ai0 hq ht (show 0<=dims by omega) (show dims<9223372036854775808 by omega),B1,JR,this]
  rw [zF]
  cases bd with
  |true=>
   rw [al,eJ,Bool.true_and]
   by_cases h24:dims>24
   ·grind
   ·rw [if_neg h24,decide_eq_false h24]
    cases dL vars dims t<;>rfl
  |false=>
   rw [ae]
   cases dL vars dims t<;>rfl
def VD (vars dims:Int) (n:Nat):Prop:= -4611686018427387904<=vars/\vars+n<4611686018427387904/\0<=dims/\dims+n<4611686018427387904
theorem aio (t:Tm) (ht:OkT t) {k:Nat} {vars dims:Int} {bd:Bool} (J:Bool->OS S) (hk:Fd k (ah t)) (hv:VD vars dims (ah t)):kh k t vars dims bd J=J (aE bd vars dims t):=
 RT t ht J hk (by obtain ⟨v1,v2,v3,v4⟩:=hv;exact ⟨by omega,by omega,v3,v4⟩)
theorem Si {t:Tm} (ht:OkT t) (hk:Fd k (ah t)) (J:Int->OS S):xl k t J=J (if ah t>200 then 62 else if aA t>20000 then 221 else 0):=by
 simp only [xl,aO,ai9 t ht _ hk (show (-4611686018427387904:Int)<=200 by omega) (show (200:Int)<4611686018427387904 by omega),ap hk.fu,ai_ ht hk (show (0:Int)<20000 by omega) (show (20000:Int)<4611686018427387904 by omega)]
 by_cases h1:ah t>200
 ·rw [if_pos h1,decide_eq_false (by omega)];rfl
 ·rw [if_neg h1,decide_eq_true (by omega),dT,ae]
  by_cases h2:aA t>20000
  ·rw [if_pos h2,decide_eq_false (by omega)];rfl
  ·rw [if_neg h2,decide_eq_true (by omega)];rfl
theorem jo {t:Tm} (ht:OkT t) (hk:Fd k (ah t)) (hdep:ah t<1099511627776) (J:Int->OS S):j0 k t J=J (ck t):=by
 simp only [j0,aO,ap hk.fu,Si ht hk,aio t ht _ hk (show VD (-1) 24 (ah t) by unfold VD;omega),fc]
 unfold ck
 by_cases h1:ah t>200
 ·rw [if_pos h1,if_pos h1];rfl
 ·rw [if_neg h1,if_neg h1]
  by_cases h2:aA t>20000
  ·rw [if_pos h2,if_pos h2];rfl
  ·rw [if_neg h2,if_neg h2,decide_eq_true rfl,dT,ae]
   cases aE false (-1) 24 t<;>rfl
theorem Ld: ∀ {l:LT},(∀x∈l,ah x<=aA x)->az l<=ax l:=by
 intro l
 induction l<;>grind [az,ax]
theorem Zf: ∀ {l:LB},(∀b∈l,∀x∈b.kids,ah x<=aA x)->aN l<=aM l:=by
 intro l
 induction l<;>grind [aN,aM,xq,pm,Ld]
theorem Lg (t:Tm):ah t<=aA t:=by
 induction t using jr<;>grind [xt,DY,Ld,Zf]
section
variable {hd:Tm->(Int->OS S)->OS S} {t:Tm}
end
section
variable {hd:Tm->(Int->OS S)->OS S} {t:Tm}
end
section
variable {hd:Tm->Int->Int->Bool->(Bool->OS S)->OS S} {vars dims:Int} {bd:Bool} {t:Tm}
end
theorem M9 (d:Int) (l:LC) (h:l.length=0):a7 l d=true:=by
 grind [a7,mem_bitsN,B_,qO]
theorem aeF (hk:Fu k) (J:Bool->OS S) {l:LC} (hlen:l.length<2147483648):
  ∀ (r p:LC) (m:Nat),l=p++r->r.length<m->uE k J l l m (p.length:Int)=J true:=by
 intro r
 induction r with
 |nil=>
  grind [aw,uE,Av,ae]
 |cons x r ih=>
  intro p m h hm
  obtain ⟨m,rfl,hm'⟩:=aw hm
  obtain ⟨e1,e2,e3,e4⟩:=bM h (by omega)
  grind [uE,Av,al,ae]
theorem Sh (hk:Fu k) {l:LC} (hlen:l.length<2147483648) (J:Bool->OS S):xa k l l J=J true:=by
 simp only [xa,JH,beq_self_eq_true,dT,ae]
 exact aeF hk J hlen l [] k rfl (by omega)
section
variable {hd:Tm->Tm->(Bool->OS S)->OS S}
theorem aet (hk:Fu k) (J:Bool->OS S) {l:LT} (hlen:l.length<2147483648) (hQ: ∀y∈l,∀g,hd y y g=g true):
  ∀ (r p:LT) (m:Nat),l=p++r->r.length<m->uG hd k J l l m (p.length:Int)=J true:=by
 intro r
 induction r with
 |nil=>
  grind [aw,uG,Ay,ae]
 |cons x r ih=>
  intro p m h hm
  obtain ⟨m,rfl,hm'⟩:=aw hm
  obtain ⟨e1,e2,e3,e4⟩:=bM h (by omega)
  grind [uG,Ay,al,aO,ae]
theorem R_ (hk:Fu k) (J:Bool->OS S) {l:LT} (hlen:l.length<2147483648) (hQ: ∀y∈l,∀g,hd y y g=g true):xb hd k l l J=J true:=by
 simp only [xb,JK,beq_self_eq_true,dT,ae]
 exact aet hk J hlen hQ l [] k rfl (by omega)
theorem aeD (hk:Fu k) (J:Bool->OS S) {t:Tm} (ht:OkT t) (hQ: ∀b∈t.sys,∀y∈b.kids,∀g,hd y y g=g true):
  ∀ (r p:LB) (m:Nat),t.sys=p++r->r.length<m->uF hd k J t t m (p.length:Int)=J true:=by
 obtain ⟨o1,o2,o3,o4,o5,o6,o7⟩:=ht.no
 intro r
 induction r with
 |nil=>
  grind [aw,uF,Ax,ae]
 |cons x r ih=>
  intro p m h hm
  obtain ⟨m,rfl,hm'⟩:=aw hm
  obtain ⟨e1,e2,e3,e4⟩:=bM h (by omega)
  have hx:x∈t.sys:=by grind
  have hb:=(ht.bi hx).1
  simp only [uF,Ax,e1,al,e2,aV,ap hk,Sh hk (show x.face.length<2147483648 by omega),R_ hk _ (show x.kids.length<2147483648 by omega) (hQ x hx),e3,ih (p++[x]) m e4 hm',dT,ae]
end
theorem I1 (t:Tm):OkT t-> ∀ {k:Nat} (J:Bool->OS S),Fd k (ah t)->fP k t t J=J true:=by
 induction t using jr with
 |h t ih1 ih2=>
  intro ht k J hk
  obtain ⟨q,rfl,hq,hf⟩:=hk.pos' (h_ t)
  obtain ⟨o1,o2,o3,o4,o5,o6,o7⟩:=ht.no
  have hQ: ∀y∈t.kids,∀g:Bool->OS S,fP q y y g=g true:=fun y hy g=>ih1 y hy (ht.ki hy) g (hf _ (ga hy))
  have hQ': ∀b∈t.sys,∀y∈b.kids,∀g:Bool->OS S,fP q y y g=g true:=fun b hb y hy g=>ih2 b hb y hy ((ht.bi hb).2 y hy) g (hf _ (gA hb hy))
  have:=aeD hq J ht hQ' t.sys [] q rfl (by omega)
  grind [fP,KL,JJ,ae,ap,Sh,R_]
section
variable {hd:Tm->Int->(Int->OS S)->OS S} {t:Tm}
end
def pE {α:Type}:Except Int α->Pan Int α
 | .ok a=> .ok a
 | .error e=> .pan e
def eE {α β:Type} (x:Except Int α) (f:α->β) (g:Int->β):β:=match x with
 | .ok a=>f a
 | .error e=>g e
theorem mC {α β:Type} (x:Except Int α) (f:α->β) (g:Int->β):Pan.elim (pE x) f g=eE x f g:=by cases x<;>rfl
theorem dC {α β γ:Type} (x:Except Int α) (f:α->Except Int β) (u:β->γ) (w:Int->γ):eE (bE x f) u w=eE x (fun a=>eE (f a) u w) w:=by cases x<;>rfl
theorem dz {α β:Type} (a:α) (f:α->β) (g:Int->β):eE (.ok a) f g=f a:=rfl
theorem Rh {α:Type} (x:Except Int α) (J:Pan Int α->OS S):J (pE x)=eE x (fun a=>J (.ok a)) fun e=>J (.pan e):=by cases x<;>rfl
def noT:Tm:= .mk 0 0 au [] [] []
def tE:Except Int Tm->Tm×Int
 | .ok t=>(t,0)
 | .error e=>(noT,e)
theorem ic {α β:Type} {x:Except Int α} {f f':α->β} {g g':Int->β} (h: ∀a,x= .ok a->f a=f' a) (h': ∀e,x= .error e->g e=g' e):eE x f g=eE x f' g':=by
 cases x with
 |ok a=>exact h a rfl
 |error e=>exact h' e rfl
theorem Sa (hk:Fu k) {a b d:Int} {f:LC} (hf:av f) (hl:f.length<1073741824) (hd:aR d) (hb:aR b) (J:Pan Int (LC)->OS S):w6 k a b f d J=J (pE (eI d b f)):=by
 simp only [w6,ap hk,vq hk hf hl hd hb,fc,eJ,cX (show 0+f.length<=1099511627776 by omega)]
 unfold eI
 by_cases h0:b=0
 ·rw [if_pos h0,if_pos (.inl h0)];rfl
 ·rw [if_neg h0]
  by_cases h1:d>=24
  ·rw [if_pos h1,if_pos (.inr h1)];rfl
  ·rw [if_neg h1,if_neg (show ¬ (b=0\/d>=24) by omega)]
   by_cases h2:(cm f d b).2=0
   ·rw [decide_eq_true h2,qN h2];rfl
   ·rw [decide_eq_false h2,vC h2];rfl
section
variable {hd:Int->Int->Tm->Int->Int->(Pan Int Tm->OS S)->OS S} {vb db v d:Int} {t:Tm}
theorem aes (hk:Fu k) (J:Pan Int Tm->OS S) (rec2:LB->Int->Int->OS S) {r12 r2:LC} {b1 v90:Int} {ks:LT} {o:LB} {x:Br Tm} {more:Int} (hm:more=aS t.kind)
  (hd0:0<=d/\d<4611686018427387904) (hQ: ∀y∈x.kids,∀g,hd vb db y v (d+more) g=g (pE (dm vb db v (d+more) y))) (hl:x.kids.length<1073741824) (ho:o.length<1073741824):
  ∀ (r p:LT) (m:Nat) (acc:LT),x.kids=p++r->r.length<m->acc.length=p.length->
  qk hd k J rec2 r12 vb db t b1 r2 ks o x more v d v90 m acc (p.length:Int)=eE (iL vb db v d t.kind r) (fun l=>rec2 (o++[⟨r12,acc++l⟩]) more (af .i64 (v90+1))) fun e=>J (.pan e):=by
 subst hm
 have hmo:=iZ t.kind
 intro r
 induction r with
 |nil=>
  grind [aw,qk,Aq,ae,iL,dz,cX]
 |cons y r ih=>
  intro p m acc h hm ha
  obtain ⟨m,rfl,hm'⟩:=aw hm
  obtain ⟨e1,e2,e3,e4⟩:=bM h (by omega)
  have hpl:p.length<x.kids.length:=by grind
  have hy:=hQ y (by grind)
  simp only [qk,Aq,e1,al,e2,aV,aO,c5 (n:=d+aS t.kind) (by omega) (by omega),hy,mC,iL,dC,dz]
  refine ic (fun t' ht'=> ?_) fun e _=>rfl
  rw [cX (by grind),e3,ih (p++[y]) m (acc++[t']) e4 hm' (by grind)]
  simp
theorem aer (hk:Fu k) (J:Pan Int Tm->OS S) {r2:LC} {b1:Int} {ks:LT} {more:Int} (hm:more=aS t.kind) (ht:OkT t) (hdb:aR db) (hd0:0<=d/\d<4611686018427387904)
  (hQ: ∀b∈t.sys,∀y∈b.kids,∀g,hd vb db y v (d+more) g=g (pE (dm vb db v (d+more) y))):
  ∀ (r p:LB) (m:Nat) (o:LB),t.sys=p++r->r.length<m->o.length=p.length->
  mG hd k J vb db t b1 r2 ks v d m o more (p.length:Int)=eE (fI vb db v d t.kind r) (fun l=>J (.ok (.mk t.kind b1 t.name r2 ks (o++l)))) fun e=>J (.pan e):=by
 obtain ⟨o1,o2,o3,o4,o5,o6,o7⟩:=ht.no
 intro r
 induction r with
 |nil=>
  grind [aw,mG,wa,ae,fI,dz]
 |cons x r ih=>
  intro p m o h hml ho
  obtain ⟨m,rfl,hm'⟩:=aw hml
  obtain ⟨e1,e2,e3,e4⟩:=bM h (by omega)
  have hx:x∈t.sys:=by grind
  have hpl:p.length<t.sys.length:=by grind
  have hb:=(ht.bi hx).1
  have hrow:=Sa (S:=S) hk (a:=vb) hb.1 hb.2.1 (show aR d by unfold aR;omega) hdb
  have:=fun r12=>aes hk J (mG hd k J vb db t b1 r2 ks v d m) (r12:=r12) (r2:=r2) (b1:=b1) (v90:=(p.length:Int)) (ks:=ks) (o:=o) hm hd0 (hQ x hx) hb.2.2 (by omega) x.kids [] k [] rfl (by omega) rfl
  have this: ∀r12,qk hd k J (mG hd k J vb db t b1 r2 ks v d m) r12 vb db t b1 r2 ks o x more v d (p.length:Int) k [] 0=_:=this
  have hB:sO vb db v d t.kind x=bE (eI d db x.face) fun f'=>bE (iL vb db v d t.kind x.kids) fun ks'=> .ok (.mk f' ks'):=by cases x;rfl
  simp only [mG,wa,e1,al,e2,aV,ap hk,hrow,mC,this,fI,hB,dC,dz,fq,e3]
  refine ic (fun f' _=>ic (fun ks' _=> ?_) fun e _=>rfl) fun e _=>rfl
  rw [ih (p++[x]) m (o++[Br.mk f' ks']) e4 hm' (by grind)]
  simp
theorem aeq (hk:Fu k) (J:Pan Int Tm->OS S) {r2:LC} {b1:Int} (ht:OkT t) (hdb:aR db) (hd0:0<=d/\d<4611686018427387904) (hv0:0<=v/\v<4611686018427387904)
  (hQ: ∀y∈t.kids,∀a b,0<=a/\a<=1->0<=b/\b<=1-> ∀g,hd vb db y (v+a) (d+b) g=g (pE (dm vb db (v+a) (d+b) y))) (hQ': ∀b∈t.sys,∀y∈b.kids,∀g,hd vb db y v (d+aS t.kind) g=g (pE (dm vb db v (d+aS t.kind) y))):
  ∀ (r p:LT) (m:Nat) (acc:LT),t.kids=p++r->r.length<m->acc.length=p.length->
  oR hd k J vb db t b1 r2 v d m acc (p.length:Int)=eE (iJ vb db v d t.kind p.length r) (fun l=>eE (fI vb db v d t.kind t.sys) (fun s=>J (.ok (.mk t.kind b1 t.name r2 (acc++l) s))) fun e=>J (.pan e)) fun e=>J (.pan e):=by
 obtain ⟨o1,o2,o3,o4,o5,o6,o7⟩:=ht.no
 intro r
 induction r with
 |nil=>
  intro p m acc h hm ha
  obtain ⟨m,rfl,hm'⟩:=aw hm
  have hs:mG hd k J vb db t b1 r2 acc v d k [] (aS t.kind) 0=_:=aer hk J rfl ht hdb hd0 hQ' t.sys [] k [] rfl (by omega) rfl
  grind [oR,v_,iJ,dz,kH,aS]
 |cons y r ih=>
  intro p m acc h hm ha
  obtain ⟨m,rfl,hm'⟩:=aw hm
  obtain ⟨e1,e2,e3,e4⟩:=bM h (by omega)
  have hpl:p.length<t.kids.length:=by grind
  have b1':=pG t.kind p.length
  have b2':=iz t.kind p.length
  have hy:=hQ y (by grind) (b8 t.kind p.length) (bL t.kind p.length) b1' b2'
  simp only [oR,v_,e1,al,e2,aV,ap hk,mZ,aO,c5 (n:=v+b8 t.kind p.length) (by omega) (by omega),c5 (n:=d+bL t.kind p.length) (by omega) (by omega),hy,mC,iJ,dC,dz]
  refine ic (fun t' ht'=> ?_) fun e _=>rfl
  rw [cX (by grind),e3,ih (p++[y]) m (acc++[t']) e4 hm' (by grind),show (p++[y]).length=p.length+1 by simp]
  simp
end
theorem afa (vb db v d:Int) (t:Tm):dm vb db v d t=if t.kind=1/\t.n>=v/\t.n>1000000000-vb then .error 100 else bE (eI d db t.r) fun r'=>bE (iJ vb db v d t.kind 0 t.kids) fun ks'=>bE (fI vb db v d t.kind t.sys) fun sys'=> .ok (.mk t.kind (if t.kind=1/\t.n>=v then t.n+vb else t.n) t.name r' ks' sys'):=by cases t;rfl
theorem RowsT.no {t:Tm} (h:RowsT t):RF t.r/\(t.kind=1->t.r=[])/\0<=t.kind:=by cases t;rw [RowsT] at h;exact h.1
theorem RowsT.ki {t x:Tm} (h:RowsT t) (hx:x∈t.kids):RowsT x:=by cases t;rw [RowsT] at h;exact rowsK_iff.1 h.2.1 x hx
theorem RowsT.bi {t:Tm} {b:Br Tm} (h:RowsT t) (hb:b∈t.sys):RF b.face/\ ∀x∈b.kids,RowsT x:=by cases t;rw [RowsT] at h;exact rowsS_iff.1 h.2.2 b hb
def VP (v d:Int) (n:Nat):Prop:=0<=v/\v+n<4611686018427387904/\0<=d/\d+n<4611686018427387904
theorem DW {vb db:Int} (hvb:0<=vb/\vb<=1000000000) (hdb:aR db) (t:Tm):OkT t->RowsT t-> ∀ {k:Nat} {v d:Int} (J:Pan Int Tm->OS S),Fd k (ah t)->VP v d (ah t)->f_ k vb db t v d J=J (pE (dm vb db v d t)):=by
 induction t using jr with
 |h t ih1 ih2=>
  intro ht hro k v d J hk hv
  obtain ⟨q,rfl,hq,hf⟩:=hk.pos' (h_ t)
  obtain ⟨q',hq'⟩: ∃q',q=q'+1:=⟨q-1,by omega⟩
  have hp:=h_ t
  unfold VP at hv
  obtain ⟨o1,o2,o3,o4,o5,o6,o7⟩:=ht.no
  have hmo:=iZ t.kind
  have hQ: ∀y∈t.kids,∀a b,0<=a/\a<=1->0<=b/\b<=1-> ∀g:Pan Int Tm->OS S,f_ q vb db y (v+a) (d+b) g=g (pE (dm vb db (v+a) (d+b) y)):=fun y hy a b h1 h2 g=>
   ih1 y hy (ht.ki hy) (hro.ki hy) g (hf _ (ga hy)) (by have:=ga hy;unfold VP;omega)
  have hQ': ∀b∈t.sys,∀y∈b.kids,∀g:Pan Int Tm->OS S,f_ q vb db y v (d+aS t.kind) g=g (pE (dm vb db v (d+aS t.kind) y)):=fun b hb y hy g=>
   ih2 b hb y hy ((ht.bi hb).2 y hy) ((hro.bi hb).2 y hy) g (hf _ (gA hb hy)) (by have:=gA hb hy;unfold VP;omega)
  have h1:=fun r2 b1=>aeq (r2:=r2) (b1:=b1) hq J ht hdb (show 0<=d/\d<4611686018427387904 by omega) (show 0<=v/\v<4611686018427387904 by omega) hQ hQ' t.kids [] q [] rfl (by omega) rfl
  have h0: ∀r2 b1,xP (f_ q) q J vb db t r2 v d q b1=oR (f_ q) q J vb db t b1 r2 v d q [] 0:=by
   intro r2 b1
   have: ∀j,j=q'+1->xP (f_ q) q J vb db t r2 v d j b1=oR (f_ q) q J vb db t b1 r2 v d q [] 0:=by rintro j rfl;rfl
   grind
  have h2: ∀r2 b1,xP (f_ q) q J vb db t r2 v d q b1=_:=fun r2 b1=>(h0 r2 b1).trans (h1 r2 b1)
  have hrow:=Sa (S:=S) hq (a:=vb) o4 o5 (show aR d by unfold aR;omega) hdb
  simp only [f_,JF,ap hq,hrow,mC,h2,List.length_nil,fq]
  rw [Rh _ J,afa]
  unfold aR at o2
  by_cases hc:t.kind=1
  ·have hr:=hro.no.2.1 hc
   rw [hr,IE,dz,hc,show ((1:Int)==1)=true from rfl,al,eJ]
   by_cases hn:t.n>=v
   ·rw [if_pos hn,c5 (n:=1000000000-vb) (by omega) (by omega),eJ]
    by_cases hb:t.n>1000000000-vb
    ·rw [if_pos hb,if_pos (show (1:Int)=1/\t.n>=v/\t.n>1000000000-vb from ⟨rfl,hn,hb⟩)];rfl
    grind [dC,c5,dz]
   grind [dC,dz]
  ·have hc':(t.kind==1)=false:=by grind
   rw [hc',if_neg (show ¬ (t.kind=1/\t.n>=v/\t.n>1000000000-vb) from fun h=>hc h.1)]
   simp_all [ae,dC,dz]
section
variable {hd:Tm->Int->Int->Int->Int->(Tm->OS S)->OS S} {vb db v d:Int} {t:Tm}
theorem Ej {z:LC×Int} {α:Type} (f:LC->α) (g:Int->α):ac (!(z.2==0)) (g z.2) (f z.1)=eE (eM z) f g:=by
 rw [fc]
 unfold eM
 by_cases h:z.2=0
 ·rw [decide_eq_true h,if_pos h];rfl
 ·rw [decide_eq_false h,if_neg h];rfl
end
theorem iX {t:Tm} (h:ck t=0):ah t<=200/\aA t<=20000/\aE false (-1) 24 t=true:=by
 grind [ck]
theorem rM {t:Tm} (h1:ah t<=200) (h2:aA t<=20000) (h3:aE false (-1) 24 t=true):ck t=0:=by
 grind [ck]
theorem GL (t:Tm):0<=ck t/\ck t<=1000:=by
 grind [ck]
def Fm (t:Tm):Prop:=OkT t/\ck t=0
theorem Fm.ok {t:Tm} (h:Fm t):OkT t:=h.1
theorem Fm.rows {t:Tm} (h:Fm t):RowsT t:=XZ t h.1 (iX h.2).2.2
theorem Fm.dep {t:Tm} (h:Fm t):ah t<=200:=(iX h.2).1
theorem Fm.siz {t:Tm} (h:Fm t):aA t<=20000:=(iX h.2).2.1
theorem ku {vb db v d:Int} (hvb:0<=vb/\vb<=1000000000) {t t':Tm} (h:Fm t) (hl:dm vb db v d t= .ok t'):Fm t':=by
 obtain ⟨h1,h2,h3,h4⟩:=xU hvb.1 hvb.2 t v d t' hl
 obtain ⟨a,b,c⟩:=iX h.2
 have:=h4 h.1
 exact ⟨this.1,rM (by omega) (by omega) (this.2.2 24 24 (by omega) (by omega) c)⟩
abbrev F3 (k:Nat):Prop:=4294968296<=k
theorem F3.fu (h:F3 k):Fu k:=by omega
theorem F3.fd (h:F3 k) {n:Nat} (hn:n<=1000):Fd k n:=by omega
theorem Fm.fd {t:Tm} (h:Fm t) (hk:F3 k):Fd k (ah t):=hk.fd (by have:=h.dep;omega)
theorem Fm.vp {t:Tm} (h:Fm t) {v d:Int} (hv:0<=v/\v<=4611686018427380000) (hd:0<=d/\d<=4611686018427380000):VP v d (ah t):=by have:=h.dep;unfold VP;omega
theorem mh (x:Except Int Tm) (J:Tm×Int->OS S):J (tE x)=eE x (fun t=>J (t,0)) fun e=>J (noT,e):=by cases x<;>rfl
theorem aei (hk:Fu k) (J:Tm×Int->OS S) {c0 c2:Int} {c1:Tm} {ns:List Int} (hl:ns.length<1000) (hn: ∀x∈ns,0<=x):
  ∀ (r p:List Int) (m:Nat),ns=p++r->r.length<m->rZ k J c0 c1 c2 ns m (p.length:Int)=BN k c0 c1 c2 fun r4=>Pan.elim r4 (fun r4=>J (r4,0)) fun e5=>J (noT,e5):=by
 intro r
 induction r with
 |nil=>
  intro p m h hm
  obtain ⟨m,rfl,hm'⟩:=aw hm
  simp only [rZ,An,eP h,ae,ap hk,aO];rfl
 |cons x r ih=>
  intro p m h hm
  obtain ⟨m,rfl,hm'⟩:=aw hm
  obtain ⟨e1,e2,e3,e4⟩:=bM h (by omega)
  have hx:=hn x (by grind)
  grind [rZ,An,eJ]
theorem R9 (hk:F3 k) {t:Tm} (ht:Fm t) {f b:Int} (hf:0<=f/\f<=24) (hb:0<=b/\b<9223372036854775808) (J:Tm×Int->OS S):ox k t f b J=J (tE (dm 0 b 0 f t)):=by
 have hl:=aei hk.fu J (c0:=b) (c2:=f) (c1:=t) (ns:=[f,b]) (by simp) (by grind) [f,b] [] k rfl (by grind)
 have hl:rZ k J b t f [f,b] k 0=_:=hl
 simp only [ox,ap hk.fu,aO,BP,Eb,jo ht.ok (ht.fd hk) (show ah t<1099511627776 by have:=ht.dep;omega),ht.2,hl,BN]
 rw [show ((0:Int)==0)=true from rfl,dT,ae,if_neg (by omega),DW (by omega) (by unfold aR;omega) t ht.ok ht.rows _ (ht.fd hk) (ht.vp (by omega) (by omega)),mC,mh _ J]
 rfl
def ep (vb db:Int) (t:Tm):Except Int Tm:=bE (dm vb 0 0 0 t) (dm 0 db 0 0)
theorem pA {vb db:Int} (hvb:0<=vb/\vb<=1000000000) {t t':Tm} (h:Fm t) (hl:ep vb db t= .ok t'):Fm t':=by
 obtain ⟨a,h1,h2⟩:=ar hl
 exact ku (by omega) (ku hvb h h1) h2
theorem na {vb db:Int} {t:Tm} {e:Int} (h:ep vb db t= .error e):0<e/\e<=1000:=by
 rcases cS h with h|⟨a,_,h⟩
 ·exact oZ t h
 ·exact oZ a h
theorem aej (hk:Fu k) (J:Tm×Int->OS S) {c0 c1:Int} {c2:Tm} {ns:List Int} (hl:ns.length<1000) (hn: ∀x∈ns,0<=x):
  ∀ (r p:List Int) (m:Nat),ns=p++r->r.length<m->sh k J c0 c1 c2 ns m (p.length:Int)=BM k c0 c1 c2 fun r4=>Pan.elim r4 (fun r4=>J (r4,0)) fun e5=>J (noT,e5):=by
 intro r
 induction r with
 |nil=>
  intro p m h hm
  obtain ⟨m,rfl,hm'⟩:=aw hm
  simp only [sh,Ap,eP h,ae,ap hk,aO];rfl
 |cons x r ih=>
  intro p m h hm
  obtain ⟨m,rfl,hm'⟩:=aw hm
  obtain ⟨e1,e2,e3,e4⟩:=bM h (by omega)
  have hx:=hn x (by grind)
  grind [sh,Ap,eJ]
theorem IY (hk:F3 k) {t:Tm} (ht:Fm t) {vb db:Int} (hvb:0<=vb/\vb<=1000000) (hdb:0<=db/\db<9223372036854775808) (J:Tm×Int->OS S):pM k t vb db J=J (tE (ep vb db t)):=by
 have hl:=aej hk.fu J (c0:=db) (c1:=vb) (c2:=t) (ns:=[vb,db,1000000-vb]) (by simp) (by grind) [vb,db,1000000-vb] [] k rfl (by grind)
 have hl:sh k J db vb t [vb,db,1000000-vb] k 0=_:=hl
 simp only [pM,ap hk.fu,aO,c5 (n:=1000000-vb) (by omega) (by omega),BR,Ed,jo ht.ok (ht.fd hk) (show ah t<1099511627776 by have:=ht.dep;omega),ht.2,hl,BM]
 rw [show ((0:Int)==0)=true from rfl,dT,ae,DW (show 0<=vb/\vb<=1000000000 by omega) (show aR 0 by unfold aR;omega) t ht.ok ht.rows _ (ht.fd hk) (ht.vp (by omega) (by omega)),mC,mh _ J]
 unfold ep
 rw [dC]
 refine ic (fun y hy=> ?_) fun _ _=>rfl
 have hy':=ku (show 0<=vb/\vb<=1000000000 by omega) ht hy
 rw [DW (show (0:Int)<=0/\(0:Int)<=1000000000 by omega) (show aR db by unfold aR;omega) y hy'.ok hy'.rows _ (hy'.fd hk) (hy'.vp (by omega) (by omega)),mC]
 rfl
def bZ (i:Int) (r:LC) (fa:Bool):gN:=fun d f=>if iY (nA f) (i+d) then bE (eM (cm r 0 d)) fun s=>eM (if fa then me f (i+d) s else mf f (i+d) s) else .ok f
theorem Li (f:LC):U32 (nA f):=by
 have:=Lj f
 exact ⟨Int.natCast_nonneg _,by show ((nC f:Nat):Int)<_;omega⟩
theorem OX {f r:LC} {i:Int} (hr:av r) (h:(mf f i r).2=0):RF (mf f i r).1:=by
 grind [mf,Mb,OU,mY,ja]
theorem HG (f g:LC):EN (jK f g).2:=uR _
theorem CH (f g:LC):EN (jG f g).2:=uR _
theorem afy (f g:LC):EN (o8 f g).2:=uR _
theorem Ox (f:LC):EN (ij f).2:=Cz fun h c=>HG _ _
theorem agH (i:Int) (r:LC) (c:Cl):EN (kx i r c).2:=by
 grind [kx,HG,xB]
theorem agJ (i:Int) (r:LC) (c:Cl) (g:LC):EN (mT i r c g).2:=by
 grind [mT,HG,Ox,xB]
theorem agG (i:Int) (r h:LC) (c:Cl):EN (nT i r h c).2:=by
 grind [nT,CH,agJ,agH]
theorem agO (f:LC) (i:Int) (r:LC):EN (mf f i r).2:=by
 grind [mf,Cz,agG,oE]
theorem afM (f:LC):EN (mR f).2:=by
 unfold mR
 split
 ·exact uR _
 ·exact oE
theorem afN (f:LC):EN (nQ f).2:=by
 unfold nQ
 split
 ·split
  ·exact uR _
  ·exact Ox _
 ·exact oE
theorem agM {i:Int} {c:Cl} {h:LC} {q:LC×Int} (hq:EN q.2):EN (lu i c h q).2:=by
 grind [lu,CH,afy]
theorem agN (f:LC) (i:Int) (r:LC):EN (me f i r).2:=by
 grind [me,Cz,jL,agM,afM,afN,CH,oE]
theorem yX {i:Int} {r:LC} {fa:Bool} {d:Int} {f g:LC} (hf:RF f) (h:bZ i r fa d f= .ok g):RF g:=by
 unfold bZ at h
 split at h
 ·obtain ⟨s,h1,h⟩:=ar h
  obtain ⟨h0,rfl⟩:=j7 h1
  have hs:=lj h0
  obtain ⟨h2,rfl⟩:=j7 h
  cases fa with
  |true=>exact (OW hf.2 hs.2 h2).1
  |false=>exact OX hs.2 h2
 grind
theorem Rq {i:Int} {r:LC} {fa:Bool} {d:Int} {f:LC} {e:Int} (h:bZ i r fa d f= .error e):0<e/\e<=1000:=by
 grind [bZ,cS,Ei,CV,EN,agN,agO]
theorem Rr {i:Int} {r:LC} {fa:Bool} {d:Int}:bZ i r fa d []= .ok []:=by
 grind [bZ,iY,nA,ir,B_,qO]
def qC (i:Int) (r:LC) (fa:Bool) (d:Int) (f:LC):LC×Int:=if iY (nA f) (i+d) then if (cm r 0 d).2=0 then if fa then me f (i+d) (cm r 0 d).1 else mf f (i+d) (cm r 0 d).1 else ([],(cm r 0 d).2) else (f,0)
theorem JZ (i:Int) (r:LC) (fa:Bool) (d:Int) (f:LC):eM (qC i r fa d f)=bZ i r fa d f:=by
 grind [qC,bZ,qN,bP,vC,zL]
section
variable {i d:Int} {r f:LC}
theorem Sg (hk:Fu k) (hf:RF f) (hr:RF r) (hi:0<=i/\i<24) (hd:0<=d/\d<4611686018427387000) (J:LC×Int->OS S):wR k f d i r J=J (qC i r true d f):=by
 have l1:=hf.len;have l2:=hr.len
 simp only [wR,ap hk,c5 (n:=i+d) (by omega) (by omega),IW hk hf.2 (show f.length<4294967296 by omega),ti hk (Li f),wQ,cX (show 0+f.length<=1099511627776 by omega),vq hk hr.2 (show r.length<1073741824 by omega) (show aR 0 by unfold aR;omega) (show aR d by unfold aR;omega)]
 unfold qC
 cases iY (nA f) (i+d) with
 |false=>rfl
 |true=>
  rw [dT,ae,fc,if_pos rfl]
  by_cases h0:(cm r 0 d).2=0
  ·have hs:=lj h0
   rw [decide_eq_true h0,dT,ae,aiF hk hf.2 hs.2 hf.lt hs.lt,if_pos h0,if_pos rfl]
  grind [al]
theorem ai5 (hk:Fu k) (hf:RF f) (hr:RF r) (hi:0<=i/\i<24) (hd:0<=d/\d<4611686018427387000) (J:LC×Int->OS S):Bc k f d i r J=J (qC i r false d f):=by
 have l1:=hf.len;have l2:=hr.len
 simp only [Bc,ap hk,c5 (n:=i+d) (by omega) (by omega),IW hk hf.2 (show f.length<4294967296 by omega),ti hk (Li f),wQ,cX (show 0+f.length<=1099511627776 by omega),vq hk hr.2 (show r.length<1073741824 by omega) (show aR 0 by unfold aR;omega) (show aR d by unfold aR;omega)]
 unfold qC
 cases iY (nA f) (i+d) with
 |false=>rfl
 |true=>
  rw [dT,ae,fc,if_pos rfl]
  by_cases h0:(cm r 0 d).2=0
  ·have hs:=lj h0
   rw [decide_eq_true h0,dT,ae,aiA hk hf.2 hs.2 hf.lt hs.lt,if_pos h0,if_neg (by decide)]
  grind [al]
end
def my (j:Int) (c:Cl):Cl:=⟨pV c.pos j,pV c.neg j⟩
def cD (j:Int) (f:LC):LC:=(du (f.map (my j))).1
theorem Lk (s j:Int):0<=pV s j/\pV s j<16777216:=by
 have:=Zh s.toNat j
 exact ⟨Int.natCast_nonneg _,by show ((pU s.toNat j:Nat):Int)<_;omega⟩
theorem K7 (j:Int) (c:Cl):RC (my j c):=⟨Lk _ _,Lk _ _⟩
theorem wL (j:Int) (f:LC): ∀c∈f.map (my j),RC c:=fun c hc=>by
 grind [K7]
theorem A1 {j:Int} {f:LC} (hf:f.length<=64):du (f.map (my j))=(cD j f,0):=Prod.ext rfl (He (wL j f) (by grind))
theorem FP {j:Int} {f:LC} (hf:f.length<=64):RF (cD j f):=uS (fun c hc=>(wL j f c hc).ok) (by rw [A1 hf])
theorem afE: ∀ (n:Nat) {l:LC} {c:Cl},(l.filter fun d=>jf c d&& !decide (d=c)).length<=n->(∀d∈l,RC d)->c∈l-> ∃d∈l,eX l d=true:=by
 have hle: ∀ {a b:Cl},RC a->RC b->(jf a b=true↔(∀j,b.pos.toNat.testBit j=true->a.pos.toNat.testBit j=true)/\ ∀j,b.neg.toNat.testBit j=true->a.neg.toNat.testBit j=true):=by
  intro a b ha hb
  unfold jf jJ
  rw [decide_eq_true_eq]
  have hor: ∀ {x y:Int},0<=x->(lr x y=x↔ ∀j,y.toNat.testBit j=true->x.toNat.testBit j=true):=by
   intro x y hx
   unfold lr
   constructor
   ·intro h j hj
    have:(x.toNat|||y.toNat)=x.toNat:=by omega
    grind
   ·intro h
    have:(x.toNat|||y.toNat)=x.toNat:=by
     apply Nat.eq_of_testBit_eq
     grind
    omega
  cases a with
  |mk p q=>
   have h1:0<=p:=ha.1.1
   have h2:0<=q:=ha.2.1
   grind
 have hanti: ∀ {a b:Cl},RC a->RC b->jf a b=true->jf b a=true->a=b:=by
  intro a b ha hb h1 h2
  have e1:=(hle ha hb).1 h1
  have e2:=(hle hb ha).1 h2
  have hx: ∀ {x y:Int},0<=x->0<=y->(∀j,y.toNat.testBit j=true->x.toNat.testBit j=true)->(∀j,x.toNat.testBit j=true->y.toNat.testBit j=true)->x=y:=by
   intro x y hx hy a b
   have:x.toNat=y.toNat:=by
    apply Nat.eq_of_testBit_eq
    grind
   omega
  cases a;cases b
  have p1:=hx ha.1.1 hb.1.1 e1.1 e2.1
  have p2:=hx ha.2.1 hb.2.1 e1.2 e2.2
  grind
 intro n
 induction n with
 |zero=>
  grind [eX,List.filter_eq_nil_iff]
 |succ n ih=>
  intro l c hn hl hc
  by_cases h:eX l c=true
  ·grind
  ·unfold eX at h
   rw [d7] at h
   have: ∃d∈l,¬ ((decide (d=c)|| !jf c d)=true):=Classical.byContradiction fun hh=>h fun d hd=>Classical.byContradiction fun h2=>hh ⟨d,hd,h2⟩
   obtain ⟨d,hd,hd'⟩:=this
   have h1:d≠c:=fun h=>hd' (by grind)
   have h2:jf c d=true:=by
    grind
   refine ih (c:=d) ?_ hl hd
   have hsub:(l.filter fun e=>jf d e&& !decide (e=d)).length<(l.filter fun e=>jf c e&& !decide (e=c)).length:=by
    have hc':=hl c hc;have hdr:=hl d hd
    have himp: ∀e∈l,(jf d e&& !decide (e=d))=true->(jf c e&& !decide (e=c))=true:=by
     grind
    have hle2: ∀ (p q:Cl->Bool) (m:LC),(∀e∈m,p e=true->q e=true)->(m.filter p).length<=(m.filter q).length:=by
     intro p q m
     induction m<;>grind
    have hlt: ∀ (p q:Cl->Bool) (m:LC),(∀e∈m,p e=true->q e=true)->d∈m->p d=false->q d=true->(m.filter p).length<(m.filter q).length:=by
     intro p q m
     induction m with
     |nil=>simp
     |cons e m im=>
      intro hm hdm hp hq
      have hrest: ∀e∈m,p e=true->q e=true:=fun e he=>hm e (by simp [he])
      have hb:=hle2 p q m hrest
      rcases eb.1 hdm with rfl|hdm<;>grind
    exact hlt _ _ l himp hd (by simp) (by grind)
   omega
theorem Y_ {j:Int} {f:LC} (hf:RF f):(cD j f).length=0↔f.length=0:=by
 have h:=A1 (j:=j) hf.len
 have hm:=(xS h).1
 constructor
 ·intro h0
  apply Classical.byContradiction
  intro hne
  obtain ⟨c,hc⟩:=List.exists_mem_of_length_pos (l:=f.map (my j)) (by grind)
  obtain ⟨d,hd,hn⟩:=afE _ (eh _) (wL j f) hc
  have:d∈cD j f:=by grind [mem_mins]
  grind
 ·intro h0
  have:=List.length_eq_zero_iff.1 h0
  subst this;rfl
theorem ad1 (hk:Fu k) (J:LC×Int->OS S) {i d:Int} (hi:0<=i/\i<24) (hd:0<=d/\d<4611686018427387000) {f:LC} (hf:av f) (hlen:f.length<1073741824):
  ∀ (r p:LC) (m:Nat) (o:LC),f=p++r->r.length<m->av o->o.length=p.length->uh k J i d f m (p.length:Int) o=J (du (o++r.map (my (i+d)))):=by
 intro r
 induction r with
 |nil=>
  intro p m o h hm hok ho
  obtain ⟨m,rfl,hm'⟩:=aw hm
  grind [uh,zO,ae,ap,nZ]
 |cons x r ih=>
  intro p m o h hm hok ho
  obtain ⟨m,rfl,hm'⟩:=aw hm
  obtain ⟨e1,e2,e3,e4⟩:=bM h (by omega)
  have hx:cO x:=hf x (by grind)
  have hpl:p.length<f.length:=by grind
  simp only [uh,zO,e1,al,e2,aV,ap hk,c5 (n:=i+d) (by omega) (by omega),RN hk hx.1,RN hk hx.2,e3]
  rw [cX (by grind)]
  have:=ih (p++[x]) m (o++[my (i+d) x]) e4 hm' (nR hok fun c hc=>by simp at hc;subst hc;exact (K7 _ _).ok) (by grind)
  refine aq this ?_
  simp
theorem R4 (hk:Fu k) {i d:Int} (hi:0<=i/\i<24) (hd:0<=d/\d<4611686018427387000) {f:LC} (hf:RF f) (J:LC×Int->OS S):tC k f d i J=J (cD (i+d) f,0):=by
 have l1:=hf.len
 have:=ad1 hk J hi hd hf.2 (by omega) f [] k [] rfl (by omega) (fun c hc=>by cases hc) rfl
 grind [tC,Jd,A1]
theorem Ke (fo fa:gN) (d:Int) (t:Tm):b7 fo fa d t=bE (if t.kind=14 then fa d t.r else fo d t.r) fun r'=>bE (dq fo fa d t.kind 0 t.kids) fun ks'=>bE (cr fo fa d t.kind t.sys) fun sys'=> .ok (.mk t.kind t.n t.name r' ks' sys'):=by cases t;rfl
theorem akI {fo fa:gN} {d:Int} {x y:Tm} (h:b7 fo fa d x= .ok y):y.kind=x.kind:=by
 rw [Ke] at h
 obtain ⟨_,_,h⟩:=ar h
 obtain ⟨_,_,h⟩:=ar h
 obtain ⟨_,_,h⟩:=ar h
 injection h with h;subst h;rfl
theorem Kd (fo fa:gN) (d kd:Int) (b:Br Tm):jP fo fa d kd b=bE (fa d b.face) fun f'=>if f'.length=0 then .ok [] else bE (dB fo fa d kd b.kids) fun ks'=> .ok [.mk f' ks']:=by cases b;rfl
section
variable {fo fa:gN} (hfo: ∀d f e,fo d f= .error e->0<e/\e<=1000) (hfa: ∀d f e,fa d f= .error e->0<e/\e<=1000)
include hfo hfa
theorem qQ (t:Tm): ∀ {d e},b7 fo fa d t= .error e->0<e/\e<=1000:=by
 induction t using gi with
 |h kd n nm r ks sys ih1 ih2=>
  intro d e h
  rw [b7] at h
  rcases cS h with h|⟨_,_,h⟩
  ·grind
  have hkids: ∀ {l:LT} {i:Nat},(∀x∈l,∀ {d e},b7 fo fa d x= .error e->0<e/\e<=1000)->dq fo fa d kd i l= .error e->0<e/\e<=1000:=by
   intro l
   induction l with
   |nil=>grind [dq]
   |cons t l ih=>
    intro i hl h
    rw [dq] at h
    rcases cS h with h|⟨_,_,h⟩
    ·exact hl t (by simp) h
    grind [cS]
  have hmore: ∀ {l:LT},(∀x∈l,∀ {d e},b7 fo fa d x= .error e->0<e/\e<=1000)-> ∀ {e},dB fo fa d kd l= .error e->0<e/\e<=1000:=by
   intro l
   induction l with
   |nil=>grind [dB]
   |cons t l ih=>
    intro hl e h
    rw [dB] at h
    rcases cS h with h|⟨_,_,h⟩
    ·grind
    ·rcases cS h with h|⟨_,_,h⟩
     ·exact ih (fun x hx=>hl x (by simp [hx])) h
     simp_all
  have hsys: ∀ {l:LB},(∀b∈l,∀x∈b.kids,∀ {d e},b7 fo fa d x= .error e->0<e/\e<=1000)->cr fo fa d kd l= .error e->0<e/\e<=1000:=by
   intro l
   induction l<;>grind [cr,cS,Kd]
  grind [cS]
theorem S9 {kd d:Int}: ∀ {l:LT} {i:Nat} {e:Int},dq fo fa d kd i l= .error e->0<e/\e<=1000:=by
 intro l
 induction l with
 |nil=>grind [dq]
 |cons t l ih=>
  intro i e h
  rw [dq] at h
  rcases cS h with h|⟨_,_,h⟩
  ·exact qQ hfo hfa t h
  grind [cS]
theorem S_ {kd d:Int}: ∀ {l:LT} {e:Int},dB fo fa d kd l= .error e->0<e/\e<=1000:=by
 intro l
 induction l<;>grind [dB,cS,qQ]
end
theorem zg {α β:Type} (x:Except Int Tm) (hx: ∀e,x= .error e->0<e/\e<=1000) (f:Tm->α) (g:Int->α):(fun r:Tm×Int=>ac (!(r.2==0)) (g r.2) (f r.1)) (tE x)=eE x f g:=by
 cases x with
 |ok t=>rfl
 |error e=>
  have:=(hx e rfl).1
  show ac (!(e==0)) (g e) (f noT)=g e
  grind [decide_eq_false,al]
theorem Dd {α β γ:Type} (x:Except Int α) (hx: ∀e,x= .error e->0<e/\e<=1000) (z:α) (f:α->β) (g:Int->β):eE x (fun l=>(fun r:α×Int=>ac (!(r.2==0)) (g r.2) (f r.1)) (l,0)) (fun e=>(fun r:α×Int=>ac (!(r.2==0)) (g r.2) (f r.1)) (z,e))=eE x f g:=by
 cases x with
 |ok t=>rfl
 |error e=>
  have:=(hx e rfl).1
  show ac (!(e==0)) (g e) (f z)=g e
  grind [decide_eq_false,al]
theorem qr {G:Int->LC->LC}: ∀d f e,aW G d f= .error e->0<e/\e<=1000:=fun d f e h=>by cases h
theorem nX {i:Int} {r:LC} {fa:Bool}: ∀d f e,bZ i r fa d f= .error e->0<e/\e<=1000:=fun d f e h=>Rq h
section
variable {hd:Tm->Int->Int->LC->(Tm×Int->OS S)->OS S} {i d:Int} {t:Tm} {r:LC}
theorem agT (hk:Fu k) (hi:0<=i/\i<24) (hr:RF r) (hd0:0<=d/\d<4611686018427386000) (hro:RowsT t) (J:LC×Int->OS S): ∃z:LC×Int,eM z=(if t.kind=14 then (bZ i r true) d t.r else (bZ i r false) d t.r)/\Bd k t d i r J=J z:=by
 have hr0:=hro.no.1
 simp only [Bd,ap hk,Sg hk hr0 hr hi (show 0<=d/\d<4611686018427387000 by omega),ai5 hk hr0 hr hi (show 0<=d/\d<4611686018427387000 by omega)]
 by_cases h:t.kind=14
 ·rw [h,if_pos rfl,show ((14:Int)==14)=true from rfl,al]
  grind [JZ]
 ·rw [if_neg h,show (t.kind==14)=false from by grind,ae]
  grind [JZ]
theorem agQ (hk:Fu k) (J:LT×Int->OS S) (hd0:0<=d/\d<4611686018427386000) (hQ: ∀y∈t.kids,∀b,0<=b/\b<=1-> ∀g,hd y (d+b) i r g=g (tE (b7 (bZ i r false) (bZ i r true) (d+b) y))) (hl:t.kids.length<1073741824):
  ∀ (r' p:LT) (m:Nat) (acc:LT),t.kids=p++r'->r'.length<m->acc.length=p.length->
  qf hd k J i r t t.kids d m acc (p.length:Int)=eE (dq (bZ i r false) (bZ i r true) d t.kind p.length r') (fun l=>J (acc++l,0)) fun e=>J ([],e):=by
 intro r'
 induction r' with
 |nil=>
  grind [aw,qf,zS,ae,dq,dz]
 |cons y r' ih=>
  intro p m acc h hm ha
  obtain ⟨m,rfl,hm'⟩:=aw hm
  obtain ⟨e1,e2,e3,e4⟩:=bM h (by omega)
  have hpl:p.length<t.kids.length:=by grind
  have b2':=iz t.kind p.length
  have hy:=hQ y (by grind) (bL t.kind p.length) b2'
  simp only [qf,zS,e1,al,e2,aV,ap hk,wS,mZ,aO,c5 (n:=d+bL t.kind p.length) (by omega) (by omega),hy]
  refine aq (zg (β:=Unit) _ (fun e he=>qQ nX nX y he) (fun z=>ag (bQ 1099511627776 acc.length [z].length) fun _=>qf hd k J i r t t.kids d m (acc++[z]) (af .i64 ((p.length:Int)+1))) fun e=>J ([],e)) ?_
  simp only [dq,dC,dz]
  refine ic (fun t' ht'=> ?_) fun e _=>rfl
  rw [cX (by grind),e3,ih (p++[y]) m (acc++[t']) e4 hm' (by grind),show (p++[y]).length=p.length+1 by simp]
  simp
theorem agR (hk:Fu k) (J:LT×Int->OS S) {x:Br Tm} {kd:Int} (hd0:0<=d/\d<4611686018427386000) (hQ: ∀y∈x.kids,∀g,hd y (d+aS kd) i r g=g (tE (b7 (bZ i r false) (bZ i r true) (d+aS kd) y))) (hl:x.kids.length<1073741824):
  ∀ (r' p:LT) (m:Nat) (acc:LT),x.kids=p++r'->r'.length<m->acc.length=p.length->
  qe hd k J i r (aS kd) x.kids d m acc (p.length:Int)=eE (dB (bZ i r false) (bZ i r true) d kd r') (fun l=>J (acc++l,0)) fun e=>J ([],e):=by
 have hmo:=iZ kd
 intro r'
 induction r' with
 |nil=>
  grind [aw,qe,zR,ae,dB,dz]
 |cons y r' ih=>
  intro p m acc h hm ha
  obtain ⟨m,rfl,hm'⟩:=aw hm
  obtain ⟨e1,e2,e3,e4⟩:=bM h (by omega)
  have hpl:p.length<x.kids.length:=by grind
  have hy:=hQ y (by grind)
  simp only [qe,zR,e1,al,e2,aV,ap hk,wT,aO,c5 (n:=d+aS kd) (by omega) (by omega),hy]
  refine aq (zg (β:=Unit) _ (fun e he=>qQ nX nX y he) (fun z=>ag (bQ 1099511627776 acc.length [z].length) fun _=>qe hd k J i r (aS kd) x.kids d m (acc++[z]) (af .i64 ((p.length:Int)+1))) fun e=>J ([],e)) ?_
  simp only [dB,dC,dz]
  refine ic (fun t' ht'=> ?_) fun e _=>rfl
  rw [cX (by grind),e3,ih (p++[y]) m (acc++[t']) e4 hm' (by grind)]
  simp
theorem agS (hk:Fu k) (J:Tm×Int->OS S) (hi:0<=i/\i<24) (hr:RF r) (hd0:0<=d/\d<4611686018427386000) {r1:LC×Int} {r2:LT×Int} (ht:OkT t) (hro:RowsT t) (hQ: ∀b∈t.sys,∀y∈b.kids,∀g,hd y (d+aS t.kind) i r g=g (tE (b7 (bZ i r false) (bZ i r true) (d+aS t.kind) y))):
  ∀ (r' p:LB) (m:Nat) (o:LB),t.sys=p++r'->r'.length<m->o.length<=p.length->
  lh hd k J i r t r1 r2 d m (aS t.kind) o (p.length:Int)=eE (cr (bZ i r false) (bZ i r true) d t.kind r') (fun s=>J (.mk t.kind t.n t.name r1.1 r2.1 (o++s),0)) fun e=>J (noT,e):=by
 obtain ⟨o1,o2,o3,o4,o5,o6,o7⟩:=ht.no
 intro r'
 induction r' with
 |nil=>
  grind [aw,lh,zT,ae,cr,dz]
 |cons x r' ih=>
  intro p m o h hml ho
  obtain ⟨m,rfl,hm'⟩:=aw hml
  obtain ⟨e1,e2,e3,e4⟩:=bM h (by omega)
  have hx:x∈t.sys:=by grind
  have hpl:p.length<t.sys.length:=by grind
  have hb:=(ht.bi hx).1
  have hr0:=(hro.bi hx).1
  have hM:=fun g:LT×Int->OS S=>agR (kd:=t.kind) hk g hd0 (hQ x hx) hb.2.2 x.kids [] k [] rfl (by omega) rfl
  have hM: ∀g:LT×Int->OS S,qe hd k g i r (aS t.kind) x.kids d k [] 0=_:=hM
  simp only [lh,zT,e1,al,e2,aV,ap hk,Sg hk hr0 hr hi (show 0<=d/\d<4611686018427387000 by omega),FX,Jg,hM,e3,fq]
  have hin:=fun f':LC=>Dd (β:=OS S) (γ:=Unit) (dB (bZ i r false) (bZ i r true) d t.kind x.kids) (fun e he=>S_ nX nX he) [] (fun l=>ag (bQ 1099511627776 o.length [Br.mk f' l].length) fun _=>lh hd k J i r t r1 r2 d m (aS t.kind) (o++[Br.mk f' l]) (((p++[x]).length:Nat):Int)) fun e=>J (noT,e)
  refine aq (Ej (z:=(qC i r true d x.face)) (fun f'=>ac (((f'.length:Nat):Int)==0) (lh hd k J i r t r1 r2 d m (aS t.kind) o (((p++[x]).length:Nat):Int)) (eE (dB (bZ i r false) (bZ i r true) d t.kind x.kids) (fun l=>(fun r5:LT×Int=>ac (!(r5.2==0)) (J (noT,r5.2)) (ag (bQ 1099511627776 o.length [Br.mk f' r5.1].length) fun _=>lh hd k J i r t r1 r2 d m (aS t.kind) (o++[Br.mk f' r5.1]) (((p++[x]).length:Nat):Int))) (l,0)) fun e=>(fun r5:LT×Int=>ac (!(r5.2==0)) (J (noT,r5.2)) (ag (bQ 1099511627776 o.length [Br.mk f' r5.1].length) fun _=>lh hd k J i r t r1 r2 d m (aS t.kind) (o++[Br.mk f' r5.1]) (((p++[x]).length:Nat):Int))) ([],e))) fun e=>J (noT,e)) ?_
  rw [show eM (qC i r true d x.face)=(bZ i r true) d x.face from JZ _ _ _ _ _]
  rw [cr,Kd,dC,dC]
  refine ic (fun f' hf'=> ?_) fun e _=>rfl
  rw [CU,eJ]
  by_cases h0:f'.length=0
  ·rw [if_pos h0,if_pos h0,dz,dC,ih (p++[x]) m o e4 hm' (by grind)]
   rfl
  ·rw [if_neg h0,if_neg h0,hin f',dC]
   refine ic (fun l hl=> ?_) fun e _=>rfl
   rw [dz,dC,cX (by grind),ih (p++[x]) m (o++[Br.mk f' l]) e4 hm' (by grind)]
   grind [dz]
end
theorem agU {i:Int} {r:LC} (hi:0<=i/\i<24) (hr:RF r) (t:Tm):OkT t->RowsT t-> ∀ {k:Nat} {d:Int} (J:Tm×Int->OS S),Fd k (ah t)->0<=d->d+ah t<4611686018427386000->iW k t d i r J=J (tE (b7 (bZ i r false) (bZ i r true) d t)):=by
 induction t using jr with
 |h t ih1 ih2=>
  intro ht hro k d J hk hv hv'
  obtain ⟨q,rfl,hq,hf⟩:=hk.pos' (h_ t)
  have hp:=h_ t
  have hd0:0<=d/\d<4611686018427386000:=by omega
  obtain ⟨o1,o2,o3,o4,o5,o6,o7⟩:=ht.no
  have hmo:=iZ t.kind
  have hQ: ∀y∈t.kids,∀b,0<=b/\b<=1-> ∀g:Tm×Int->OS S,iW q y (d+b) i r g=g (tE (b7 (bZ i r false) (bZ i r true) (d+b) y)):=fun y hy b h2 g=>
   ih1 y hy (ht.ki hy) (hro.ki hy) g (hf _ (ga hy)) (by omega) (by have:=ga hy;omega)
  have hQ': ∀b∈t.sys,∀y∈b.kids,∀g:Tm×Int->OS S,iW q y (d+aS t.kind) i r g=g (tE (b7 (bZ i r false) (bZ i r true) (d+aS t.kind) y)):=fun b hb y hy g=>
   ih2 b hb y hy ((ht.bi hb).2 y hy) ((hro.bi hb).2 y hy) g (hf _ (gA hb hy)) (by omega) (by have:=gA hb hy;omega)
  have hK: ∀g:LT×Int->OS S,qf (iW q) q g i r t t.kids d q [] 0=_:=fun g=>agQ hq g hd0 hQ o6 t.kids [] q [] rfl (by omega) rfl
  have hS:=fun (r1:LC×Int) (r2:LT×Int)=>agS (r1:=r1) (r2:=r2) hq J hi hr hd0 ht hro hQ' t.sys [] q [] rfl (by omega) (eh _)
  have hS: ∀ (r1:LC×Int) (r2:LT×Int),lh (iW q) q J i r t r1 r2 d q (aS t.kind) [] 0=_:=hS
  have hcase: ∀ (r1:LC×Int) (r2:LT×Int),ac (t.kind==15) (lh (iW q) q J i r t r1 r2 d q 1 [] 0) (lh (iW q) q J i r t r1 r2 d q 0 [] 0)=eE (cr (bZ i r false) (bZ i r true) d t.kind t.sys) (fun s=>J (.mk t.kind t.n t.name r1.1 r2.1 s,0)) fun e=>J (noT,e):=by
   grind [kH,aS]
  obtain ⟨z,hz,hrow⟩:=agT hq hi hr hd0 hro (fun r1=>ac (!(r1.2==0)) (J (noT,r1.2)) (eE (dq (bZ i r false) (bZ i r true) d t.kind 0 t.kids) (fun l=>(fun r2:LT×Int=>ac (!(r2.2==0)) (J (noT,r2.2)) (eE (cr (bZ i r false) (bZ i r true) d t.kind t.sys) (fun s=>J (.mk t.kind t.n t.name r1.1 r2.1 s,0)) fun e=>J (noT,e))) (l,0)) fun e=>(fun r2:LT×Int=>ac (!(r2.2==0)) (J (noT,r2.2)) (eE (cr (bZ i r false) (bZ i r true) d t.kind t.sys) (fun s=>J (.mk t.kind t.n t.name r1.1 r2.1 s,0)) fun e=>J (noT,e))) ([],e)))
  simp only [iW,Ji,ap hq,aO,FY,Jh,hK,hcase,fq,List.length_nil]
  refine aq hrow ?_
  rw [mh _ J,Ke,<-hz]
  refine aq (Ej (z:=z) (fun r'=>eE (dq (bZ i r false) (bZ i r true) d t.kind 0 t.kids) (fun l=>(fun r2:LT×Int=>ac (!(r2.2==0)) (J (noT,r2.2)) (eE (cr (bZ i r false) (bZ i r true) d t.kind t.sys) (fun s=>J (.mk t.kind t.n t.name r' r2.1 s,0)) fun e=>J (noT,e))) (l,0)) fun e=>(fun r2:LT×Int=>ac (!(r2.2==0)) (J (noT,r2.2)) (eE (cr (bZ i r false) (bZ i r true) d t.kind t.sys) (fun s=>J (.mk t.kind t.n t.name r' r2.1 s,0)) fun e=>J (noT,e))) ([],e)) fun e=>J (noT,e)) ?_
  rw [dC]
  refine ic (fun r' _=> ?_) fun e _=>rfl
  refine aq (Dd (β:=OS S) (γ:=Unit) (dq (bZ i r false) (bZ i r true) d t.kind 0 t.kids) (fun e he=>S9 nX nX he) [] (fun l=>eE (cr (bZ i r false) (bZ i r true) d t.kind t.sys) (fun s=>J (.mk t.kind t.n t.name r' l s,0)) fun e=>J (noT,e)) fun e=>J (noT,e)) ?_
  simp only [dC,dz]
section
variable {hd:Tm->Int->Int->(Tm×Int->OS S)->OS S} {i d:Int} {t:Tm}
theorem Zl (hk:Fu k) (hi:0<=i/\i<24) (hd0:0<=d/\d<4611686018427386000) (hro:RowsT t) (J:LC×Int->OS S): ∃z:LC×Int,eM z=(if t.kind=14 then (aW fun d f=>cD (i+d) f) d t.r else (aW fun d f=>cD (i+d) f) d t.r)/\Be k t d i J=J z:=by
 have hr0:=hro.no.1
 simp only [Be,ap hk,R4 hk hi (show 0<=d/\d<4611686018427387000 by omega) hr0]
 by_cases h:t.kind=14
 ·rw [h,if_pos rfl,show ((14:Int)==14)=true from rfl,al]
  exact ⟨_,rfl,rfl⟩
 ·rw [if_neg h,show (t.kind==14)=false from by grind,ae]
  exact ⟨_,rfl,rfl⟩
theorem Zi (hk:Fu k) (J:LT×Int->OS S) (hd0:0<=d/\d<4611686018427386000) (hQ: ∀y∈t.kids,∀b,0<=b/\b<=1-> ∀g,hd y (d+b) i g=g (tE (b7 (aW fun d f=>cD (i+d) f) (aW fun d f=>cD (i+d) f) (d+b) y))) (hl:t.kids.length<1073741824):
  ∀ (r' p:LT) (m:Nat) (acc:LT),t.kids=p++r'->r'.length<m->acc.length=p.length->
  qc hd k J i t t.kids d m acc (p.length:Int)=eE (dq (aW fun d f=>cD (i+d) f) (aW fun d f=>cD (i+d) f) d t.kind p.length r') (fun l=>J (acc++l,0)) fun e=>J ([],e):=by
 intro r'
 induction r' with
 |nil=>
  grind [aw,qc,zQ,ae,dq,dz]
 |cons y r' ih=>
  intro p m acc h hm ha
  obtain ⟨m,rfl,hm'⟩:=aw hm
  obtain ⟨e1,e2,e3,e4⟩:=bM h (by omega)
  have hpl:p.length<t.kids.length:=by grind
  have b2':=iz t.kind p.length
  have hy:=hQ y (by grind) (bL t.kind p.length) b2'
  simp only [qc,zQ,e1,al,e2,aV,ap hk,wS,mZ,aO,c5 (n:=d+bL t.kind p.length) (by omega) (by omega),hy]
  refine aq (zg (β:=Unit) _ (fun e he=>qQ qr qr y he) (fun z=>ag (bQ 1099511627776 acc.length [z].length) fun _=>qc hd k J i t t.kids d m (acc++[z]) (af .i64 ((p.length:Int)+1))) fun e=>J ([],e)) ?_
  simp only [dq,dC,dz]
  refine ic (fun t' ht'=> ?_) fun e _=>rfl
  rw [cX (by grind),e3,ih (p++[y]) m (acc++[t']) e4 hm' (by grind),show (p++[y]).length=p.length+1 by simp]
  simp
theorem Zj (hk:Fu k) (J:LT×Int->OS S) {x:Br Tm} {kd:Int} (hd0:0<=d/\d<4611686018427386000) (hQ: ∀y∈x.kids,∀g,hd y (d+aS kd) i g=g (tE (b7 (aW fun d f=>cD (i+d) f) (aW fun d f=>cD (i+d) f) (d+aS kd) y))) (hl:x.kids.length<1073741824):
  ∀ (r' p:LT) (m:Nat) (acc:LT),x.kids=p++r'->r'.length<m->acc.length=p.length->
  qb hd k J i (aS kd) x.kids d m acc (p.length:Int)=eE (dB (aW fun d f=>cD (i+d) f) (aW fun d f=>cD (i+d) f) d kd r') (fun l=>J (acc++l,0)) fun e=>J ([],e):=by
 have hmo:=iZ kd
 intro r'
 induction r' with
 |nil=>
  grind [aw,qb,zP,ae,dB,dz]
 |cons y r' ih=>
  intro p m acc h hm ha
  obtain ⟨m,rfl,hm'⟩:=aw hm
  obtain ⟨e1,e2,e3,e4⟩:=bM h (by omega)
  have hpl:p.length<x.kids.length:=by grind
  have hy:=hQ y (by grind)
  simp only [qb,zP,e1,al,e2,aV,ap hk,wT,aO,c5 (n:=d+aS kd) (by omega) (by omega),hy]
  refine aq (zg (β:=Unit) _ (fun e he=>qQ qr qr y he) (fun z=>ag (bQ 1099511627776 acc.length [z].length) fun _=>qb hd k J i (aS kd) x.kids d m (acc++[z]) (af .i64 ((p.length:Int)+1))) fun e=>J ([],e)) ?_
  simp only [dB,dC,dz]
  refine ic (fun t' ht'=> ?_) fun e _=>rfl
  rw [cX (by grind),e3,ih (p++[y]) m (acc++[t']) e4 hm' (by grind)]
  simp
theorem Zk (hk:Fu k) (J:Tm×Int->OS S) (hi:0<=i/\i<24) (hd0:0<=d/\d<4611686018427386000) {r1:LC×Int} {r2:LT×Int} (ht:OkT t) (hro:RowsT t) (hQ: ∀b∈t.sys,∀y∈b.kids,∀g,hd y (d+aS t.kind) i g=g (tE (b7 (aW fun d f=>cD (i+d) f) (aW fun d f=>cD (i+d) f) (d+aS t.kind) y))):
  ∀ (r' p:LB) (m:Nat) (o:LB),t.sys=p++r'->r'.length<m->o.length<=p.length->
  li hd k J i t r1 r2 d m (aS t.kind) o (p.length:Int)=eE (cr (aW fun d f=>cD (i+d) f) (aW fun d f=>cD (i+d) f) d t.kind r') (fun s=>J (.mk t.kind t.n t.name r1.1 r2.1 (o++s),0)) fun e=>J (noT,e):=by
 obtain ⟨o1,o2,o3,o4,o5,o6,o7⟩:=ht.no
 intro r'
 induction r' with
 |nil=>
  grind [aw,li,zU,ae,cr,dz]
 |cons x r' ih=>
  intro p m o h hml ho
  obtain ⟨m,rfl,hm'⟩:=aw hml
  obtain ⟨e1,e2,e3,e4⟩:=bM h (by omega)
  have hx:x∈t.sys:=by grind
  have hpl:p.length<t.sys.length:=by grind
  have hb:=(ht.bi hx).1
  have hr0:=(hro.bi hx).1
  have hM:=fun g:LT×Int->OS S=>Zj (kd:=t.kind) hk g hd0 (hQ x hx) hb.2.2 x.kids [] k [] rfl (by omega) rfl
  have hM: ∀g:LT×Int->OS S,qb hd k g i (aS t.kind) x.kids d k [] 0=_:=hM
  simp only [li,zU,e1,al,e2,aV,ap hk,R4 hk hi (show 0<=d/\d<4611686018427387000 by omega) hr0,FV,Je,hM,e3,fq]
  have hin:=fun f':LC=>Dd (β:=OS S) (γ:=Unit) (dB (aW fun d f=>cD (i+d) f) (aW fun d f=>cD (i+d) f) d t.kind x.kids) (fun e he=>S_ qr qr he) [] (fun l=>ag (bQ 1099511627776 o.length [Br.mk f' l].length) fun _=>li hd k J i t r1 r2 d m (aS t.kind) (o++[Br.mk f' l]) (((p++[x]).length:Nat):Int)) fun e=>J (noT,e)
  refine aq (Ej (z:=(cD (i+d) x.face,(0:Int))) (fun f'=>ac (((f'.length:Nat):Int)==0) (li hd k J i t r1 r2 d m (aS t.kind) o (((p++[x]).length:Nat):Int)) (eE (dB (aW fun d f=>cD (i+d) f) (aW fun d f=>cD (i+d) f) d t.kind x.kids) (fun l=>(fun r5:LT×Int=>ac (!(r5.2==0)) (J (noT,r5.2)) (ag (bQ 1099511627776 o.length [Br.mk f' r5.1].length) fun _=>li hd k J i t r1 r2 d m (aS t.kind) (o++[Br.mk f' r5.1]) (((p++[x]).length:Nat):Int))) (l,0)) fun e=>(fun r5:LT×Int=>ac (!(r5.2==0)) (J (noT,r5.2)) (ag (bQ 1099511627776 o.length [Br.mk f' r5.1].length) fun _=>li hd k J i t r1 r2 d m (aS t.kind) (o++[Br.mk f' r5.1]) (((p++[x]).length:Nat):Int))) ([],e))) fun e=>J (noT,e)) ?_
  rw [show eM (cD (i+d) x.face,(0:Int))=(aW fun d f=>cD (i+d) f) d x.face from rfl]
  rw [cr,Kd,dC,dC]
  refine ic (fun f' hf'=> ?_) fun e _=>rfl
  rw [CU,eJ]
  by_cases h0:f'.length=0
  ·rw [if_pos h0,if_pos h0,dz,dC,ih (p++[x]) m o e4 hm' (by grind)]
   rfl
  ·rw [if_neg h0,if_neg h0,hin f',dC]
   refine ic (fun l hl=> ?_) fun e _=>rfl
   rw [dz,dC,cX (by grind),ih (p++[x]) m (o++[Br.mk f' l]) e4 hm' (by grind)]
   grind [dz]
end
theorem Zm {i:Int} (hi:0<=i/\i<24) (t:Tm):OkT t->RowsT t-> ∀ {k:Nat} {d:Int} (J:Tm×Int->OS S),Fd k (ah t)->0<=d->d+ah t<4611686018427386000->iE k t d i J=J (tE (b7 (aW fun d f=>cD (i+d) f) (aW fun d f=>cD (i+d) f) d t)):=by
 induction t using jr with
 |h t ih1 ih2=>
  intro ht hro k d J hk hv hv'
  obtain ⟨q,rfl,hq,hf⟩:=hk.pos' (h_ t)
  have hp:=h_ t
  have hd0:0<=d/\d<4611686018427386000:=by omega
  obtain ⟨o1,o2,o3,o4,o5,o6,o7⟩:=ht.no
  have hmo:=iZ t.kind
  have hQ: ∀y∈t.kids,∀b,0<=b/\b<=1-> ∀g:Tm×Int->OS S,iE q y (d+b) i g=g (tE (b7 (aW fun d f=>cD (i+d) f) (aW fun d f=>cD (i+d) f) (d+b) y)):=fun y hy b h2 g=>
   ih1 y hy (ht.ki hy) (hro.ki hy) g (hf _ (ga hy)) (by omega) (by have:=ga hy;omega)
  have hQ': ∀b∈t.sys,∀y∈b.kids,∀g:Tm×Int->OS S,iE q y (d+aS t.kind) i g=g (tE (b7 (aW fun d f=>cD (i+d) f) (aW fun d f=>cD (i+d) f) (d+aS t.kind) y)):=fun b hb y hy g=>
   ih2 b hb y hy ((ht.bi hb).2 y hy) ((hro.bi hb).2 y hy) g (hf _ (gA hb hy)) (by omega) (by have:=gA hb hy;omega)
  have hK: ∀g:LT×Int->OS S,qc (iE q) q g i t t.kids d q [] 0=_:=fun g=>Zi hq g hd0 hQ o6 t.kids [] q [] rfl (by omega) rfl
  have hS:=fun (r1:LC×Int) (r2:LT×Int)=>Zk (r1:=r1) (r2:=r2) hq J hi hd0 ht hro hQ' t.sys [] q [] rfl (by omega) (eh _)
  have hS: ∀ (r1:LC×Int) (r2:LT×Int),li (iE q) q J i t r1 r2 d q (aS t.kind) [] 0=_:=hS
  have hcase: ∀ (r1:LC×Int) (r2:LT×Int),ac (t.kind==15) (li (iE q) q J i t r1 r2 d q 1 [] 0) (li (iE q) q J i t r1 r2 d q 0 [] 0)=eE (cr (aW fun d f=>cD (i+d) f) (aW fun d f=>cD (i+d) f) d t.kind t.sys) (fun s=>J (.mk t.kind t.n t.name r1.1 r2.1 s,0)) fun e=>J (noT,e):=by
   grind [kH,aS]
  obtain ⟨z,hz,hrow⟩:=Zl hq hi hd0 hro (fun r1=>ac (!(r1.2==0)) (J (noT,r1.2)) (eE (dq (aW fun d f=>cD (i+d) f) (aW fun d f=>cD (i+d) f) d t.kind 0 t.kids) (fun l=>(fun r2:LT×Int=>ac (!(r2.2==0)) (J (noT,r2.2)) (eE (cr (aW fun d f=>cD (i+d) f) (aW fun d f=>cD (i+d) f) d t.kind t.sys) (fun s=>J (.mk t.kind t.n t.name r1.1 r2.1 s,0)) fun e=>J (noT,e))) (l,0)) fun e=>(fun r2:LT×Int=>ac (!(r2.2==0)) (J (noT,r2.2)) (eE (cr (aW fun d f=>cD (i+d) f) (aW fun d f=>cD (i+d) f) d t.kind t.sys) (fun s=>J (.mk t.kind t.n t.name r1.1 r2.1 s,0)) fun e=>J (noT,e))) ([],e)))
  simp only [iE,Jj,ap hq,aO,FW,Jf,hK,hcase,fq,List.length_nil]
  refine aq hrow ?_
  rw [mh _ J,Ke,<-hz]
  refine aq (Ej (z:=z) (fun r'=>eE (dq (aW fun d f=>cD (i+d) f) (aW fun d f=>cD (i+d) f) d t.kind 0 t.kids) (fun l=>(fun r2:LT×Int=>ac (!(r2.2==0)) (J (noT,r2.2)) (eE (cr (aW fun d f=>cD (i+d) f) (aW fun d f=>cD (i+d) f) d t.kind t.sys) (fun s=>J (.mk t.kind t.n t.name r' r2.1 s,0)) fun e=>J (noT,e))) (l,0)) fun e=>(fun r2:LT×Int=>ac (!(r2.2==0)) (J (noT,r2.2)) (eE (cr (aW fun d f=>cD (i+d) f) (aW fun d f=>cD (i+d) f) d t.kind t.sys) (fun s=>J (.mk t.kind t.n t.name r' r2.1 s,0)) fun e=>J (noT,e))) ([],e)) fun e=>J (noT,e)) ?_
  rw [dC]
  refine ic (fun r' _=> ?_) fun e _=>rfl
  refine aq (Dd (β:=OS S) (γ:=Unit) (dq (aW fun d f=>cD (i+d) f) (aW fun d f=>cD (i+d) f) d t.kind 0 t.kids) (fun e he=>S9 qr qr he) [] (fun l=>eE (cr (aW fun d f=>cD (i+d) f) (aW fun d f=>cD (i+d) f) d t.kind t.sys) (fun s=>J (.mk t.kind t.n t.name r' l s,0)) fun e=>J (noT,e)) fun e=>J (noT,e)) ?_
  simp only [dC,dz]
end Go.Proofs.YtgajalidbabccaaGreatDoor
