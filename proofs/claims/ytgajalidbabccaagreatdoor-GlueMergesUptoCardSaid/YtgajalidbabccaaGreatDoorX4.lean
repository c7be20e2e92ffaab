/- Part 4 of a proof: the sources, with their names and remarks, lie in wip/. -/
import Derived.Test.YtgajalidbabccaaGreatDoorX3
open Bool renaming and_eq_true→aF,eq_iff_iff→jK,not_false→dQ,not_true→cF,true_and→hX
open ByteArray renaming empty→av
open Eq renaming trans→aj
open Go.IntKind renaming wrap→ag
open Int renaming toNat_natCast→gb
open List renaming all_eq_true→dI,append_nil→eU,nil_append→eo
open Nat renaming eq_of_testBit_eq→h8,zero_add→fh
open Option renaming bind_some→aI
set_option linter.unusedVariables false
set_option linter.unusedSimpArgs false
namespace Go.Proofs.YtgajalidbabccaaGreatDoor
open Go PI _root_.Go.Proofs.Tryz
set_option maxRecDepth 100000
noncomputable section
variable {S:Type} {o:Obj} (k:Nat)
def C3:Rw S:=ah Ng xn fun l Z=>ab k (rO k l) (bD Z)
def EJ:Fx S:=fp 15 [(140,qW k)] [(2,ce [5,6,7] [],aA 4 5)] k f141 0
def O6 (l:List (List Cl)) (v7:Int):St UU:=⟨[(5,(Ds l .none)),(6,(iI l.length)),(7,(iI v7))],[],[],[]⟩
section
variable (k:Nat) (l:List (List Cl)) (Z:Out UU->Option S)
theorem Zv: ∀n v7,(EJ k).lp Z 2 [] n (O6 l v7)=sV k (bD Z) l n v7:=eK (ze k (bD Z) l)
end
theorem Gg (ho:ai o):Tl o 141 (C3 k:Rw S):=am (EJ k) ⟨sr k ho,trivial⟩ func141 fun l Z x h=>aj (b:=Jq k (bD Z) (fun v7=>(EJ k).lp Z 2 [] k (O6 l v7)) l) (by kernel_rfl) (aj (by simp only [Zv];rfl) (bv h))
def C4:Rw S:=ah cn xn fun Z=>ab k (rM k) (ai2 Z)
def WZ:Fx S:=fx 1 (fun _=>[]) (fun _=>false) [] [] k f143 false [true] 0
theorem Gi (ho:ai o):Tl o 143 (C4 k:Rw S):=am (WZ k) trivial func143 fun Z x h=>au h
def Ii:Rw S:=ah jx xn fun i Z=>ab k (rS k i) (d3 Z)
def W4:Fx S:=fp 9 [] [] k f244 0
theorem Mi (ho:ai o):Tl o 244 (Ii k:Rw S):=am (W4 k) trivial func244 fun i Z x h=>au h
def R7:Rw S:=ah Nh xn fun s a_from a_by Z=>ab k (oa k s a_from a_by) (xV Z)
def W5:Fx S:=fp 46 [(244,Ii k)] [] k f225 0
theorem ac1 (ho:ai o):Tl o 225 (R7 k:Rw S):=am (W5 k) ⟨Mi k ho,trivial⟩ func225 fun s a_from a_by Z x h=>au h
def R8:Rw S:=ah Ni xn fun c a_from a_by Z=>ab k (An k c a_from a_by) (P1 Z)
def W6:Fx S:=fp 42 [(224,HV k),(225,R7 k)] [] k f145 0
theorem ac2 (ho:ai o):Tl o 145 (R8 k:Rw S):=am (W6 k) ⟨LY k ho,ac1 k ho,trivial⟩ func145 fun c a_from a_by Z x h=>au h
def R9:Rw S:=ah aeW DM fun a_have c c0 c1 Z=>ab k (FB k a_have c c0 c1) (ai3 c0 c1 Z)
def W7:Fx S:=fx 22 (fun _=>[]) (fun _=>false) [(145,R8 k)] [] k f144 false [true,false] 2
theorem ac3 (ho:ai o):Tl o 144 (R9 k:Rw S):=am (W7 k) ⟨ac2 k ho,trivial⟩ func144 fun a_have c c0 c1 Z x h=>au h
def R_:Rw S:=ah aeX DM fun l a_from c0 c1 Z=>ab k (AD k l a_from c0 c1) (Cv c0 c1 Z)
def EK:Fx S:=fx 33 (fun|23=>[true,false]|_=>[]) (fun _=>false) [(144,R9 k)] [(2,⟨[(1,ar 100001),(2,aa),(13,aa),(14,aa),(15,aa)],[(1000000,[aa]),(1000001,[aa])]⟩,aA 4 5)] k f142 false [] 2
def O7 (c0 c1:Int) (l:List Cl) (v1:List Cl) (v15:Int):St UU:=⟨[(1,(.own 100001 0)),(2,(.func 144 [] [(pt 1000000),(pt 1000001)])),(13,(sC l)),(14,(iI l.length)),(15,(iI v15))],[(1000000,bI c0),(1000001,bI c1)],[(100001,⟨0,ET.C,v1⟩)],[(100001,.wr)]⟩
section
variable (k:Nat) (l a_from:List Cl) (c0 c1:Int) (Z:Out UU->Option S)
theorem Zw: ∀n v1 v15,(EK k).lp Z 2 [] n (O7 c0 c1 l v1 v15)=sS k (Cv c0 c1 Z) c0 c1 l n v1 v15:=bw (zb k (Cv c0 c1 Z) c0 c1 l)
end
theorem ac4 (ho:ai o):Tl o 142 (R_ k:Rw S):=am (EK k) ⟨ac3 k ho,trivial⟩ func142 fun l a_from c0 c1 Z x h=>aj (b:=Jn k (Cv c0 c1 Z) (fun v1 v15=>(EK k).lp Z 2 [] k (O7 c0 c1 l v1 v15)) l a_from c0 c1) (by kernel_rfl) (aj (by simp only [Zw];rfl) (bv h))
def t_:Rw S:=ah GN xn fun f a_from a_by Z=>ab k (n8 k f a_from a_by) (aG Z)
def W8:Fx S:=fx 31 (fun|21=>[false,true,false]|_=>[]) (fun _=>false) [(141,C3 k),(142,R_ k),(143,C4 k),(146,lK k)] [] k f75 false [] 0
theorem wK (ho:ai o):Tl o 75 (t_ k:Rw S):=am (W8 k) ⟨Gg k ho,ac4 k ho,Gi k ho,mh k ho,trivial⟩ func75 fun f a_from a_by Z x h=>au h
def Sb:Rw S:=ah aeY xn fun l_0 l_1 f a_from Z=>ab k (wa k l_0 l_1 f a_from) (ai4 Z)
def W9:Fx S:=fp 31 [(75,t_ k)] [] k f165 0
theorem ac6 (ho:ai o):Tl o 165 (Sb k:Rw S):=am (W9 k) ⟨wK k ho,trivial⟩ func165 fun l_0 l_1 f a_from Z x h=>au h
def C5 (hd:jI S):Rw S:=ah aeZ xn fun l_0 l_1 t v d Z=>hd l_0 l_1 t v d (iL Z)
def mN (hd:jI S) (k:Nat):Fx S:=fp 128 [(49,t7 k),(85,C5 hd),(165,Sb k)] [(1000006,⟨[(2,aa),(3,aa),(4,aa),(5,aa),(8,aa),(9,aa)],[(4,[aa,aa]),(5,[aa,aa,aa,aa,aa,aa]),(8,[aa,aa,aa,ar 200515,ar 200516,ar 200517]),(9,[aa,aa,aa,aa,ar 200580,ar 200581])]⟩,aA 3 7),(7,⟨[(2,aa),(3,aa),(4,aa),(5,aa),(8,aa),(9,aa),(55,aa),(56,aa),(57,aa)],[(4,[aa,aa]),(5,[aa,aa,aa,aa,aa,aa]),(8,[aa,aa,aa,ar 200515,ar 200516,ar 200517]),(9,[aa,aa,aa,aa,ar 200580,ar 200581])]⟩,aA 6 23),(16,⟨[(2,aa),(3,aa),(4,aa),(8,aa),(9,aa),(14,aa),(88,aa),(89,aa),(90,aa)],[(4,[aa,aa]),(8,[aa,aa,aa,ar 200515,ar 200516,ar 200517]),(9,[aa,aa,aa,aa,ar 200580,ar 200581])]⟩,aA 9 191),(20,⟨[(2,aa),(3,aa),(4,aa),(8,aa),(9,aa),(14,aa),(17,aa),(88,aa),(89,aa),(90,aa),(101,aa),(102,aa),(103,aa)],[(4,[aa,aa]),(8,[aa,aa,aa,ar 200515,ar 200516,ar 200517]),(9,[aa,aa,aa,aa,ar 200580,ar 200581]),(17,[aa,ar 201089])]⟩,aA 19 183487)] k f85 0
def O8 (l_0 l_1:Int) (t:Tm) (r2:List Cl) (v d:Int) (bJ:Int):St UU:=⟨[(2,(iI v)),(3,(iI d)),(4,(pt 4)),(5,(pt 5)),(8,(pt 8)),(9,(pt 9))],[(4,.cells [(iI l_0),(iI l_1)]),(5,bT t),(8,.cells [(iI 0),(iI 0),eC,(.own 200515 0),(.own 200516 0),(.own 200517 0)]),(9,.cells [(iI t.kind),(iI bJ),(.str t.name),(sC r2),(.own 200580 0),(.own 200581 0)])],[(200581,dU),(200580,eh),(200517,dU),(200516,eh),(200515,dY)],[(200581,.wr),(200580,.wr),(200517,.wr),(200516,.wr),(200515,.wr)]⟩
def Hu (l_0 l_1:Int) (t:Tm) (bJ:Int) (r2:List Cl) (v d:Int) (b9_4:List Tm) (v57:Int):St UU:=⟨[(2,(iI v)),(3,(iI d)),(4,(pt 4)),(5,(pt 5)),(8,(pt 8)),(9,(pt 9)),(55,(sT t.kids)),(56,(iI t.kids.length)),(57,(iI v57))],[(4,.cells [(iI l_0),(iI l_1)]),(5,bT t),(8,.cells [(iI 0),(iI 0),eC,(.own 200515 0),(.own 200516 0),(.own 200517 0)]),(9,.cells [(iI t.kind),(iI bJ),(.str t.name),(sC r2),(.own 200580 0),(.own 200581 0)])],[(200581,dU),(200580,⟨0,ET.T,b9_4⟩),(200517,dU),(200516,eh),(200515,dY)],[(200581,.wr),(200580,.wr),(200517,.wr),(200516,.wr),(200515,.wr)]⟩
def xF (l_0 l_1:Int) (t:Tm) (bJ:Int) (r2:List Cl) (b9_4:List Tm) (v d:Int) (b9_5:List (Br Tm)) (more14 v90:Int):St UU:=⟨[(2,(iI v)),(3,(iI d)),(4,(pt 4)),(8,(pt 8)),(9,(pt 9)),(14,(iI more14)),(88,(sB t.sys)),(89,(iI t.sys.length)),(90,(iI v90))],[(4,.cells [(iI l_0),(iI l_1)]),(8,.cells [(iI 0),(iI 0),eC,(.own 200515 0),(.own 200516 0),(.own 200517 0)]),(9,.cells [(iI t.kind),(iI bJ),(.str t.name),(sC r2),(.own 200580 0),(.own 200581 0)])],[(200581,⟨0,ET.B,b9_5⟩),(200580,⟨0,ET.T,b9_4⟩),(200517,dU),(200516,eh),(200515,dY)],[(200581,.wr),(200580,.wr),(200517,.wr),(200516,.wr),(200515,.wr)]⟩
def O9 (r12:List Cl) (l_0 l_1:Int) (t:Tm) (bJ:Int) (r2:List Cl) (b9_4:List Tm) (b9_5:List (Br Tm)) (x10:(Br Tm)) (more14 v d v90:Int) (b17_1:List Tm) (v103:Int):St UU:=⟨[(2,(iI v)),(3,(iI d)),(4,(pt 4)),(8,(pt 8)),(9,(pt 9)),(14,(iI more14)),(17,(pt 17)),(88,(sB t.sys)),(89,(iI t.sys.length)),(90,(iI v90)),(101,(sT x10.kids)),(102,(iI x10.kids.length)),(103,(iI v103))],[(4,.cells [(iI l_0),(iI l_1)]),(8,.cells [(iI 0),(iI 0),eC,(.own 200515 0),(.own 200516 0),(.own 200517 0)]),(9,.cells [(iI t.kind),(iI bJ),(.str t.name),(sC r2),(.own 200580 0),(.own 200581 0)]),(17,.cells [(sC r12),(.own 201089 0)])],[(201089,⟨0,ET.T,b17_1⟩),(200581,⟨0,ET.B,b9_5⟩),(200580,⟨0,ET.T,b9_4⟩),(200517,dU),(200516,eh),(200515,dY)],[(201089,.wr),(200581,.wr),(200580,.wr),(200517,.wr),(200516,.wr),(200515,.wr)]⟩
section
variable (hd:jI S) (k:Nat) (l_0 l_1:Int) (t:Tm) (v d:Int) (Z:Out UU->Option S)
theorem ZA (r12 bJ r2 b9_4 b9_5 x10 more14 v90 Z2): ∀n b17_1 v103,(mN hd k).lp Z 20 [Z2] n (O9 r12 l_0 l_1 t bJ r2 b9_4 b9_5 x10 more14 v d v90 b17_1 v103)=oP hd k (iL Z) (fun b9_5 more14 v90=>Z2 (xF l_0 l_1 t bJ r2 b9_4 v d b9_5 more14 v90)) r12 l_0 l_1 t bJ r2 b9_4 b9_5 x10 more14 v d v90 n b17_1 v103:=bw (zl hd k (iL Z) r12 l_0 l_1 t bJ r2 b9_4 b9_5 x10 more14 v d v90 (fun b9_5 more14 v90=>Z2 (xF l_0 l_1 t bJ r2 b9_4 v d b9_5 more14 v90)))
theorem Zz (bJ r2 b9_4): ∀n b9_5 more14 v90,(mN hd k).lp Z 16 [] n (xF l_0 l_1 t bJ r2 b9_4 v d b9_5 more14 v90)=ln hd k (iL Z) l_0 l_1 t bJ r2 b9_4 v d n b9_5 more14 v90:=iG (fun own=>uY hd k (iL Z) l_0 l_1 t bJ r2 b9_4 v d (fun r12 b9_5 x10 more14 v90 b17_1 v103=>oP hd k (iL Z) own r12 l_0 l_1 t bJ r2 b9_4 b9_5 x10 more14 v d v90 k b17_1 v103) own) rfl (fun _=>rfl) fun r b9_5 more14 v90=>aj (b:=uY hd k (iL Z) l_0 l_1 t bJ r2 b9_4 v d (fun r12 b9_5 x10 more14 v90 b17_1 v103=>(mN hd k).lp Z 20 [r] k (O9 r12 l_0 l_1 t bJ r2 b9_4 b9_5 x10 more14 v d v90 b17_1 v103)) (fun b9_5 more14 v90=>r (xF l_0 l_1 t bJ r2 b9_4 v d b9_5 more14 v90)) b9_5 more14 v90) (by kernel_rfl) (by simp only [ZA])
theorem Zy (bJ r2): ∀n b9_4 v57,(mN hd k).lp Z 7 [] n (Hu l_0 l_1 t bJ r2 v d b9_4 v57)=m9 hd k (iL Z) l_0 l_1 t bJ r2 v d n b9_4 v57:=bw (fun own=>uX hd k (iL Z) l_0 l_1 t bJ r2 v d (fun b9_4 b9_5 more14 v90=>ln hd k (iL Z) l_0 l_1 t bJ r2 b9_4 v d k b9_5 more14 v90) own) rfl (fun _=>rfl) fun r b9_4 v57=>aj (b:=uX hd k (iL Z) l_0 l_1 t bJ r2 v d (fun b9_4 b9_5 more14 v90=>(mN hd k).lp Z 16 [] k (xF l_0 l_1 t bJ r2 b9_4 v d b9_5 more14 v90)) (fun b9_4 v57=>r (Hu l_0 l_1 t bJ r2 v d b9_4 v57)) b9_4 v57) (by kernel_rfl) (by simp only [Zz])
theorem Zx (r2): ∀n bJ,(mN hd k).jn Z 1000006 [] n (O8 l_0 l_1 t r2 v d bJ)=w_ hd k (iL Z) l_0 l_1 t r2 v d n bJ:=GG (E1 hd k (iL Z) l_0 l_1 t r2 v d (fun bJ b9_4 v57=>m9 hd k (iL Z) l_0 l_1 t bJ r2 v d k b9_4 v57)) rfl (fun _=>rfl) (fun bJ=>aj (b:=E1 hd k (iL Z) l_0 l_1 t r2 v d (fun bJ b9_4 v57=>(mN hd k).lp Z 7 [] k (Hu l_0 l_1 t bJ r2 v d b9_4 v57)) bJ) (by kernel_rfl) (by simp only [Zy]))
end
theorem GB (o:Obj) (ho:ai o): ∀k:Nat,Tl o 85 (C5 (gE k:jI S))
 |0=>jh fun l_0 l_1 t v d Z x h=>by cases h
 |k+1=>am (mN (gE k) k) ⟨wI k ho,GB o ho k,ac6 k ho,trivial⟩ func85 fun l_0 l_1 t v d Z x h=>aj (b:=Ju (gE k) k (iL Z) (fun r2 bJ=>(mN (gE k) k).jn Z 1000006 [] k (O8 l_0 l_1 t r2 v d bJ)) l_0 l_1 t v d) (by kernel_rfl) (aj (by simp only [Zx];rfl) h)
def Sc:Rw S:=ah Nj US fun c0 c1 c2 Z=>ab k (AJ k c0 c1 c2) (ai5 c0 c1 c2 Z)
def W_:Fx S:=fp 11 [(85,C5 (gE k))] [] k f206 3
theorem ac7 (ho:ai o):Tl o 206 (Sc k:Rw S):=am (W_ k) ⟨GB o ho k,trivial⟩ func206 fun c0 c1 c2 Z x h=>au h
def Sd:Rw S:=ah ae0 US fun t numbers c0 c1 c2 Z=>ab k (AN k t numbers c0 c1 c2) (Cw c0 c1 c2 Z)
def EM:Fx S:=⟨⟨30,(fun _=>[]),(fun _=>false),aa,fun|6=>true|7=>true|_=>false⟩,[(40,nE k),(206,Sc k)],[(5,⟨[(2,aa),(6,aa),(7,aa),(17,aa),(18,aa),(19,aa)],[(1000000,[aa]),(1000001,[aa]),(1000002,[aa,aa,aa,aa,aa,aa]),(5000006,[aa,aa,aa,ar 320200387,ar 320200388,ar 320200389]),(5000007,[aa])]⟩,aA 5 11)],k,f83,false,[],3,some (Ae 16 164 f164 k)⟩
def O_ (c0 c1:Int) (c2:Tm) (numbers:List Int) (v19:Int):St UU:=⟨[(2,(.func 206 [] [(pt 1000000),(pt 1000001),(pt 1000002)])),(6,(pt 5000006)),(7,(pt 5000007)),(17,(po numbers .none)),(18,(iI numbers.length)),(19,(iI v19))],[(1000000,bI c0),(1000001,bI c1),(1000002,bT c2),(5000006,.cells [(iI 0),(iI 0),eC,(.own 320200387 0),(.own 320200388 0),(.own 320200389 0)]),(5000007,bI 0)],[(320200389,dU),(320200388,eh),(320200387,dY)],[(320200389,.wr),(320200388,.wr),(320200387,.wr)]⟩
section
variable (k:Nat) (t:Tm) (numbers:List Int) (c0 c1:Int) (c2:Tm) (Z:Out UU->Option S)
theorem ZB: ∀n v19,(EM k).lp Z 5 [] n (O_ c0 c1 c2 numbers v19)=qh k (Cw c0 c1 c2 Z) c0 c1 c2 numbers n v19:=eK (zk k (Cw c0 c1 c2 Z) c0 c1 c2 numbers)
end
theorem ac8 (ho:ai o):Tl o 83 (Sd k:Rw S):=Um (EM k) rfl (K7 o func164 (by kernel_rfl)) ⟨ow k ho,ac7 k ho,trivial⟩ func83 (by kernel_rfl) fun t numbers c0 c1 c2 Z x h=>aj (b:=Dz k (Cw c0 c1 c2 Z) (fun v19=>(EM k).lp Z 5 [] k (O_ c0 c1 c2 numbers v19)) t numbers c0 c1 c2) (by kernel_rfl) (aj (by simp only [ZB];rfl) (bv h))
def Ij:Rw S:=ah sH xn fun t vars dims Z=>ab k (pS k t vars dims) (hJ Z)
def Xa:Fx S:=fp 18 [(83,Sd k)] [] k f119 0
theorem Mj (ho:ai o):Tl o 119 (Ij k:Rw S):=am (Xa k) ⟨ac8 k ho,trivial⟩ func119 fun t vars dims Z x h=>au h
def qX:Rw S:=ah Nk eF fun t vars dims c0 Z=>ab k (jY k t vars dims c0) (lJ Z)
def Xb:Fx S:=fp 21 [(93,nF k),(94,nG k),(119,Ij k)] [] k f56 1
theorem su (ho:ai o):Tl o 56 (qX k:Rw S):=am (Xb k) ⟨ox k ho,oy k ho,Mj k ho,trivial⟩ func56 fun t vars dims c0 Z x h=>au h
def nH:Rw S:=ah ae1 eF fun a_e c0 Z=>ab k (ky k a_e c0) (ai6 Z)
def Xc:Fx S:=fp 13 [] [] k f270 1
theorem oA (ho:ai o):Tl o 270 (nH k:Rw S):=am (Xc k) trivial func270 fun a_e c0 Z x h=>au h
def yl:Rw S:=ah GM xn fun l Z=>ab k (n5 k l) (Cx Z)
def EO:Fx S:=fp 22 [(40,nE k),(270,nH k)] [(3,ce [3,8,9,10] [(7,1)],aA 5 11)] k f207 0
def Pa (l:List Tm) (jU v10:Int):St UU:=⟨[(3,(pt 7)),(8,(sT l)),(9,(iI l.length)),(10,(iI v10))],[(7,bI jU)],[],[]⟩
section
variable (k:Nat) (l:List Tm) (Z:Out UU->Option S)
theorem ZC: ∀n jU v10,(EO k).lp Z 3 [] n (Pa l jU v10)=sI k (Cx Z) l n jU v10:=bw (yQ k (Cx Z) l)
end
theorem Bx (ho:ai o):Tl o 207 (yl k:Rw S):=am (EO k) ⟨ow k ho,oA k ho,trivial⟩ func207 fun l Z x h=>aj (b:=I8 k (Cx Z) (fun jU v10=>(EO k).lp Z 3 [] k (Pa l jU v10)) l) (by kernel_rfl) (aj (by simp only [ZC];rfl) (bv h))
def nI:Rw S:=ah w6 eF fun c0 Z=>ab k (fR k c0) (iM c0 Z)
def Xd:Fx S:=fp 8 [] [] k f210 1
theorem oB (ho:ai o):Tl o 210 (nI k:Rw S):=am (Xd k) trivial func210 fun c0 Z x h=>au h
def Ik:Rw S:=ah Nl eF fun f c0 Z=>ab k (pQ k f c0) (HP Z)
def Xe:Fx S:=fp 23 [(75,t_ k),(210,nI k),(270,nH k)] [] k f211 1
theorem Mk (ho:ai o):Tl o 211 (Ik k:Rw S):=am (Xe k) ⟨wK k ho,oB k ho,oA k ho,trivial⟩ func211 fun f c0 Z x h=>au h
def Se:Rw S:=ah Ng xn fun l Z=>ab k (Ls k l) (bD Z)
def EP:Fx S:=fp 15 [(205,t8 k)] [(2,ce [5,6,7] [],aA 4 5)] k f337 0
def Pc (l:List (List Cl)) (v7:Int):St UU:=⟨[(5,(Ds l .none)),(6,(iI l.length)),(7,(iI v7))],[],[],[]⟩
section
variable (k:Nat) (l:List (List Cl)) (Z:Out UU->Option S)
theorem ZG: ∀n v7,(EP k).lp Z 2 [] n (Pc l v7)=GV k (bD Z) l n v7:=eK (KM k (bD Z) l)
end
theorem ac9 (ho:ai o):Tl o 337 (Se k:Rw S):=am (EP k) ⟨wJ k ho,trivial⟩ func337 fun l Z x h=>aj (b:=Ub k (bD Z) (fun v7=>(EP k).lp Z 2 [] k (Pc l v7)) l) (by kernel_rfl) (aj (by simp only [ZG];rfl) (bv h))
def Il:Rw S:=ah lm xn fun f g Z=>ab k (vS k f g) (aG Z)
def Xf:Fx S:=fp 14 [(146,lK k)] [] k f243 0
theorem Ml (ho:ai o):Tl o 243 (Il k:Rw S):=am (Xf k) ⟨mh k ho,trivial⟩ func243 fun f g Z x h=>au h
def Sf:Rw S:=ah lm xn fun f g Z=>ab k (Lq k f g) (aG Z)
def Xg:Fx S:=fp 19 [(243,Il k),(337,Se k)] [] k f327 0
theorem ac_ (ho:ai o):Tl o 327 (Sf k:Rw S):=am (Xg k) ⟨Ml k ho,ac9 k ho,trivial⟩ func327 fun f g Z x h=>au h
def Sg:Rw S:=ah ae2 eF fun f g c0 Z=>ab k (Fp k f g c0) (HP Z)
def Xh:Fx S:=fp 26 [(210,nI k),(270,nH k),(327,Sf k)] [] k f302 1
theorem ada (ho:ai o):Tl o 302 (Sg k:Rw S):=am (Xh k) ⟨oB k ho,oA k ho,ac_ k ho,trivial⟩ func302 fun f g c0 Z x h=>au h
def Sh:Rw S:=ah Nj UT fun c0 c1 c2 Z=>ab k (AM k c0 c1 c2) (ai7 c0 c1 c2 Z)
def Xi:Fx S:=fp 10 [(85,C5 (gE k))] [] k f84 3
theorem adb (ho:ai o):Tl o 84 (Sh k:Rw S):=am (Xi k) ⟨GB o ho k,trivial⟩ func84 fun c0 c1 c2 Z x h=>au h
def Si:Rw S:=ah ae4 UT fun t numbers c0 c1 c2 Z=>ab k (FM k t numbers c0 c1 c2) (Cy c0 c1 c2 Z)
def EQ:Fx S:=⟨⟨30,(fun _=>[]),(fun _=>false),aa,fun|6=>true|7=>true|_=>false⟩,[(40,nE k),(84,Sh k)],[(5,⟨[(2,aa),(6,aa),(7,aa),(17,aa),(18,aa),(19,aa)],[(1000000,[aa]),(1000001,[aa,aa,aa,aa,aa,aa]),(1000002,[aa]),(5000006,[aa,aa,aa,ar 320200387,ar 320200388,ar 320200389]),(5000007,[aa])]⟩,aA 5 11)],k,f83,false,[],3,some (Ae 16 164 f164 k)⟩
def Pd (c0:Int) (c1:Tm) (c2:Int) (numbers:List Int) (v19:Int):St UU:=⟨[(2,(.func 84 [] [(pt 1000000),(pt 1000001),(pt 1000002)])),(6,(pt 5000006)),(7,(pt 5000007)),(17,(po numbers .none)),(18,(iI numbers.length)),(19,(iI v19))],[(1000000,bI c0),(1000001,bT c1),(1000002,bI c2),(5000006,.cells [(iI 0),(iI 0),eC,(.own 320200387 0),(.own 320200388 0),(.own 320200389 0)]),(5000007,bI 0)],[(320200389,dU),(320200388,eh),(320200387,dY)],[(320200389,.wr),(320200388,.wr),(320200387,.wr)]⟩
section
variable (k:Nat) (t:Tm) (numbers:List Int) (c0:Int) (c1:Tm) (c2:Int) (Z:Out UU->Option S)
theorem ZH: ∀n v19,(EQ k).lp Z 5 [] n (Pd c0 c1 c2 numbers v19)=qf k (Cy c0 c1 c2 Z) c0 c1 c2 numbers n v19:=eK (zj k (Cy c0 c1 c2 Z) c0 c1 c2 numbers)
end
theorem adc (ho:ai o):Tl o 83 (Si k:Rw S):=Um (EQ k) rfl (K7 o func164 (by kernel_rfl)) ⟨ow k ho,adb k ho,trivial⟩ func83 (by kernel_rfl) fun t numbers c0 c1 c2 Z x h=>aj (b:=Jt k (Cy c0 c1 c2 Z) (fun v19=>(EQ k).lp Z 5 [] k (Pd c0 c1 c2 numbers v19)) t numbers c0 c1 c2) (by kernel_rfl) (aj (by simp only [ZH];rfl) (bv h))
def Sj:Rw S:=ah sH xn fun t a_from a_by Z=>ab k (AL k t a_from a_by) (hJ Z)
def Xj:Fx S:=fp 16 [(83,Si k)] [] k f35 0
theorem ade (ho:ai o):Tl o 35 (Sj k:Rw S):=am (Xj k) ⟨adc k ho,trivial⟩ func35 fun t a_from a_by Z x h=>au h
def ym:Rw S:=ah oI xn fun s i Z=>ab k (lZ k s i) (d3 Z)
def Xk:Fx S:=fp 16 [(232,yi k)] [] k f222 0
theorem By (ho:ai o):Tl o 222 (ym k:Rw S):=am (Xk k) ⟨Bw k ho,trivial⟩ func222 fun s i Z x h=>au h
def Sk:Rw S:=ah wZ xn fun a_x Z=>ab k (LH k a_x) (bD Z)
def Xm:Fx S:=fp 21 [] [] k f275 0
theorem adf (ho:ai o):Tl o 275 (Sk k:Rw S):=am (Xm k) trivial func275 fun a_x Z x h=>au h
def C7:Rw S:=ah wZ xn fun s Z=>ab k (n_ k s) (bD Z)
def Xn:Fx S:=fp 6 [(275,Sk k)] [] k f221 0
theorem Gj (ho:ai o):Tl o 221 (C7 k:Rw S):=am (Xn k) ⟨adf k ho,trivial⟩ func221 fun s Z x h=>au h
def Sl:Rw S:=ah jx xn fun i Z=>ab k (Ao k i) (aH Z)
def Xo:Fx S:=fp 7 [(221,C7 k),(222,ym k)] [] k f139 0
theorem adg (ho:ai o):Tl o 139 (Sl k:Rw S):=am (Xo k) ⟨Gj k ho,By k ho,trivial⟩ func139 fun i Z x h=>au h
def Sn:Rw S:=ah GO xn fun t i a_r Z=>ab k (FA k t i a_r) (bD Z)
def Xp:Fx S:=fp 21 [(40,nE k),(139,Sl k),(140,qW k)] [] k f74 0
theorem adh (ho:ai o):Tl o 74 (Sn k:Rw S):=am (Xp k) ⟨ow k ho,adg k ho,sr k ho,trivial⟩ func74 fun t i a_r Z x h=>au h
def So:Rw S:=ah Nm yI fun c0 c1 Z=>ab k (Fs k c0 c1) (ai8 c0 c1 Z)
def Xq:Fx S:=fp 6 [] [] k f147 2
theorem adi (ho:ai o):Tl o 147 (So k:Rw S):=am (Xq k) trivial func147 fun c0 c1 Z x h=>au h
def Sp:Rw S:=ah ae5 yI fun c0 c1 Z=>ab k (Ft k c0 c1) (ai9 c0 c1 Z)
def Xr:Fx S:=fp 6 [] [] k f147 2
theorem adj (ho:ai o):Tl o 147 (Sp k:Rw S):=am (Xr k) trivial func147 fun c0 c1 Z x h=>au h
def Sq:Rw S:=ah ae6 xn fun i a_r Z=>ab k (Fr k i a_r) (ai_ Z)
def Xs:Fx S:=fp 12 [(147,nz (p6 Nm yI) (So k) (Sp k))] [] k f76 0
theorem adk (ho:ai o):Tl o 76 (Sq k:Rw S):=am (Xs k) ⟨qO (adi k ho) (adj k ho),trivial⟩ func76 fun i a_r Z x h=>au h
def ua:Rw S:=ah oI xn fun s i Z=>ab k (kz k s i) (aH Z)
def Xt:Fx S:=fp 15 [(232,yi k)] [] k f149 0
theorem wL (ho:ai o):Tl o 149 (ua k:Rw S):=am (Xt k) ⟨Bw k ho,trivial⟩ func149 fun s i Z x h=>au h
def Io:Rw S:=ah ig xn fun f Z=>ab k (vL k f) (jA Z)
def Xu:Fx S:=fp 5 [] [] k f151 0
theorem Mn (ho:ai o):Tl o 151 (Io k:Rw S):=am (Xu k) trivial func151 fun f Z x h=>au h
def Ip:Rw S:=ah jx xn fun i Z=>ab k (vR k i) (aH Z)
def Xv:Fx S:=fp 7 [(221,C7 k),(222,ym k)] [] k f239 0
theorem Mo (ho:ai o):Tl o 239 (Ip k:Rw S):=am (Xv k) ⟨Gj k ho,By k ho,trivial⟩ func239 fun i Z x h=>au h
def Iq:Rw S:=ah p_ xn fun c Z=>ab k (vQ k c) (aja Z)
def Xx:Fx S:=fp 8 [(269,If k)] [] k f284 0
theorem Mp (ho:ai o):Tl o 284 (Iq k:Rw S):=am (Xx k) ⟨Mf k ho,trivial⟩ func284 fun c Z x h=>au h
def Ss:Rw S:=ah ae7 xn fun l Z=>ab k (Aw k l) (jA Z)
def ER:Fx S:=fp 29 [(284,Iq k)] [(3,⟨[(1,aa),(5,ar 100005),(10,aa),(11,aa),(12,aa)],[]⟩,aA 5 11)] k f272 0
def Pf (l:List Cl) (v12:Int) (out5:List Cl):St UU:=⟨[(1,(.func 284 [] [])),(5,(.own 100005 0)),(10,(sC l)),(11,(iI l.length)),(12,(iI v12))],[],[(100005,⟨0,ET.C,out5⟩)],[(100005,.wr)]⟩
section
variable (k:Nat) (l:List Cl) (Z:Out UU->Option S)
theorem ZL: ∀n v12 out5,(ER k).lp Z 3 [] n (Pf l v12 out5)=sN k (jA Z) l n v12 out5:=bw (y7 k (jA Z) l)
end
theorem adm (ho:ai o):Tl o 272 (Ss k:Rw S):=am (ER k) ⟨Mp k ho,trivial⟩ func272 fun l Z x h=>aj (b:=Ji k (jA Z) (fun v12 out5=>(ER k).lp Z 3 [] k (Pf l v12 out5)) l) (by kernel_rfl) (aj (by simp only [ZL];rfl) (bv h))
def Ir:Rw S:=ah ig xn fun f Z=>ab k (vP k f) (aG Z)
def Xy:Fx S:=fp 12 [(140,qW k),(146,lK k),(272,Ss k)] [] k f240 0
theorem Mq (ho:ai o):Tl o 240 (Ir k:Rw S):=am (Xy k) ⟨sr k ho,mh k ho,adm k ho,trivial⟩ func240 fun f Z x h=>au h
def Su:Rw S:=ah B0 yH fun b c0 Z=>ab k (Ax k b c0) (ajb c0 Z)
def Xz:Fx S:=fp 11 [(278,CS k),(284,Iq k)] [] k f285 1
theorem adn (ho:ai o):Tl o 285 (Su k:Rw S):=am (Xz k) ⟨F7 k ho,Mp k ho,trivial⟩ func285 fun b c0 Z x h=>au h
def Sv:Rw S:=ah ae8 yH fun l c0 Z=>ab k (Av k l c0) (Cz c0 Z)
def ES:Fx S:=fp 29 [(285,Su k)] [(3,⟨[(1,aa),(5,ar 100005),(10,aa),(11,aa),(12,aa)],[(1000000,[aa,aa])]⟩,aA 5 11)] k f272 1
def Pg (c0:Cl) (l:List Cl) (v12:Int) (out5:List Cl):St UU:=⟨[(1,(.func 285 [] [(pt 1000000)])),(5,(.own 100005 0)),(10,(sC l)),(11,(iI l.length)),(12,(iI v12))],[(1000000,bC c0)],[(100005,⟨0,ET.C,out5⟩)],[(100005,.wr)]⟩
section
variable (k:Nat) (l:List Cl) (c0:Cl) (Z:Out UU->Option S)
theorem ZM: ∀n v12 out5,(ES k).lp Z 3 [] n (Pg c0 l v12 out5)=sM k (Cz c0 Z) c0 l n v12 out5:=bw (y6 k (Cz c0 Z) c0 l)
end
theorem ado (ho:ai o):Tl o 272 (Sv k:Rw S):=am (ES k) ⟨adn k ho,trivial⟩ func272 fun l c0 Z x h=>aj (b:=Jh k (Cz c0 Z) (fun v12 out5=>(ES k).lp Z 3 [] k (Pg c0 l v12 out5)) l c0) (by kernel_rfl) (aj (by simp only [ZM];rfl) (bv h))
def Sw:Rw S:=ah lm xn fun f g Z=>ab k (rJ k f g) (aG Z)
def EU:Fx S:=fp 25 [(146,lK k),(272,Sv k)] [(3,⟨[(1,aa),(6,ar 100006),(9,aa),(10,aa),(11,aa)],[]⟩,aA 5 11)] k f241 0
def Ph (g f:List Cl) (v11:Int) (out6:List Cl):St UU:=⟨[(1,(sC g)),(6,(.own 100006 0)),(9,(sC f)),(10,(iI f.length)),(11,(iI v11))],[],[(100006,⟨0,ET.C,out6⟩)],[(100006,.wr)]⟩
section
variable (k:Nat) (f g:List Cl) (Z:Out UU->Option S)
theorem ZN: ∀n v11 out6,(EU k).lp Z 3 [] n (Ph g f v11 out6)=sO k (aG Z) g f n v11 out6:=bw (y8 k (aG Z) g f)
end
theorem adp (ho:ai o):Tl o 241 (Sw k:Rw S):=am (EU k) ⟨mh k ho,ado k ho,trivial⟩ func241 fun f g Z x h=>aj (b:=Jj k (aG Z) (fun v11 out6=>(EU k).lp Z 3 [] k (Ph g f v11 out6)) f g) (by kernel_rfl) (aj (by simp only [ZN];rfl) (bv h))
def C8:Rw S:=ah cn xn fun Z=>ab k (vT k) (jA Z)
def XA:Fx S:=fp 3 [] [] k f29 0
theorem Gk (ho:ai o):Tl o 29 (C8 k:Rw S):=am (XA k) trivial func29 fun Z x h=>au h
def Sx:Rw S:=ah p_ xn fun c Z=>ab k (AF k c) (aG Z)
def uM:Fx S:=fp 43 [(146,lK k),(222,ym k),(314,IB)] [(3,⟨[(1,aa),(4,ar 100004),(11,aa),(12,aa),(13,aa)],[(1,[aa,aa])]⟩,aA 5 11),(8,⟨[(4,ar 100004),(26,aa),(27,aa),(28,aa)],[]⟩,aA 6 23)] k f283 0
def Hx (c:Cl) (r1:List Int) (v13:Int) (out4:List Cl):St UU:=⟨[(1,(pt 1)),(4,(.own 100004 0)),(11,(po r1 .none)),(12,(iI r1.length)),(13,(iI v13))],[(1,bC c)],[(100004,⟨0,ET.C,out4⟩)],[(100004,.wr)]⟩
def Pi (r5:List Int) (v28:Int) (out4':List Cl):St UU:=⟨[(4,(.own 100004 0)),(26,(po r5 .none)),(27,(iI r5.length)),(28,(iI v28))],[],[(100004,⟨0,ET.C,out4'⟩)],[(100004,.wr)]⟩
section
variable (k:Nat) (c:Cl) (Z:Out UU->Option S)
theorem ZP (r5): ∀n v28 out4',(uM k).lp Z 8 [] n (Pi r5 v28 out4')=qe k (aG Z) r5 n v28 out4':=bw (zd k (aG Z) r5)
theorem ZO (r1): ∀n v13 out4,(uM k).lp Z 3 [] n (Hx c r1 v13 out4)=sU k (aG Z) c r1 n v13 out4:=bw (fun own=>uW k (aG Z) c r1 (fun r5 v28 out4'=>qe k (aG Z) r5 k v28 out4') own) rfl (fun _=>rfl) fun r v13 out4=>aj (b:=uW k (aG Z) c r1 (fun r5 v28 out4'=>(uM k).lp Z 8 [] k (Pi r5 v28 out4')) (fun v13 out4=>r (Hx c r1 v13 out4)) v13 out4) (by kernel_rfl) (by simp only [ZP])
end
theorem adq (ho:ai o):Tl o 283 (Sx k:Rw S):=am (uM k) ⟨mh k ho,By k ho,amb o ho,trivial⟩ func283 fun c Z x h=>aj (b:=Jp k (aG Z) (fun r1 v13 out4=>(uM k).lp Z 3 [] k (Hx c r1 v13 out4)) c) (by kernel_rfl) (aj (by simp only [ZO];rfl) (bv h))
def Is:Rw S:=ah lm xn fun f g Z=>ab k (mT k f g) (aG Z)
def uN:Fx S:=fp 35 [(146,lK k),(278,CS k)] [(3,⟨[(1,aa),(6,ar 100006),(11,aa),(12,aa),(13,aa)],[]⟩,aA 5 11),(6,⟨[(1,aa),(6,ar 100006),(8,aa),(11,aa),(12,aa),(13,aa),(17,aa),(18,aa),(19,aa)],[(8,[aa,aa])]⟩,aA 13 3275)] k f236 0
def xJ (g f:List Cl) (v13:Int) (out6:List Cl):St UU:=⟨[(1,(sC g)),(6,(.own 100006 0)),(11,(sC f)),(12,(iI f.length)),(13,(iI v13))],[],[(100006,⟨0,ET.C,out6⟩)],[(100006,.wr)]⟩
def Pj (x1:Cl) (g f:List Cl) (v13:Int) (v19:Int) (out6':List Cl):St UU:=⟨[(1,(sC g)),(6,(.own 100006 0)),(8,(pt 8)),(11,(sC f)),(12,(iI f.length)),(13,(iI v13)),(17,(sC g)),(18,(iI g.length)),(19,(iI v19))],[(8,bC x1)],[(100006,⟨0,ET.C,out6'⟩)],[(100006,.wr)]⟩
section
variable (k:Nat) (f g:List Cl) (Z:Out UU->Option S)
theorem ZR (x1 v13 Z0): ∀n v19 out6',(uN k).lp Z 6 [Z0] n (Pj x1 g f v13 v19 out6')=qc k (aG Z) (fun v13 out6=>Z0 (xJ g f v13 out6)) x1 g f v13 n v19 out6':=bw (zc k (aG Z) x1 g f v13 (fun v13 out6=>Z0 (xJ g f v13 out6)))
theorem ZQ: ∀n v13 out6,(uN k).lp Z 3 [] n (xJ g f v13 out6)=oO k (aG Z) g f n v13 out6:=bw (fun own=>uV k (aG Z) g f (fun x1 v13 v19 out6'=>qc k (aG Z) own x1 g f v13 k v19 out6') own) rfl (fun _=>rfl) fun r v13 out6=>aj (b:=uV k (aG Z) g f (fun x1 v13 v19 out6'=>(uN k).lp Z 6 [r] k (Pj x1 g f v13 v19 out6')) (fun v13 out6=>r (xJ g f v13 out6)) v13 out6) (by kernel_rfl) (by simp only [ZR])
end
theorem Mr (ho:ai o):Tl o 236 (Is k:Rw S):=am (uN k) ⟨mh k ho,F7 k ho,trivial⟩ func236 fun f g Z x h=>aj (b:=Jo k (aG Z) (fun v13 out6=>(uN k).lp Z 3 [] k (xJ g f v13 out6)) f g) (by kernel_rfl) (aj (by simp only [ZQ];rfl) (bv h))
def Sy:Rw S:=ah Nn xn fun a_have c Z=>ab k (AE k a_have c) (aG Z)
def XB:Fx S:=fp 21 [(236,Is k),(283,Sx k)] [] k f282 0
theorem adr (ho:ai o):Tl o 282 (Sy k:Rw S):=am (XB k) ⟨Mr k ho,adq k ho,trivial⟩ func282 fun a_have c Z x h=>au h
def SA:Rw S:=ah ae_ xn fun l a_from Z=>ab k (FD k l a_from) (aG Z)
def EV:Fx S:=fp 33 [(282,Sy k)] [(2,ce [1,2,13,14,15] [],aA 4 5)] k f142 0
def Pk (l:List Cl) (v1:List Cl) (v15:Int):St UU:=⟨[(1,(sC v1)),(2,(.func 282 [] [])),(13,(sC l)),(14,(iI l.length)),(15,(iI v15))],[],[],[]⟩
section
variable (k:Nat) (l a_from:List Cl) (Z:Out UU->Option S)
theorem ZS: ∀n v1 v15,(EV k).lp Z 2 [] n (Pk l v1 v15)=sR k (aG Z) l n v1 v15:=bw (za k (aG Z) l)
end
theorem adt (ho:ai o):Tl o 142 (SA k:Rw S):=am (EV k) ⟨adr k ho,trivial⟩ func142 fun l a_from Z x h=>aj (b:=Jm k (aG Z) (fun v1 v15=>(EV k).lp Z 2 [] k (Pk l v1 v15)) l a_from) (by kernel_rfl) (aj (by simp only [ZS];rfl) (bv h))
def It:Rw S:=ah ig xn fun f Z=>ab k (rN k f) (aG Z)
def XD:Fx S:=fp 9 [(29,C8 k),(142,SA k)] [] k f237 0
theorem Ms (ho:ai o):Tl o 237 (It k:Rw S):=am (XD k) ⟨Gk k ho,adt k ho,trivial⟩ func237 fun f Z x h=>au h
def SB:Rw S:=ah ig xn fun f Z=>ab k (Az k f) (aG Z)
def XE:Fx S:=fp 15 [(141,C3 k),(237,It k)] [] k f286 0
theorem adu (ho:ai o):Tl o 286 (SB k:Rw S):=am (XE k) ⟨Gg k ho,Ms k ho,trivial⟩ func286 fun f Z x h=>au h
def SC:Rw S:=ah ig xn fun f Z=>ab k (As k f) (aG Z)
def XF:Fx S:=fp 18 [(240,Ir k),(286,SB k)] [] k f242 0
theorem adv (ho:ai o):Tl o 242 (SC k:Rw S):=am (XF k) ⟨Mq k ho,adu k ho,trivial⟩ func242 fun f Z x h=>au h
def SD:Rw S:=ah B2 xn fun f i a_r Z=>ab k (Au k f i a_r) (aG Z)
def uO:Fx S:=fp 92 [(140,qW k),(149,ua k),(205,t8 k),(233,CY k),(239,Ip k),(240,Ir k),(241,Sw k),(242,SC k),(243,Il k)] [(5,ce [1,2,8,27,28,29] [],aA 6 23),(1000018,ce [1,2,8,11,13,27,28,29] [],aA 16 63895)] k f153 0
def xK (i:Int) (a_r f:List Cl) (v29:Int) (v8:List Cl):St UU:=⟨[(1,(iI i)),(2,(sC a_r)),(8,(sC v8)),(27,(sC f)),(28,(iI f.length)),(29,(iI v29))],[],[],[]⟩
def Pl (i:Int) (a_r f:List Cl) (v29:Int) (v8:List Cl) (g11:List Cl) (v13:Int):St UU:=⟨[(1,(iI i)),(2,(sC a_r)),(8,(sC v8)),(11,(sC g11)),(13,(iI v13)),(27,(sC f)),(28,(iI f.length)),(29,(iI v29))],[],[],[]⟩
section
variable (k:Nat) (f:List Cl) (i:Int) (a_r:List Cl) (Z:Out UU->Option S)
theorem ZU (v29 v8 Z0): ∀n g11 v13,(uO k).jn Z 1000018 [Z0] n (Pl i a_r f v29 v8 g11 v13)=sL k (aG Z) (fun v29 v8=>Z0 (xK i a_r f v29 v8)) i a_r f v29 v8 n g11 v13:=M2 (yZ k (aG Z) i a_r f v29 v8 (fun v29 v8=>Z0 (xK i a_r f v29 v8)))
theorem ZT: ∀n v29 v8,(uO k).lp Z 5 [] n (xK i a_r f v29 v8)=oN k (aG Z) i a_r f n v29 v8:=bw (fun own=>uU k (aG Z) i a_r f (fun v29 v8 g11 v13=>sL k (aG Z) own i a_r f v29 v8 k g11 v13) own) rfl (fun _=>rfl) fun r v29 v8=>aj (b:=uU k (aG Z) i a_r f (fun v29 v8 g11 v13=>(uO k).jn Z 1000018 [r] k (Pl i a_r f v29 v8 g11 v13)) (fun v29 v8=>r (xK i a_r f v29 v8)) v29 v8) (by kernel_rfl) (by simp only [ZU])
end
theorem adw (ho:ai o):Tl o 153 (SD k:Rw S):=am (uO k) ⟨sr k ho,wL k ho,wJ k ho,Gb k ho,Mo k ho,Mq k ho,adp k ho,adv k ho,Ml k ho,trivial⟩ func153 fun f i a_r Z x h=>aj (b:=Jg k (aG Z) (fun v29 v8=>(uO k).lp Z 5 [] k (xK i a_r f v29 v8)) f i a_r) (by kernel_rfl) (aj (by simp only [ZT];rfl) (bv h))
def Iu:Rw S:=ah GP amW fun f depth c0 c1 Z=>ab k (vM k f depth c0 c1) (ajc c0 c1 Z)
def XG:Fx S:=fp 38 [(75,t_ k),(149,ua k),(150,CZ k),(151,Io k),(153,SD k)] [] k f148 3
theorem Mt (ho:ai o):Tl o 148 (Iu k:Rw S):=am (XG k) ⟨wK k ho,wL k ho,Gc k ho,Mn k ho,adw k ho,trivial⟩ func148 fun f depth c0 c1 Z x h=>au h
def SE:Rw S:=ah jx xn fun i Z=>ab k (Ay k i) (aG Z)
def XH:Fx S:=fp 12 [(221,C7 k),(222,ym k)] [] k f234 0
theorem adx (ho:ai o):Tl o 234 (SE k:Rw S):=am (XH k) ⟨Gj k ho,By k ho,trivial⟩ func234 fun i Z x h=>au h
def SF:Rw S:=ah lm xn fun f g Z=>ab k (pR k f g) (aG Z)
def XI:Fx S:=fp 14 [(146,lK k)] [] k f238 0
theorem ady (ho:ai o):Tl o 238 (SF k:Rw S):=am (XI k) ⟨mh k ho,trivial⟩ func238 fun f g Z x h=>au h
def SG:Rw S:=ah afa yI fun a_have c c0 c1 Z=>ab k (AC k a_have c c0 c1) (xW c0 c1 Z)
def XJ:Fx S:=fp 63 [(149,ua k),(233,CY k),(236,Is k),(237,It k),(238,SF k)] [] k f235 2
theorem adz (ho:ai o):Tl o 235 (SG k:Rw S):=am (XJ k) ⟨wL k ho,Gb k ho,Mr k ho,Ms k ho,ady k ho,trivial⟩ func235 fun a_have c c0 c1 Z x h=>au h
def SH:Rw S:=ah afb yI fun l a_from c0 c1 Z=>ab k (FC k l a_from c0 c1) (xW c0 c1 Z)
def EW:Fx S:=fp 33 [(235,SG k)] [(2,ce [1,2,13,14,15] [(1000000,1),(1000001,1)],aA 4 5)] k f142 2
def Pm (c0:Int) (c1 l:List Cl) (v1:List Cl) (v15:Int):St UU:=⟨[(1,(sC v1)),(2,(.func 235 [] [(pt 1000000),(pt 1000001)])),(13,(sC l)),(14,(iI l.length)),(15,(iI v15))],[(1000000,bI c0),(1000001,.cells [(sC c1)])],[],[]⟩
section
variable (k:Nat) (l a_from:List Cl) (c0:Int) (c1:List Cl) (Z:Out UU->Option S)
theorem ZV: ∀n v1 v15,(EW k).lp Z 2 [] n (Pm c0 c1 l v1 v15)=sQ k (xW c0 c1 Z) c0 c1 l n v1 v15:=bw (y_ k (xW c0 c1 Z) c0 c1 l)
end
theorem adA (ho:ai o):Tl o 142 (SH k:Rw S):=am (EW k) ⟨adz k ho,trivial⟩ func142 fun l a_from c0 c1 Z x h=>aj (b:=Jl k (xW c0 c1 Z) (fun v1 v15=>(EW k).lp Z 2 [] k (Pm c0 c1 l v1 v15)) l a_from c0 c1) (by kernel_rfl) (aj (by simp only [ZV];rfl) (bv h))
def Qa:Rw S:=ah B2 xn fun f i a_r Z=>ab k (AB k f i a_r) (aG Z)
def U1:Fx S:=fp 32 [(141,C3 k),(142,SH k),(143,C4 k),(234,SE k)] [] k f152 0
theorem aa8 (ho:ai o):Tl o 152 (Qa k:Rw S):=am (U1 k) ⟨Gg k ho,adA k ho,Gi k ho,adx k ho,trivial⟩ func152 fun f i a_r Z x h=>au h
def Qb:Rw S:=ah GP UV fun f depth c0 c1 Z=>ab k (Ap k f depth c0 c1) (ajd c0 c1 Z)
def U2:Fx S:=fp 38 [(75,t_ k),(149,ua k),(150,CZ k),(151,Io k),(152,Qa k)] [] k f148 3
theorem aa9 (ho:ai o):Tl o 148 (Qb k:Rw S):=am (U2 k) ⟨wK k ho,wL k ho,Gc k ho,Mn k ho,aa8 k ho,trivial⟩ func148 fun f depth c0 c1 Z x h=>au h
def Qc:Rw S:=ah GQ KA fun t depth c0 c1 Z=>ab k (Aq k t depth c0 c1) (aje c0 c1 Z)
def U3:Fx S:=fp 27 [(148,nz (p6 GP UV) (Qb k) (Iu k))] [] k f154 4
theorem aa_ (ho:ai o):Tl o 154 (Qc k:Rw S):=am (U3 k) ⟨qO (aa9 k ho) (Mt k ho),trivial⟩ func154 fun t depth c0 c1 Z x h=>au h
def HR:Rw S:=ah Np amX fun i c0 Z=>ab k (vN k i c0) (ajf c0 Z)
def U4:Fx S:=fp 14 [(49,t7 k)] [] k f156 1
theorem LU (ho:ai o):Tl o 156 (HR k:Rw S):=am (U4 k) ⟨wI k ho,trivial⟩ func156 fun i c0 Z x h=>au h
def HS:Rw S:=ah Np eF fun p c0 Z=>ab k (vO k p c0) (ajg c0 Z)
def U5:Fx S:=fp 5 [] [] k f157 1
theorem LV (ho:ai o):Tl o 157 (HS k:Rw S):=am (U5 k) trivial func157 fun p c0 Z x h=>au h
def tX (hd:e_ S):Rw S:=ah GQ KA fun t depth c0 c1 Z=>hd t depth c0 c1 (CA c0 c1 Z)
def Qd (hd:e_ S) (k:Nat):Rw S:=ah Nq UX fun l depth c0 c1 c4 Z=>ab k (Fy hd k l depth c0 c1 c4) (CB c0 c1 c4 Z)
def DR (hd:e_ S) (k:Nat):Fx S:=fp 42 [(77,tX hd),(157,HS k)] [(3,⟨[(2,aa),(3,aa),(4,aa),(10,ar 100010),(15,aa),(16,aa),(17,aa)],[(4,[aa,aa]),(1000000,[aa]),(1000001,[aa]),(1000002,[aa]),(1000003,[aa]),(1000004,[aa])]⟩,aA 5 11)] k f155 5
def NO (c0:Int) (c1:List Cl) (c4:Int) (l:List Tm) (depth:Int) (out10:List Tm) (v17:Int):St UU:=⟨[(2,(iI depth)),(3,(.func 157 [] [(pt 1000004)])),(4,(pt 4)),(10,(.own 100010 0)),(15,(sT l)),(16,(iI l.length)),(17,(iI v17))],[(4,.cells [(.func 148 [] [(pt 1000000),(pt 1000001),(pt 1000002)]),(.func 148 [] [(pt 1000000),(pt 1000001),(pt 1000003)])]),(1000000,bI c0),(1000001,.cells [(sC c1)]),(1000002,.cells [(.func 152 [] [])]),(1000003,.cells [(.func 153 [] [])]),(1000004,bI c4)],[(100010,⟨0,ET.T,out10⟩)],[(100010,.wr)]⟩
section
variable (hd:e_ S) (k:Nat) (l:List Tm) (depth c0:Int) (c1:List Cl) (c4:Int) (Z:Out UU->Option S)
theorem XX: ∀n out10 v17,(DR hd k).lp Z 3 [] n (NO c0 c1 c4 l depth out10 v17)=oL hd k (CB c0 c1 c4 Z) c0 c1 c4 l depth n out10 v17:=bw (yV hd k (CB c0 c1 c4 Z) c0 c1 c4 l depth)
end
theorem aba (o:Obj) (ho:ai o) (hd:e_ S) (Hd:Tl o 77 (tX hd)) (k:Nat):Tl o 155 (Qd hd k:Rw S):=am (DR hd k) ⟨Hd,LV k ho,trivial⟩ func155 fun l depth c0 c1 c4 Z x h=>aj (b:=Jc hd k (CB c0 c1 c4 Z) (fun out10 v17=>(DR hd k).lp Z 3 [] k (NO c0 c1 c4 l depth out10 v17)) l depth c0 c1 c4) (by kernel_rfl) (aj (by simp only [XX];rfl) (bv h))
def Qe (hd:e_ S) (k:Nat):Rw S:=ah afc amY fun l depth c0 c1 c4 Z=>ab k (Fz hd k l depth c0 c1 c4) (CC c0 c1 c4 Z)
def DS (hd:e_ S) (k:Nat):Fx S:=fp 42 [(77,tX hd),(156,HR k)] [(3,⟨[(2,aa),(3,aa),(4,aa),(10,ar 100010),(15,aa),(16,aa),(17,aa)],[(4,[aa,aa]),(1000000,[aa]),(1000001,[aa]),(1000002,[aa]),(1000003,[aa]),(1000004,[aa,aa,aa,aa,aa,aa])]⟩,aA 5 11)] k f155 5
def NP (c0:Int) (c1:List Cl) (c4:Tm) (l:List Tm) (depth:Int) (out10:List Tm) (v17:Int):St UU:=⟨[(2,(iI depth)),(3,(.func 156 [] [(pt 1000004)])),(4,(pt 4)),(10,(.own 100010 0)),(15,(sT l)),(16,(iI l.length)),(17,(iI v17))],[(4,.cells [(.func 148 [] [(pt 1000000),(pt 1000001),(pt 1000002)]),(.func 148 [] [(pt 1000000),(pt 1000001),(pt 1000003)])]),(1000000,bI c0),(1000001,.cells [(sC c1)]),(1000002,.cells [(.func 152 [] [])]),(1000003,.cells [(.func 153 [] [])]),(1000004,bT c4)],[(100010,⟨0,ET.T,out10⟩)],[(100010,.wr)]⟩
section
variable (hd:e_ S) (k:Nat) (l:List Tm) (depth c0:Int) (c1:List Cl) (c4:Tm) (Z:Out UU->Option S)
theorem XY: ∀n out10 v17,(DS hd k).lp Z 3 [] n (NP c0 c1 c4 l depth out10 v17)=oM hd k (CC c0 c1 c4 Z) c0 c1 c4 l depth n out10 v17:=bw (yW hd k (CC c0 c1 c4 Z) c0 c1 c4 l depth)
end
theorem abb (o:Obj) (ho:ai o) (hd:e_ S) (Hd:Tl o 77 (tX hd)) (k:Nat):Tl o 155 (Qe hd k:Rw S):=am (DS hd k) ⟨Hd,LU k ho,trivial⟩ func155 fun l depth c0 c1 c4 Z x h=>aj (b:=Jd hd k (CC c0 c1 c4 Z) (fun out10 v17=>(DS hd k).lp Z 3 [] k (NP c0 c1 c4 l depth out10 v17)) l depth c0 c1 c4) (by kernel_rfl) (aj (by simp only [XY];rfl) (bv h))
def DQ (hd:e_ S) (k:Nat):Fx S:=fp 98 [(148,Iu k),(154,Qc k),(155,nz (p6 Nq UX) (Qd hd k) (Qe hd k))] [(13,⟨[(2,aa),(3,aa),(6,aa),(8,aa),(10,aa),(53,aa),(54,aa),(55,aa)],[(3,[aa,aa]),(6,[aa,aa,aa,ar 200387,ar 200388,ar 200389]),(8,[aa,aa,aa,aa,aa,ar 200517]),(10,[aa]),(1000000,[aa]),(1000001,[aa]),(1000002,[aa]),(1000003,[aa])]⟩,aA 11 767)] k f77 4
def NN (c0:Int) (c1:List Cl) (t:Tm) (r1:List Cl×Int) (r2:List Tm×Int) (depth:Int) (ez:Int) (b8_5:List (Br Tm)) (v55:Int):St UU:=⟨[(2,(iI depth)),(3,(pt 3)),(6,(pt 6)),(8,(pt 8)),(10,(pt 10)),(53,(sB t.sys)),(54,(iI t.sys.length)),(55,(iI v55))],[(3,.cells [(.func 148 [] [(pt 1000000),(pt 1000001),(pt 1000002)]),(.func 148 [] [(pt 1000000),(pt 1000001),(pt 1000003)])]),(6,.cells [(iI 0),(iI 0),eC,(.own 200387 0),(.own 200388 0),(.own 200389 0)]),(8,.cells [(iI t.kind),(iI t.n),(.str t.name),(sC r1.1),(sT r2.1),(.own 200517 0)]),(10,bI ez),(1000000,bI c0),(1000001,.cells [(sC c1)]),(1000002,.cells [(.func 152 [] [])]),(1000003,.cells [(.func 153 [] [])])],[(200517,⟨0,ET.B,b8_5⟩),(200389,dU),(200388,eh),(200387,dY)],[(200517,.wr),(200389,.wr),(200388,.wr),(200387,.wr)]⟩
section
variable (hd:e_ S) (k:Nat) (t:Tm) (depth c0:Int) (c1:List Cl) (Z:Out UU->Option S)
theorem XW (r1 r2): ∀n ez b8_5 v55,(DQ hd k).lp Z 13 [] n (NN c0 c1 t r1 r2 depth ez b8_5 v55)=j_ hd k (CA c0 c1 Z) c0 c1 t r1 r2 depth n ez b8_5 v55:=iG (yX hd k (CA c0 c1 Z) c0 c1 t r1 r2 depth)
end
theorem Gx (o:Obj) (ho:ai o): ∀k:Nat,Tl o 77 (tX (g6 k:e_ S))
 |0=>jh fun t depth c0 c1 Z x h=>by cases h
 |k+1=>am (DQ (g6 k) k) ⟨Mt k ho,aa_ k ho,qO (aba o ho (g6 k) (Gx o ho k) k) (abb o ho (g6 k) (Gx o ho k) k),trivial⟩ func77 fun t depth c0 c1 Z x h=>aj (b:=Je (g6 k) k (CA c0 c1 Z) (fun r1 r2 ez b8_5 v55=>(DQ (g6 k) k).lp Z 13 [] k (NN c0 c1 t r1 r2 depth ez b8_5 v55)) t depth c0 c1) (by kernel_rfl) (aj (by simp only [XW];rfl) h)
def Qf:Rw S:=ah jx xn fun i Z=>ab k (Fq k i) (ajh Z)
def U6:Fx S:=fp 8 [] [] k f78 0
theorem abc (ho:ai o):Tl o 78 (Qf k:Rw S):=am (U6 k) trivial func78 fun i Z x h=>au h
def Qg:Rw S:=ah oI xn fun s i Z=>ab k (rQ k s i) (d3 Z)
def U7:Fx S:=fp 24 [(232,yi k),(244,Ii k)] [] k f159 0
theorem abd (ho:ai o):Tl o 159 (Qg k:Rw S):=am (U7 k) ⟨Bw k ho,Mi k ho,trivial⟩ func159 fun s i Z x h=>au h
def HT:Rw S:=ah afd eF fun f depth c0 Z=>ab k (rI k f depth c0) (xX c0 Z)
def DT:Fx S:=fp 37 [(146,lK k),(159,Qg k)] [(3,⟨[(1,aa),(2,aa),(7,ar 100007),(10,aa),(11,aa),(12,aa)],[(1000000,[aa])]⟩,aA 5 11)] k f158 1
def NQ (c0 depth:Int) (f:List Cl) (v12:Int) (out7:List Cl):St UU:=⟨[(1,(iI depth)),(2,(pt 1000000)),(7,(.own 100007 0)),(10,(sC f)),(11,(iI f.length)),(12,(iI v12))],[(1000000,bI c0)],[(100007,⟨0,ET.C,out7⟩)],[(100007,.wr)]⟩
section
variable (k:Nat) (f:List Cl) (depth c0:Int) (Z:Out UU->Option S)
theorem XZ: ∀n v12 out7,(DT k).lp Z 3 [] n (NQ c0 depth f v12 out7)=sK k (xX c0 Z) c0 depth f n v12 out7:=bw (yS k (xX c0 Z) c0 depth f)
end
theorem LW (ho:ai o):Tl o 158 (HT k:Rw S):=am (DT k) ⟨mh k ho,abd k ho,trivial⟩ func158 fun f depth c0 Z x h=>aj (b:=I_ k (xX c0 Z) (fun v12 out7=>(DT k).lp Z 3 [] k (NQ c0 depth f v12 out7)) f depth c0) (by kernel_rfl) (aj (by simp only [XZ];rfl) (bv h))
def Qi:Rw S:=ah Nr eF fun t depth c0 Z=>ab k (Ar k t depth c0) (xX c0 Z)
def U9:Fx S:=fp 27 [(158,HT k)] [] k f154 1
theorem abf (ho:ai o):Tl o 154 (Qi k:Rw S):=am (U9 k) ⟨LW k ho,trivial⟩ func154 fun t depth c0 Z x h=>au h
def tY (hd:fc S):Rw S:=ah Nr eF fun t depth c0 Z=>hd t depth c0 (CD c0 Z)
def Qj (hd:fc S) (k:Nat):Rw S:=ah Ns DM fun l depth c0 c1 Z=>ab k (Fv hd k l depth c0 c1) (CE c0 c1 Z)
def DV (hd:fc S) (k:Nat):Fx S:=fp 42 [(77,tY hd),(157,HS k)] [(3,⟨[(2,aa),(3,aa),(4,aa),(10,ar 100010),(15,aa),(16,aa),(17,aa)],[(4,[aa,aa]),(1000000,[aa]),(1000001,[aa])]⟩,aA 5 11)] k f155 2
def NS (c0 c1:Int) (l:List Tm) (depth:Int) (out10:List Tm) (v17:Int):St UU:=⟨[(2,(iI depth)),(3,(.func 157 [] [(pt 1000001)])),(4,(pt 4)),(10,(.own 100010 0)),(15,(sT l)),(16,(iI l.length)),(17,(iI v17))],[(4,.cells [(.func 158 [] [(pt 1000000)]),(.func 158 [] [(pt 1000000)])]),(1000000,bI c0),(1000001,bI c1)],[(100010,⟨0,ET.T,out10⟩)],[(100010,.wr)]⟩
section
variable (hd:fc S) (k:Nat) (l:List Tm) (depth c0 c1:Int) (Z:Out UU->Option S)
theorem X1: ∀n out10 v17,(DV hd k).lp Z 3 [] n (NS c0 c1 l depth out10 v17)=oJ hd k (CE c0 c1 Z) c0 c1 l depth n out10 v17:=bw (yT hd k (CE c0 c1 Z) c0 c1 l depth)
end
theorem abg (o:Obj) (ho:ai o) (hd:fc S) (Hd:Tl o 77 (tY hd)) (k:Nat):Tl o 155 (Qj hd k:Rw S):=am (DV hd k) ⟨Hd,LV k ho,trivial⟩ func155 fun l depth c0 c1 Z x h=>aj (b:=Ja hd k (CE c0 c1 Z) (fun out10 v17=>(DV hd k).lp Z 3 [] k (NS c0 c1 l depth out10 v17)) l depth c0 c1) (by kernel_rfl) (aj (by simp only [X1];rfl) (bv h))
def Qk (hd:fc S) (k:Nat):Rw S:=ah afe amZ fun l depth c0 c1 Z=>ab k (Fw hd k l depth c0 c1) (CF c0 c1 Z)
def DW (hd:fc S) (k:Nat):Fx S:=fp 42 [(77,tY hd),(156,HR k)] [(3,⟨[(2,aa),(3,aa),(4,aa),(10,ar 100010),(15,aa),(16,aa),(17,aa)],[(4,[aa,aa]),(1000000,[aa]),(1000001,[aa,aa,aa,aa,aa,aa])]⟩,aA 5 11)] k f155 2
def NT (c0:Int) (c1:Tm) (l:List Tm) (depth:Int) (out10:List Tm) (v17:Int):St UU:=⟨[(2,(iI depth)),(3,(.func 156 [] [(pt 1000001)])),(4,(pt 4)),(10,(.own 100010 0)),(15,(sT l)),(16,(iI l.length)),(17,(iI v17))],[(4,.cells [(.func 158 [] [(pt 1000000)]),(.func 158 [] [(pt 1000000)])]),(1000000,bI c0),(1000001,bT c1)],[(100010,⟨0,ET.T,out10⟩)],[(100010,.wr)]⟩
section
variable (hd:fc S) (k:Nat) (l:List Tm) (depth c0:Int) (c1:Tm) (Z:Out UU->Option S)
theorem X2: ∀n out10 v17,(DW hd k).lp Z 3 [] n (NT c0 c1 l depth out10 v17)=oK hd k (CF c0 c1 Z) c0 c1 l depth n out10 v17:=bw (yU hd k (CF c0 c1 Z) c0 c1 l depth)
end
theorem abh (o:Obj) (ho:ai o) (hd:fc S) (Hd:Tl o 77 (tY hd)) (k:Nat):Tl o 155 (Qk hd k:Rw S):=am (DW hd k) ⟨Hd,LU k ho,trivial⟩ func155 fun l depth c0 c1 Z x h=>aj (b:=Jb hd k (CF c0 c1 Z) (fun out10 v17=>(DW hd k).lp Z 3 [] k (NT c0 c1 l depth out10 v17)) l depth c0 c1) (by kernel_rfl) (aj (by simp only [X2];rfl) (bv h))
def DU (hd:fc S) (k:Nat):Fx S:=fp 98 [(154,Qi k),(155,nz (p6 Ns DM) (Qj hd k) (Qk hd k)),(158,HT k)] [(13,⟨[(2,aa),(3,aa),(6,aa),(8,aa),(10,aa),(53,aa),(54,aa),(55,aa)],[(3,[aa,aa]),(6,[aa,aa,aa,ar 200387,ar 200388,ar 200389]),(8,[aa,aa,aa,aa,aa,ar 200517]),(10,[aa]),(1000000,[aa])]⟩,aA 11 767)] k f77 1
def NR (c0:Int) (t:Tm) (r1:List Cl×Int) (r2:List Tm×Int) (depth:Int) (ez:Int) (b8_5:List (Br Tm)) (v55:Int):St UU:=⟨[(2,(iI depth)),(3,(pt 3)),(6,(pt 6)),(8,(pt 8)),(10,(pt 10)),(53,(sB t.sys)),(54,(iI t.sys.length)),(55,(iI v55))],[(3,.cells [(.func 158 [] [(pt 1000000)]),(.func 158 [] [(pt 1000000)])]),(6,.cells [(iI 0),(iI 0),eC,(.own 200387 0),(.own 200388 0),(.own 200389 0)]),(8,.cells [(iI t.kind),(iI t.n),(.str t.name),(sC r1.1),(sT r2.1),(.own 200517 0)]),(10,bI ez),(1000000,bI c0)],[(200517,⟨0,ET.B,b8_5⟩),(200389,dU),(200388,eh),(200387,dY)],[(200517,.wr),(200389,.wr),(200388,.wr),(200387,.wr)]⟩
section
variable (hd:fc S) (k:Nat) (t:Tm) (depth c0:Int) (Z:Out UU->Option S)
theorem X0 (r1 r2): ∀n ez b8_5 v55,(DU hd k).lp Z 13 [] n (NR c0 t r1 r2 depth ez b8_5 v55)=kc hd k (CD c0 Z) c0 t r1 r2 depth n ez b8_5 v55:=iG (yY hd k (CD c0 Z) c0 t r1 r2 depth)
end
theorem Gy (o:Obj) (ho:ai o): ∀k:Nat,Tl o 77 (tY (gP k:fc S))
 |0=>jh fun t depth c0 Z x h=>by cases h
 |k+1=>am (DU (gP k) k) ⟨abf k ho,qO (abg o ho (gP k) (Gy o ho k) k) (abh o ho (gP k) (Gy o ho k) k),LW k ho,trivial⟩ func77 fun t depth c0 Z x h=>aj (b:=Jf (gP k) k (CD c0 Z) (fun r1 r2 ez b8_5 v55=>(DU (gP k) k).lp Z 13 [] k (NR c0 t r1 r2 depth ez b8_5 v55)) t depth c0) (by kernel_rfl) (aj (by simp only [X0];rfl) h)
def x_:Rw S:=ah GO xn fun t i a_r Z=>ab k (n7 k t i a_r) (hJ Z)
def U_:Fx S:=fp 48 [(74,Sn k),(75,t_ k),(76,Sq k),(77,nz (p6 GQ KA) (tX (g6 k)) (tY (gP k))),(78,Qf k)] [] k f28 0
theorem Bk (ho:ai o):Tl o 28 (x_ k:Rw S):=am (U_ k) ⟨adh k ho,wK k ho,adk k ho,qO (Gx o ho k) (Gy o ho k),abc k ho,trivial⟩ func28 fun t i a_r Z x h=>au h
def CO:Rw S:=ah Nu eF fun line a_r c0 Z=>ab k (mR k line a_r c0) (lJ Z)
def Va:Fx S:=fp 44 [(28,x_ k),(35,Sj k),(210,nI k),(270,nH k)] [] k f212 1
theorem F1 (ho:ai o):Tl o 212 (CO k:Rw S):=am (Va k) ⟨Bk k ho,ade k ho,oB k ho,oA k ho,trivial⟩ func212 fun line a_r c0 Z x h=>au h
def CQ:Rw S:=ah Nk eF fun t vars dims c0 Z=>ab k (iz k t vars dims c0) (lJ Z)
def Vb:Fx S:=fp 30 [(119,Ij k),(210,nI k),(270,nH k)] [] k f209 1
theorem F5 (ho:ai o):Tl o 209 (CQ k:Rw S):=am (Vb k) ⟨Mj k ho,oB k ho,oA k ho,trivial⟩ func209 fun t vars dims c0 Z x h=>au h
def tZ:Rw S:=ah BY xn fun kind kids Z=>ab k (jm k kind kids) (Cp Z)
def Vc:Fx S:=fx 8 (fun _=>[]) (fun _=>false) [] [] k f186 true [] 0
theorem wG (ho:ai o):Tl o 186 (tZ k:Rw S):=am (Vc k) trivial func186 fun kind kids Z x h=>au h
def ya:Rw S:=ah w7 eF fun t c0 Z=>ab k (iy k t c0) (aji Z)
def Vd:Fx S:=fp 28 [(40,nE k),(210,nI k),(270,nH k)] [] k f213 1
theorem Bm (ho:ai o):Tl o 213 (ya k:Rw S):=am (Vd k) ⟨ow k ho,oB k ho,oA k ho,trivial⟩ func213 fun t c0 Z x h=>au h
def Qm:Rw S:=ah aff xn fun line phi a a_end a_r Z=>ab k (Lk k line phi a a_end a_r) (hJ Z)
def Vf:Fx S:=fp 49 [(186,tZ k),(205,t8 k),(207,yl k),(209,CQ k),(211,Ik k),(212,CO k),(213,ya k),(270,nH k),(302,Sg k)] [] k f274 0
theorem abj (ho:ai o):Tl o 274 (Qm k:Rw S):=am (Vf k) ⟨wG k ho,wJ k ho,Bx k ho,F5 k ho,Mk k ho,F1 k ho,Bm k ho,oA k ho,ada k ho,trivial⟩ func274 fun line phi a a_end a_r Z x h=>au h
section
variable (k:Nat) (t:Tm) (numbers:List Int) (c0:Int) (c1:Tm) (c2:Int) (Z:Out UU->Option S)
end
section
variable (hd:XS S) (k:Nat) (t:Tm) (c0:Int) (Z:Out UU->Option S)
end
section
variable (hd:XN S) (k:Nat) (t:Tm) (a_n:Int) (Z:Out UU->Option S)
end
section
variable (hd:XO S) (k:Nat) (t:Tm) (a_n:Int) (u:Tm) (vars dims:Int) (Z:Out UU->Option S)
end
section
variable (hd:XR S) (k:Nat) (t:Tm) (c0:Int) (Z:Out UU->Option S)
end
def HU:Rw S:=ah Nu eF fun t a_r c0 Z=>ab k (FO k t a_r c0) (lJ Z)
def Vg:Fx S:=fp 18 [(28,x_ k),(93,nF k),(94,nG k)] [] k f130 1
theorem LX (ho:ai o):Tl o 130 (HU k:Rw S):=am (Vg k) ⟨Bk k ho,ox k ho,oy k ho,trivial⟩ func130 fun t a_r c0 Z x h=>au h
def nD:Rw S:=ah BY xn fun kind kids Z=>ab k (fS k kind kids) (Cp Z)
def Vh:Fx S:=fx 8 (fun _=>[]) (fun _=>false) [] [] k f58 true [] 0
theorem ov (ho:ai o):Tl o 58 (nD k:Rw S):=am (Vh k) trivial func58 fun kind kids Z x h=>au h
def CR:Rw S:=ah afi xn fun kind a_r kids Z=>ab k (AP k kind a_r kids) (ajj Z)
def Vj:Fx S:=fx 11 (fun _=>[]) (fun _=>false) [] [] k f73 true [] 0
theorem F6 (ho:ai o):Tl o 73 (CR k:Rw S):=am (Vj k) trivial func73 fun kind a_r kids Z x h=>au h
def Qp:Rw S:=ah Nv xn fun line phi a Z=>ab k (Lj k line phi a) (hJ Z)
def Vk:Fx S:=fp 17 [(274,Qm k)] [] k f219 0
theorem abm (ho:ai o):Tl o 219 (Qp k:Rw S):=am (Vk k) ⟨abj k ho,trivial⟩ func219 fun line phi a Z x h=>au h
def Qq:Rw S:=ah afg eF fun line phi a c0 Z=>ab k (LN k line phi a c0) (lJ Z)
def Vl:Fx S:=fp 21 [(93,nF k),(94,nG k),(219,Qp k)] [] k f134 1
theorem abn (ho:ai o):Tl o 134 (Qq k:Rw S):=am (Vl k) ⟨ox k ho,oy k ho,abm k ho,trivial⟩ func134 fun line phi a c0 Z x h=>au h
def kP:Rw S:=ah afj xn fun f kids Z=>ab k (h_ k f kids) (P3 Z)
def Vn:Fx S:=fp 8 [] [] k f59 0
theorem lg (ho:ai o):Tl o 59 (kP k:Rw S):=am (Vn k) trivial func59 fun f kids Z x h=>au h
def HW:Rw S:=ah afk xn fun sys Z=>ab k (rG k sys) (ajl Z)
def Vo:Fx S:=fx 8 (fun _=>[]) (fun _=>false) [(186,tZ k)] [] k f208 true [] 0
theorem LZ (ho:ai o):Tl o 208 (HW k:Rw S):=am (Vo k) ⟨wG k ho,trivial⟩ func208 fun sys Z x h=>au h
def Qr:Rw S:=ah w7 eF fun line c0 Z=>ab k (Ll k line c0) (lJ Z)
def Vp:Fx S:=fp 25 [(28,x_ k),(29,C8 k),(210,nI k),(270,nH k)] [] k f260 1
theorem abo (ho:ai o):Tl o 260 (Qr k:Rw S):=am (Vp k) ⟨Bk k ho,Gk k ho,oB k ho,oA k ho,trivial⟩ func260 fun line c0 Z x h=>au h
def Qs:Rw S:=ah w8 xn fun line a sys Z=>ab k (Lh k line a sys) (hJ Z)
def DX:Fx S:=fp 78 [(41,pf (fT k)),(186,tZ k),(207,yl k),(208,HW k),(210,nI k),(212,CO k),(213,ya k),(260,Qr k)] [(5,⟨[(3,aa),(6,aa),(8,aa),(9,aa),(36,aa),(37,aa),(38,aa)],[(3,[aa,aa,aa,aa,aa,aa]),(6,[aa,aa,aa,ar 200387,ar 200388,ar 200389]),(9,[aa,aa,aa,ar 200579,aa,ar 200581]),(19000,[aa])]⟩,aA 7 47)] k f183 0
def NV (r3:Tm) (r9:Int×Int×ByteArray×List Tm) (r6:Tm) (d_:Int) (b9_5:List (Br Tm)) (v38:Int):St UU:=⟨[(3,(pt 3)),(6,(pt 6)),(8,(pt 19000)),(9,(pt 9)),(36,(sB r6.sys)),(37,(iI r6.sys.length)),(38,(iI v38))],[(3,bT r3),(6,.cells [(iI 0),(iI 0),eC,(.own 200387 0),(.own 200388 0),(.own 200389 0)]),(9,.cells [(iI r9.1),(iI r9.2.1),(.str r9.2.2.1),(.own 200579 0),(sT r9.2.2.2),(.own 200581 0)]),(19000,bI d_)],[(200581,⟨0,ET.B,b9_5⟩),(200579,dY),(200389,dU),(200388,eh),(200387,dY)],[(200581,.wr),(200579,.wr),(200389,.wr),(200388,.wr),(200387,.wr)]⟩
section
variable (k:Nat) (line a:Tm) (sys:List (Br Tm)) (Z:Out UU->Option S)
theorem X5 (r3 r9 r6): ∀n d_ b9_5 v38,(DX k).lp Z 5 [] n (NV r3 r9 r6 d_ b9_5 v38)=GT k (hJ Z) r3 r9 r6 n d_ b9_5 v38:=iG (KK k (hJ Z) r3 r9 r6)
end
theorem abp (ho:ai o):Tl o 183 (Qs k:Rw S):=am (DX k) ⟨sG o ho k,wG k ho,Bx k ho,LZ k ho,oB k ho,F1 k ho,Bm k ho,abo k ho,trivial⟩ func183 fun line a sys Z x h=>aj (b:=T_ k (hJ Z) (fun r3 r9 r6 d_ b9_5 v38=>(DX k).lp Z 5 [] k (NV r3 r9 r6 d_ b9_5 v38)) line a sys) (by kernel_rfl) (aj (by simp only [X5];rfl) (bv h))
def Qt:Rw S:=ah Nw eF fun line a sys c0 Z=>ab k (LJ k line a sys c0) (lJ Z)
def Vq:Fx S:=fp 21 [(93,nF k),(94,nG k),(183,Qs k)] [] k f102 1
theorem abq (ho:ai o):Tl o 102 (Qt k:Rw S):=am (Vq k) ⟨ox k ho,oy k ho,abp k ho,trivial⟩ func102 fun line a sys c0 Z x h=>au h
def Qu:Rw S:=ah w7 eF fun t c0 Z=>ab k (LK k t c0) (lJ Z)
def Vr:Fx S:=fp 9 [(29,C8 k),(130,HU k)] [] k f67 1
theorem abr (ho:ai o):Tl o 67 (Qu k:Rw S):=am (Vr k) ⟨Gk k ho,LX k ho,trivial⟩ func67 fun t c0 Z x h=>au h
def t6:Rw S:=ah afl xn fun kind l kids Z=>ab k (iZ k kind l kids) (P4 Z)
def Vs:Fx S:=fx 11 (fun _=>[]) (fun _=>false) [] [] k f63 true [] 0
theorem wH (ho:ai o):Tl o 63 (t6 k:Rw S):=am (Vs k) trivial func63 fun kind l kids Z x h=>au h
section
variable (k:Nat) (t:Tm) (Z:Out UU->Option S)
end
def Qv:Rw S:=ah aex xn fun b Z=>ab k (FK k b) (P3 Z)
def Vu:Fx S:=fp 11 [(59,kP k)] [] k f118 0
theorem abt (ho:ai o):Tl o 118 (Qv k:Rw S):=am (Vu k) ⟨lg k ho,trivial⟩ func118 fun b Z x h=>au h
def Qw:Rw S:=ah aey xn fun l Z=>ab k (FJ k l) (CG Z)
def DY:Fx S:=fx 22 (fun _=>[]) (fun _=>false) [(118,Qv k)] [(3,⟨[(1,aa),(5,ar 100005),(8,aa),(9,aa),(10,aa)],[]⟩,aA 5 11)] k f54 false [true] 0
def NW (l:List (Br Tm)) (v10:Int) (out5:List (Br Tm)):St UU:=⟨[(1,(.func 118 [] [])),(5,(.own 100005 0)),(8,(sB l)),(9,(iI l.length)),(10,(iI v10))],[],[(100005,⟨0,ET.B,out5⟩)],[(100005,.wr)]⟩
section
variable (k:Nat) (l:List (Br Tm)) (Z:Out UU->Option S)
theorem X6: ∀n v10 out5,(DY k).lp Z 3 [] n (NW l v10 out5)=sZ k (CG Z) l n v10 out5:=bw (zi k (CG Z) l)
end
theorem abu (ho:ai o):Tl o 54 (Qw k:Rw S):=am (DY k) ⟨abt k ho,trivial⟩ func54 fun l Z x h=>aj (b:=Js k (CG Z) (fun v10 out5=>(DY k).lp Z 3 [] k (NW l v10 out5)) l) (by kernel_rfl) (aj (by simp only [X6];rfl) (bv h))
def HX:Rw S:=ah gG xn fun g Z=>ab k (vZ k g) (xY Z)
def Vv:Fx S:=fp 6 [(54,Qw k)] [] k f53 0
theorem L0 (ho:ai o):Tl o 53 (HX k:Rw S):=am (Vv k) ⟨abu k ho,trivial⟩ func53 fun g Z x h=>au h
def CT:Rw S:=ah M4 xn fun a es Z=>ab k (n9 k a es) (P4 Z)
def Vw:Fx S:=fx 9 (fun _=>[]) (fun _=>false) [(63,t6 k)] [] k f57 true [] 0
theorem F8 (ho:ai o):Tl o 57 (CT k:Rw S):=am (Vw k) ⟨wH k ho,trivial⟩ func57 fun a es Z x h=>au h
def Qx:Rw S:=ah B0 eF fun c c0 Z=>ab k (Lp k c c0) (ajm c0 Z)
def Vx:Fx S:=fp 14 [(149,ua k)] [] k f273 1
theorem abv (ho:ai o):Tl o 273 (Qx k:Rw S):=am (Vx k) ⟨wL k ho,trivial⟩ func273 fun c c0 Z x h=>au h
def Qy:Rw S:=ah aez eF fun l c0 Z=>ab k (Lr k l c0) (CH c0 Z)
def DZ:Fx S:=fp 29 [(273,Qx k)] [(3,⟨[(1,aa),(5,ar 100005),(10,aa),(11,aa),(12,aa)],[(1000000,[aa])]⟩,aA 5 11)] k f272 1
def NX (c0:Int) (l:List Cl) (v12:Int) (out5:List Cl):St UU:=⟨[(1,(.func 273 [] [(pt 1000000)])),(5,(.own 100005 0)),(10,(sC l)),(11,(iI l.length)),(12,(iI v12))],[(1000000,bI c0)],[(100005,⟨0,ET.C,out5⟩)],[(100005,.wr)]⟩
section
variable (k:Nat) (l:List Cl) (c0:Int) (Z:Out UU->Option S)
theorem X7: ∀n v12 out5,(DZ k).lp Z 3 [] n (NX c0 l v12 out5)=GU k (CH c0 Z) c0 l n v12 out5:=bw (KL k (CH c0 Z) c0 l)
end
theorem abw (ho:ai o):Tl o 272 (Qy k:Rw S):=am (DZ k) ⟨abv k ho,trivial⟩ func272 fun l c0 Z x h=>aj (b:=Ua k (CH c0 Z) (fun v12 out5=>(DZ k).lp Z 3 [] k (NX c0 l v12 out5)) l c0) (by kernel_rfl) (aj (by simp only [X7];rfl) (bv h))
def Qz:Rw S:=ah B1 xn fun f i Z=>ab k (Lo k f i) (aG Z)
def Vy:Fx S:=fp 20 [(146,lK k),(205,t8 k),(239,Ip k),(272,Qy k)] [] k f218 0
theorem abx (ho:ai o):Tl o 218 (Qz k:Rw S):=am (Vy k) ⟨mh k ho,wJ k ho,Mo k ho,abw k ho,trivial⟩ func218 fun f i Z x h=>au h
def QA:Rw S:=ah Nl eF fun f c0 Z=>ab k (LI k f c0) (HP Z)
def Vz:Fx S:=fp 39 [(28,x_ k),(58,nD k),(93,nF k),(94,nG k),(143,C4 k),(218,Qz k)] [] k f131 1
theorem aby (ho:ai o):Tl o 131 (QA k:Rw S):=am (Vz k) ⟨Bk k ho,ov k ho,ox k ho,oy k ho,Gi k ho,abx k ho,trivial⟩ func131 fun f c0 Z x h=>au h
def ajA:Rw S:=ah BZ Kx fun c1 iY gi gr gw gx gy gz gA gC fP fK fL fM fN fO gj gk gm gn gq gu Z=>ab k (vW k c1 iY gi gr gw gx gy gz gA gC fP fK fL fM fN fO gj gk gm gn gq gu) (P6 c1 gi gr gw gx gy gz gA gC fP fK fL fM fN fO gj gk gm gn gq gu Z)
def QD:Rw S:=ah BZ Kx fun c1 iY gi gr gw gx gy gz gA gC fP fK fL fM fN fO gj gk gm gn gq gu Z=>ab k (vW k c1 iY gi gr gw gx gy gz gA gC fP fK fL fM fN fO gj gk gm gn gq gu) (ajn Z)
def VA:Fx S:=fp 8 [(56,qX k)] [] k f132 3
theorem abA (ho:ai o):Tl o 132 (ajA k:Rw S):=am (VA k) ⟨su k ho,trivial⟩ func132 fun c1 iY gi gr gw gx gy gz gA gC fP fK fL fM fN fO gj gk gm gn gq gu Z x h=>au h
theorem abz (ho:ai o):Tl o 132 (QD k:Rw S):=Kl (n:=2) (m:=1) (abA k ho) fun c1 iY gi gr gw gx gy gz gA gC fP fK fL fM fN fO gj gk gm gn gq gu Z x h=>aj (b:=ab k (vW k c1 iY gi gr gw gx gy gz gA gC fP fK fL fM fN fO gj gk gm gn gq gu) (P6 c1 gi gr gw gx gy gz gA gC fP fK fL fM fN fO gj gk gm gn gq gu (vH 2 1 [.cells [(pt 2)],bT c1,.cells [(iI iY),(sC gi),(iI gr),(iI gw),(.str gx),(sC gy),(sT gz),(sB gA),(sB gC),(iI fP),(iI fK),(.str fL),(sC fM),(sT fN),(sB fO),(iI gj),(iI gk),(.str gm),(sC gn),(sT gq),(sB gu)]] Z))) (by kernel_rfl) (aj (congrArg (ab k (vW k c1 iY gi gr gw gx gy gz gA gC fP fK fL fM fN fO gj gk gm gn gq gu)) (funext fun r=>if_pos ⟨rfl,rfl⟩)) h)
def QE:Rw S:=ah aeA amQ fun dO c0_1 bK bL bM bN bO bP dX cx cq cr ct cu cv bW bX bY bZ b8 b9 c2 Z=>ab k (Lz k dO c0_1 bK bL bM bN bO bP dX cx cq cr ct cu cv bW bX bY bZ b8 b9 c2) (ajo c0_1 bK bL bM bN bO bP dX cx cq cr ct cu cv bW bX bY bZ b8 b9 c2 Z)
def VB:Fx S:=fx 20 (fun _=>[]) (fun _=>false) [(59,kP k),(132,QD k)] [] k f71 true [false,true] 3
theorem abB (ho:ai o):Tl o 71 (QE k:Rw S):=am (VB k) ⟨lg k ho,abz k ho,trivial⟩ func71 fun dO c0_1 bK bL bM bN bO bP dX cx cq cr ct cu cv bW bX bY bZ b8 b9 c2 Z x h=>au h
def yb:Rw S:=ah gG xn fun a_e Z=>ab k (rP k a_e) (Cp Z)
def VE:Fx S:=fx 6 (fun _=>[]) (fun _=>false) [(58,nD k)] [] k f61 true [] 0
theorem Bn (ho:ai o):Tl o 61 (yb k:Rw S):=am (VE k) ⟨ov k ho,trivial⟩ func61 fun a_e Z x h=>au h
def QG:Rw S:=ah M5 uB fun b dE aU a6 a7 a8 a_ ba be bq bg aV aW aX aY aZ bj bk bm bn bo bp Z=>ab k (Lv k b dE aU a6 a7 a8 a_ ba be bq bg aV aW aX aY aZ bj bk bm bn bo bp) (ajp aU a6 a7 a8 a_ ba be bq bg aV aW aX aY aZ bj bk bm bn bo bp Z)
def VF:Fx S:=fp 31 [(58,nD k),(59,kP k),(61,yb k),(134,Qq k)] [] k f133 2
theorem abD (ho:ai o):Tl o 133 (QG k:Rw S):=am (VF k) ⟨ov k ho,lg k ho,Bn k ho,abn k ho,trivial⟩ func133 fun b dE aU a6 a7 a8 a_ ba be bq bg aV aW aX aY aZ bj bk bm bn bo bp Z x h=>au h
def QH:Rw S:=ah aeB uB fun l dE aU a6 a7 a8 a_ ba be bq bg aV aW aX aY aZ bj bk bm bn bo bp Z=>ab k (LD k l dE aU a6 a7 a8 a_ ba be bq bg aV aW aX aY aZ bj bk bm bn bo bp) (CI aU a6 a7 a8 a_ ba be bq bg aV aW aX aY aZ bj bk bm bn bo bp Z)
def D0:Fx S:=fx 22 (fun _=>[]) (fun _=>false) [(133,QG k)] [(3,⟨[(1,aa),(5,ar 100005),(8,aa),(9,aa),(10,aa)],[(1000000,[aa]),(1000001,[aa,aa,aa,aa,aa,aa,aa,aa,aa,aa,aa,aa,aa,aa,aa,aa,aa,aa,aa,aa,aa])]⟩,aA 5 11)] k f54 false [true] 2
def NY (aU:List Cl) (aV:Int) (aW:ByteArray) (aX:List Cl) (aY:List Tm) (aZ:List (Br Tm)) (bj bk:Int) (bm:ByteArray) (bn:List Cl) (bo:List Tm) (a6:Int) (bp:List (Br Tm)) (a7:Int) (a8:ByteArray) (a_:List Cl) (ba:List Tm) (be bq:List (Br Tm)) (bg:Int) (l:List (Br Tm)) (dh v10:Int) (out5:List (Br Tm)):St UU:=⟨[(1,(.func 133 [] [(pt 1000000)])),(5,(.own 100005 0)),(8,(sB l)),(9,(iI l.length)),(10,(iI v10))],[(1000000,.cells [(pt 1000001)]),(1000001,.cells [(iI dh),(sC aU),(iI a6),(iI a7),(.str a8),(sC a_),(sT ba),(sB be),(sB bq),(iI bg),(iI aV),(.str aW),(sC aX),(sT aY),(sB aZ),(iI bj),(iI bk),(.str bm),(sC bn),(sT bo),(sB bp)])],[(100005,⟨0,ET.B,out5⟩)],[(100005,.wr)]⟩
section
variable (k:Nat) (l:List (Br Tm)) (dE:Int) (aU:List Cl) (a6 a7:Int) (a8:ByteArray) (a_:List Cl) (ba:List Tm) (be bq:List (Br Tm)) (bg aV:Int) (aW:ByteArray) (aX:List Cl) (aY:List Tm) (aZ:List (Br Tm)) (bj bk:Int) (bm:ByteArray) (bn:List Cl) (bo:List Tm) (bp:List (Br Tm)) (Z:Out UU->Option S)
theorem X8: ∀n dh v10 out5,(D0 k).lp Z 3 [] n (NY aU aV aW aX aY aZ bj bk bm bn bo a6 bp a7 a8 a_ ba be bq bg l dh v10 out5)=GY k (CI aU a6 a7 a8 a_ ba be bq bg aV aW aX aY aZ bj bk bm bn bo bp Z) aU aV aW aX aY aZ bj bk bm bn bo a6 bp a7 a8 a_ ba be bq bg l n dh v10 out5:=iG (KP k (CI aU a6 a7 a8 a_ ba be bq bg aV aW aX aY aZ bj bk bm bn bo bp Z) aU aV aW aX aY aZ bj bk bm bn bo a6 bp a7 a8 a_ ba be bq bg l)
end
theorem abE (ho:ai o):Tl o 54 (QH k:Rw S):=am (D0 k) ⟨abD k ho,trivial⟩ func54 fun l dE aU a6 a7 a8 a_ ba be bq bg aV aW aX aY aZ bj bk bm bn bo bp Z x h=>aj (b:=Ue k (CI aU a6 a7 a8 a_ ba be bq bg aV aW aX aY aZ bj bk bm bn bo bp Z) (fun dh v10 out5=>(D0 k).lp Z 3 [] k (NY aU aV aW aX aY aZ bj bk bm bn bo a6 bp a7 a8 a_ ba be bq bg l dh v10 out5)) l dE aU a6 a7 a8 a_ ba be bq bg aV aW aX aY aZ bj bk bm bn bo bp) (by kernel_rfl) (aj (by simp only [X8];rfl) (bv h))
def QI:Rw S:=ah w7 amR fun g dO c0_1 bK bL bM bN bO bP cx cq cr ct cu cv bW bX bY bZ b8 b9 Z=>ab k (Lw k g dO c0_1 bK bL bM bN bO bP cx cq cr ct cu cv bW bX bY bZ b8 b9) (CJ c0_1 bK bL bM bN bO bP bW bX bY bZ b8 b9 Z)
def D4:Fx S:=fp 74 [(53,HX k),(54,QH k),(57,CT k),(59,kP k),(71,QE k),(102,Qt k),(130,HU k),(131,QA k)] [(3,⟨[(2,aa),(3,aa),(4,aa),(21,aa),(22,aa),(23,aa)],[(2,[aa]),(3,[aa,aa,aa,aa,aa,aa]),(4,[aa,aa,aa,ar 200259,aa,aa]),(1000000,[aa,aa,aa,aa,aa,aa,aa,aa,ar 64200008,aa,aa,aa,aa,aa,aa,aa,aa,aa,aa,aa,aa])]⟩,aA 5 11)] k f66 1
def NZ (c0_1:List Cl) (cq:Int) (cr:ByteArray) (ct:List Cl) (cu:List Tm) (cv:List (Br Tm)) (bW bX:Int) (bY:ByteArray) (bZ:List Cl) (b8:List Tm) (bK:Int) (b9:List (Br Tm)) (bL:Int) (bM:ByteArray) (bN:List Cl) (bO:List Tm) (bP:List (Br Tm)) (cx:Int) (g:Tm) (r3:Int×Int×ByteArray×List Tm×List (Br Tm)) (j6:Int) (e0_8:List (Br Tm)) (v23:Int):St UU:=⟨[(2,(pt 2)),(3,(pt 3)),(4,(pt 4)),(21,(sB g.sys)),(22,(iI g.sys.length)),(23,(iI v23))],[(2,.cells [(pt 1000000)]),(3,bT g),(4,.cells [(iI r3.1),(iI r3.2.1),(.str r3.2.2.1),(.own 200259 0),(sT r3.2.2.2.1),(sB r3.2.2.2.2)]),(1000000,.cells [(iI j6),(sC c0_1),(iI bK),(iI bL),(.str bM),(sC bN),(sT bO),(sB bP),(.own 64200008 0),(iI cx),(iI cq),(.str cr),(sC ct),(sT cu),(sB cv),(iI bW),(iI bX),(.str bY),(sC bZ),(sT b8),(sB b9)])],[(64200008,⟨0,ET.B,e0_8⟩),(200259,dY)],[(64200008,.wr),(200259,.wr)]⟩
section
variable (k:Nat) (g:Tm) (dO:Int) (c0_1:List Cl) (bK bL:Int) (bM:ByteArray) (bN:List Cl) (bO:List Tm) (bP:List (Br Tm)) (cx cq:Int) (cr:ByteArray) (ct:List Cl) (cu:List Tm) (cv:List (Br Tm)) (bW bX:Int) (bY:ByteArray) (bZ:List Cl) (b8:List Tm) (b9:List (Br Tm)) (Z:Out UU->Option S)
theorem X9 (r3): ∀n j6 e0_8 v23,(D4 k).lp Z 3 [] n (NZ c0_1 cq cr ct cu cv bW bX bY bZ b8 bK b9 bL bM bN bO bP cx g r3 j6 e0_8 v23)=GX k (CJ c0_1 bK bL bM bN bO bP bW bX bY bZ b8 b9 Z) c0_1 cq cr ct cu cv bW bX bY bZ b8 bK b9 bL bM bN bO bP cx g r3 n j6 e0_8 v23:=iG (KO k (CJ c0_1 bK bL bM bN bO bP bW bX bY bZ b8 b9 Z) c0_1 cq cr ct cu cv bW bX bY bZ b8 bK b9 bL bM bN bO bP cx g r3)
end
theorem abF (ho:ai o):Tl o 66 (QI k:Rw S):=am (D4 k) ⟨L0 k ho,abE k ho,F8 k ho,lg k ho,abB k ho,abq k ho,LX k ho,aby k ho,trivial⟩ func66 fun g dO c0_1 bK bL bM bN bO bP cx cq cr ct cu cv bW bX bY bZ b8 b9 Z x h=>aj (b:=Ud k (CJ c0_1 bK bL bM bN bO bP bW bX bY bZ b8 b9 Z) (fun r3 j6 e0_8 v23=>(D4 k).lp Z 3 [] k (NZ c0_1 cq cr ct cu cv bW bX bY bZ b8 bK b9 bL bM bN bO bP cx g r3 j6 e0_8 v23)) g dO c0_1 bK bL bM bN bO bP cx cq cr ct cu cv bW bX bY bZ b8 b9) (by kernel_rfl) (aj (by simp only [X9];rfl) (bv h))
def QJ:Rw S:=ah jx xn fun a_n Z=>ab k (Ln k a_n) (P2 Z)
def VG:Fx S:=fx 5 (fun _=>[]) (fun _=>false) [] [] k f187 true [] 0
theorem abG (ho:ai o):Tl o 187 (QJ k:Rw S):=am (VG k) trivial func187 fun a_n Z x h=>au h
def QK:Rw S:=ah M6 eF fun t a f y c0 Z=>ab k (Lm k t a f y c0) (ajq Z)
def VH:Fx S:=fx 28 (fun _=>[]) (fun _=>false) [(186,tZ k),(187,QJ k),(209,CQ k)] [] k f262 true [] 1
theorem abH (ho:ai o):Tl o 262 (QK k:Rw S):=am (VH k) ⟨wG k ho,abG k ho,F5 k ho,trivial⟩ func262 fun t a f y c0 Z x h=>au h
def QL:Rw S:=ah aeC xn fun t a f y Z=>ab k (Li k t a f y) (hJ Z)
def VI:Fx S:=fp 28 [(41,pf (fT k)),(207,yl k),(213,ya k),(262,QK k)] [] k f220 0
theorem abI (ho:ai o):Tl o 220 (QL k:Rw S):=am (VI k) ⟨sG o ho k,Bx k ho,Bm k ho,abH k ho,trivial⟩ func220 fun t a f y Z x h=>au h
def QM:Rw S:=ah M6 eF fun t a f y c0 Z=>ab k (LM k t a f y c0) (lJ Z)
def VJ:Fx S:=fp 24 [(93,nF k),(94,nG k),(220,QL k)] [] k f136 1
theorem abJ (ho:ai o):Tl o 136 (QM k:Rw S):=am (VJ k) ⟨ox k ho,oy k ho,abI k ho,trivial⟩ func136 fun t a f y c0 Z x h=>au h
def HY:Rw S:=ah Nt Kx fun a_x c1 iY gi gr gw gx gy gz gA gC fP fK fL fM fN fO gj gk gm gn gq gu Z=>ab k (FF k a_x c1 iY gi gr gw gx gy gz gA gC fP fK fL fM fN fO gj gk gm gn gq gu) (ajr c1 gi gr gw gx gy gz gA gC fP fK fL fM fN fO gj gk gm gn gq gu Z)
def VK:Fx S:=fx 43 (fun _=>[]) (fun _=>false) [(56,qX k),(58,nD k),(73,CR k)] [] k f135 true [] 3
theorem L3 (ho:ai o):Tl o 135 (HY k:Rw S):=am (VK k) ⟨su k ho,ov k ho,F6 k ho,trivial⟩ func135 fun a_x c1 iY gi gr gw gx gy gz gA gC fP fK fL fM fN fO gj gk gm gn gq gu Z x h=>au h
def ajB:Rw S:=ah BZ DL fun c2 eV cS cJ cK cL cM cO cP de df cW cX cY cZ c5 c6 c7 c8 c_ da dc Z=>ab k (vX k c2 eV cS cJ cK cL cM cO cP de df cW cX cY cZ c5 c6 c7 c8 c_ da dc) (P7 c2 cS cJ cK cL cM cO cP de df cW cX cY cZ c5 c6 c7 c8 c_ da dc Z)
def QN:Rw S:=ah BZ DL fun c2 eV cS cJ cK cL cM cO cP de df cW cX cY cZ c5 c6 c7 c8 c_ da dc Z=>ab k (vX k c2 eV cS cJ cK cL cM cO cP de df cW cX cY cZ c5 c6 c7 c8 c_ da dc) (ajs Z)
def VL:Fx S:=fx 9 (fun _=>[]) (fun _=>false) [(135,HY k)] [] k f137 true [] 4
theorem abL (ho:ai o):Tl o 137 (ajB k:Rw S):=am (VL k) ⟨L3 k ho,trivial⟩ func137 fun c2 eV cS cJ cK cL cM cO cP de df cW cX cY cZ c5 c6 c7 c8 c_ da dc Z x h=>au h
theorem abK (ho:ai o):Tl o 137 (QN k:Rw S):=Kl (n:=3) (m:=1) (abL k ho) fun c2 eV cS cJ cK cL cM cO cP de df cW cX cY cZ c5 c6 c7 c8 c_ da dc Z x h=>aj (b:=ab k (vX k c2 eV cS cJ cK cL cM cO cP de df cW cX cY cZ c5 c6 c7 c8 c_ da dc) (P7 c2 cS cJ cK cL cM cO cP de df cW cX cY cZ c5 c6 c7 c8 c_ da dc (vH 3 1 [.cells [(.func 135 [] [(pt 1),(pt 2)])],.cells [(pt 3)],bT c2,.cells [(iI eV),(sC cS),(iI cJ),(iI cK),(.str cL),(sC cM),(sT cO),(sB cP),(sB de),(iI df),(iI cW),(.str cX),(sC cY),(sT cZ),(sB c5),(iI c6),(iI c7),(.str c8),(sC c_),(sT da),(sB dc)]] Z))) (by kernel_rfl) (aj (congrArg (ab k (vX k c2 eV cS cJ cK cL cM cO cP de df cW cX cY cZ c5 c6 c7 c8 c_ da dc)) (funext fun r=>if_pos ⟨rfl,rfl⟩)) h)
def QP:Rw S:=ah aeD amS fun dO c0_1 bK bL bM bN bO bP dX cx cq cr ct cu cv bW bX bY bZ b8 b9 c3 Z=>ab k (LA k dO c0_1 bK bL bM bN bO bP dX cx cq cr ct cu cv bW bX bY bZ b8 b9 c3) (ajt c0_1 bK bL bM bN bO bP dX cx cq cr ct cu cv bW bX bY bZ b8 b9 c3 Z)
def VN:Fx S:=fx 20 (fun _=>[]) (fun _=>false) [(59,kP k),(137,QN k)] [] k f71 true [false,true] 4
theorem abN (ho:ai o):Tl o 71 (QP k:Rw S):=am (VN k) ⟨lg k ho,abK k ho,trivial⟩ func71 fun dO c0_1 bK bL bM bN bO bP dX cx cq cr ct cu cv bW bX bY bZ b8 b9 c3 Z x h=>au h
def QQ:Rw S:=ah GL DL fun b c2 eV cS cJ cK cL cM cO cP de df cW cX cY cZ c5 c6 c7 c8 c_ da dc Z=>ab k (Lx k b c2 eV cS cJ cK cL cM cO cP de df cW cX cY cZ c5 c6 c7 c8 c_ da dc) (aju c2 cS cJ cK cL cM cO cP de df cW cX cY cZ c5 c6 c7 c8 c_ da dc Z)
def VO:Fx S:=fp 25 [(59,kP k),(73,CR k),(135,HY k)] [] k f138 4
theorem abO (ho:ai o):Tl o 138 (QQ k:Rw S):=am (VO k) ⟨lg k ho,F6 k ho,L3 k ho,trivial⟩ func138 fun b c2 eV cS cJ cK cL cM cO cP de df cW cX cY cZ c5 c6 c7 c8 c_ da dc Z x h=>au h
def QR:Rw S:=ah aeE DL fun l c2 eV cS cJ cK cL cM cO cP de df cW cX cY cZ c5 c6 c7 c8 c_ da dc Z=>ab k (LG k l c2 eV cS cJ cK cL cM cO cP de df cW cX cY cZ c5 c6 c7 c8 c_ da dc) (CK c2 cS cJ cK cL cM cO cP de df cW cX cY cZ c5 c6 c7 c8 c_ da dc Z)
def D5:Fx S:=fx 22 (fun _=>[]) (fun _=>false) [(138,QQ k)] [(3,⟨[(1,aa),(5,ar 100005),(8,aa),(9,aa),(10,aa)],[(1000000,[aa]),(1000001,[aa]),(1000002,[aa,aa,aa,aa,aa,aa]),(1000003,[aa,aa,aa,aa,aa,aa,aa,aa,aa,aa,aa,aa,aa,aa,aa,aa,aa,aa,aa,aa,aa])]⟩,aA 5 11)] k f54 false [true] 4
def N3 (c2:Tm) (cS:List Cl) (cW:Int) (cX:ByteArray) (cY:List Cl) (cZ:List Tm) (c5:List (Br Tm)) (c6 c7:Int) (c8:ByteArray) (c_:List Cl) (da:List Tm) (cJ:Int) (dc:List (Br Tm)) (cK:Int) (cL:ByteArray) (cM:List Cl) (cO:List Tm) (cP de:List (Br Tm)) (df:Int) (l:List (Br Tm)) (eI v10:Int) (out5:List (Br Tm)):St UU:=⟨[(1,(.func 138 [] [(pt 1000000),(pt 1000001)])),(5,(.own 100005 0)),(8,(sB l)),(9,(iI l.length)),(10,(iI v10))],[(1000000,.cells [(.func 135 [] [(pt 1000001),(pt 1000002)])]),(1000001,.cells [(pt 1000003)]),(1000002,bT c2),(1000003,.cells [(iI eI),(sC cS),(iI cJ),(iI cK),(.str cL),(sC cM),(sT cO),(sB cP),(sB de),(iI df),(iI cW),(.str cX),(sC cY),(sT cZ),(sB c5),(iI c6),(iI c7),(.str c8),(sC c_),(sT da),(sB dc)])],[(100005,⟨0,ET.B,out5⟩)],[(100005,.wr)]⟩
section
variable (k:Nat) (l:List (Br Tm)) (c2:Tm) (eV:Int) (cS:List Cl) (cJ cK:Int) (cL:ByteArray) (cM:List Cl) (cO:List Tm) (cP de:List (Br Tm)) (df cW:Int) (cX:ByteArray) (cY:List Cl) (cZ:List Tm) (c5:List (Br Tm)) (c6 c7:Int) (c8:ByteArray) (c_:List Cl) (da:List Tm) (dc:List (Br Tm)) (Z:Out UU->Option S)
theorem X_: ∀n eI v10 out5,(D5 k).lp Z 3 [] n (N3 c2 cS cW cX cY cZ c5 c6 c7 c8 c_ da cJ dc cK cL cM cO cP de df l eI v10 out5)=G2 k (CK c2 cS cJ cK cL cM cO cP de df cW cX cY cZ c5 c6 c7 c8 c_ da dc Z) c2 cS cW cX cY cZ c5 c6 c7 c8 c_ da cJ dc cK cL cM cO cP de df l n eI v10 out5:=iG (KR k (CK c2 cS cJ cK cL cM cO cP de df cW cX cY cZ c5 c6 c7 c8 c_ da dc Z) c2 cS cW cX cY cZ c5 c6 c7 c8 c_ da cJ dc cK cL cM cO cP de df l)
end
theorem abP (ho:ai o):Tl o 54 (QR k:Rw S):=am (D5 k) ⟨abO k ho,trivial⟩ func54 fun l c2 eV cS cJ cK cL cM cO cP de df cW cX cY cZ c5 c6 c7 c8 c_ da dc Z x h=>aj (b:=Ui k (CK c2 cS cJ cK cL cM cO cP de df cW cX cY cZ c5 c6 c7 c8 c_ da dc Z) (fun eI v10 out5=>(D5 k).lp Z 3 [] k (N3 c2 cS cW cX cY cZ c5 c6 c7 c8 c_ da cJ dc cK cL cM cO cP de df l eI v10 out5)) l c2 eV cS cJ cK cL cM cO cP de df cW cX cY cZ c5 c6 c7 c8 c_ da dc) (by kernel_rfl) (aj (by simp only [X_];rfl) (bv h))
def QS:Rw S:=ah afh amT fun t a_e dO c0_1 bK bL bM bN bO bP dX cx cq cr ct cu cv bW bX bY bZ b8 b9 Z=>ab k (Ly k t a_e dO c0_1 bK bL bM bN bO bP dX cx cq cr ct cu cv bW bX bY bZ b8 b9) (ajv c0_1 bK bL bM bN bO bP dX cx cq cr ct cu cv bW bX bY bZ b8 b9 Z)
def VQ:Fx S:=fx 54 (fun _=>[]) (fun _=>false) [(54,QR k),(58,nD k),(61,yb k),(63,t6 k),(71,QP k),(136,QM k)] [] k f70 true [] 1
theorem abQ (ho:ai o):Tl o 70 (QS k:Rw S):=am (VQ k) ⟨abP k ho,ov k ho,Bn k ho,wH k ho,abN k ho,abJ k ho,trivial⟩ func70 fun t a_e dO c0_1 bK bL bM bN bO bP dX cx cq cr ct cu cv bW bX bY bZ b8 b9 Z x h=>au h
def QU:Rw S:=ah M5 uB fun b dE aU a6 a7 a8 a_ ba be bq bg aV aW aX aY aZ bj bk bm bn bo bp Z=>ab k (Lu k b dE aU a6 a7 a8 a_ ba be bq bg aV aW aX aY aZ bj bk bm bn bo bp) (ajw aU a6 a7 a8 a_ ba be bq bg aV aW aX aY aZ bj bk bm bn bo bp Z)
def VR:Fx S:=fx 14 (fun _=>[]) (fun _=>false) [(70,QS k)] [] k f69 true [] 2
theorem abR (ho:ai o):Tl o 69 (QU k:Rw S):=am (VR k) ⟨abQ k ho,trivial⟩ func69 fun b dE aU a6 a7 a8 a_ ba be bq bg aV aW aX aY aZ bj bk bm bn bo bp Z x h=>au h
def QV:Rw S:=ah aeF uB fun l dE aU a6 a7 a8 a_ ba be bq bg aV aW aX aY aZ bj bk bm bn bo bp Z=>ab k (FI k l dE aU a6 a7 a8 a_ ba be bq bg aV aW aX aY aZ bj bk bm bn bo bp) (CL aU a6 a7 a8 a_ ba be bq bg aV aW aX aY aZ bj bk bm bn bo bp Z)
def D6:Fx S:=fx 22 (fun _=>[]) (fun _=>false) [(69,QU k)] [(3,⟨[(1,aa),(5,ar 100005),(8,aa),(9,aa),(10,aa)],[(1000000,[aa]),(1000001,[aa,aa,aa,aa,aa,aa,aa,aa,aa,aa,aa,aa,aa,aa,aa,aa,aa,aa,aa,aa,aa])]⟩,aA 5 11)] k f68 false [true] 2
def N4 (aU:List Cl) (aV:Int) (aW:ByteArray) (aX:List Cl) (aY:List Tm) (aZ:List (Br Tm)) (bj bk:Int) (bm:ByteArray) (bn:List Cl) (bo:List Tm) (a6:Int) (bp:List (Br Tm)) (a7:Int) (a8:ByteArray) (a_:List Cl) (ba:List Tm) (be bq:List (Br Tm)) (bg:Int) (l:List (Br Tm)) (dh v10:Int) (out5:List Tm):St UU:=⟨[(1,(.func 69 [] [(pt 1000000)])),(5,(.own 100005 0)),(8,(sB l)),(9,(iI l.length)),(10,(iI v10))],[(1000000,.cells [(pt 1000001)]),(1000001,.cells [(iI dh),(sC aU),(iI a6),(iI a7),(.str a8),(sC a_),(sT ba),(sB be),(sB bq),(iI bg),(iI aV),(.str aW),(sC aX),(sT aY),(sB aZ),(iI bj),(iI bk),(.str bm),(sC bn),(sT bo),(sB bp)])],[(100005,⟨0,ET.T,out5⟩)],[(100005,.wr)]⟩
section
variable (k:Nat) (l:List (Br Tm)) (dE:Int) (aU:List Cl) (a6 a7:Int) (a8:ByteArray) (a_:List Cl) (ba:List Tm) (be bq:List (Br Tm)) (bg aV:Int) (aW:ByteArray) (aX:List Cl) (aY:List Tm) (aZ:List (Br Tm)) (bj bk:Int) (bm:ByteArray) (bn:List Cl) (bo:List Tm) (bp:List (Br Tm)) (Z:Out UU->Option S)
theorem Ya: ∀n dh v10 out5,(D6 k).lp Z 3 [] n (N4 aU aV aW aX aY aZ bj bk bm bn bo a6 bp a7 a8 a_ ba be bq bg l dh v10 out5)=GZ k (CL aU a6 a7 a8 a_ ba be bq bg aV aW aX aY aZ bj bk bm bn bo bp Z) aU aV aW aX aY aZ bj bk bm bn bo a6 bp a7 a8 a_ ba be bq bg l n dh v10 out5:=iG (KQ k (CL aU a6 a7 a8 a_ ba be bq bg aV aW aX aY aZ bj bk bm bn bo bp Z) aU aV aW aX aY aZ bj bk bm bn bo a6 bp a7 a8 a_ ba be bq bg l)
end
theorem abS (ho:ai o):Tl o 68 (QV k:Rw S):=am (D6 k) ⟨abR k ho,trivial⟩ func68 fun l dE aU a6 a7 a8 a_ ba be bq bg aV aW aX aY aZ bj bk bm bn bo bp Z x h=>aj (b:=Uh k (CL aU a6 a7 a8 a_ ba be bq bg aV aW aX aY aZ bj bk bm bn bo bp Z) (fun dh v10 out5=>(D6 k).lp Z 3 [] k (N4 aU aV aW aX aY aZ bj bk bm bn bo a6 bp a7 a8 a_ ba be bq bg l dh v10 out5)) l dE aU a6 a7 a8 a_ ba be bq bg aV aW aX aY aZ bj bk bm bn bo bp) (by kernel_rfl) (aj (by simp only [Ya];rfl) (bv h))
def ajC:Rw S:=ah w6 uB fun dE aU a6 a7 a8 a_ ba be bq bg aV aW aX aY aZ bj bk bm bn bo bp Z=>ab k (vU k dE aU a6 a7 a8 a_ ba be bq bg aV aW aX aY aZ bj bk bm bn bo bp) (P9 aU a6 a7 a8 a_ ba be bq bg aV aW aX aY aZ bj bk bm bn bo bp Z)
def QW:Rw S:=ah w6 uB fun dE aU a6 a7 a8 a_ ba be bq bg aV aW aX aY aZ bj bk bm bn bo bp Z=>ab k (vU k dE aU a6 a7 a8 a_ ba be bq bg aV aW aX aY aZ bj bk bm bn bo bp) (ajx Z)
def VS:Fx S:=fp 10 [(56,qX k)] [] k f72 2
theorem abU (ho:ai o):Tl o 72 (ajC k:Rw S):=am (VS k) ⟨su k ho,trivial⟩ func72 fun dE aU a6 a7 a8 a_ ba be bq bg aV aW aX aY aZ bj bk bm bn bo bp Z x h=>au h
theorem abT (ho:ai o):Tl o 72 (QW k:Rw S):=Kl (n:=1) (m:=1) (abU k ho) fun dE aU a6 a7 a8 a_ ba be bq bg aV aW aX aY aZ bj bk bm bn bo bp Z x h=>aj (b:=ab k (vU k dE aU a6 a7 a8 a_ ba be bq bg aV aW aX aY aZ bj bk bm bn bo bp) (P9 aU a6 a7 a8 a_ ba be bq bg aV aW aX aY aZ bj bk bm bn bo bp (vH 1 1 [.cells [(pt 1)],.cells [(iI dE),(sC aU),(iI a6),(iI a7),(.str a8),(sC a_),(sT ba),(sB be),(sB bq),(iI bg),(iI aV),(.str aW),(sC aX),(sT aY),(sB aZ),(iI bj),(iI bk),(.str bm),(sC bn),(sT bo),(sB bp)]] Z))) (by kernel_rfl) (aj (congrArg (ab k (vU k dE aU a6 a7 a8 a_ ba be bq bg aV aW aX aY aZ bj bk bm bn bo bp)) (funext fun r=>if_pos ⟨rfl,rfl⟩)) h)
def QX:Rw S:=ah aeG amU fun dO c0_1 bK bL bM bN bO bP dX cx cq cr ct cu cv bW bX bY bZ b8 b9 Z=>ab k (FG k dO c0_1 bK bL bM bN bO bP dX cx cq cr ct cu cv bW bX bY bZ b8 b9) (ajy c0_1 bK bL bM bN bO bP dX cx cq cr ct cu cv bW bX bY bZ b8 b9 Z)
def VT:Fx S:=fx 20 (fun _=>[]) (fun _=>false) [(59,kP k),(72,QW k)] [] k f71 true [false,true] 2
theorem abV (ho:ai o):Tl o 71 (QX k:Rw S):=am (VT k) ⟨lg k ho,abT k ho,trivial⟩ func71 fun dO c0_1 bK bL bM bN bO bP dX cx cq cr ct cu cv bW bX bY bZ b8 b9 Z x h=>au h
def QY:Rw S:=ah gG xn fun t Z=>ab k (Lt k t) (qS Z)
def D7:Fx S:=fp 165 [(40,nE k),(41,pf (fT k)),(42,Ih k),(56,qX k),(58,nD k),(59,kP k),(61,yb k),(63,t6 k),(66,QI k),(67,Qu k),(68,QV k),(71,QX k),(73,CR k)] [(16,⟨[(2,aa),(6,aa),(8,ar 100008),(9,some (100009,false)),(10,ar 100010),(77,aa),(78,aa),(79,aa)],[(2,[aa,aa,aa,ar 200131,ar 200132,ar 200133]),(6,[aa]),(43,[aa,aa,aa,aa,aa,aa,aa,aa,aa,aa,aa,aa,aa,aa,aa,aa,aa,aa,aa,aa,aa])]⟩,aA 14 6143)] k f27 0
def N5 (r3:Tm) (r6:Int×List (Br Tm)×Int×Int×ByteArray×List Cl×List Tm×List (Br Tm)) (x4:Tm) (r8:Tm×Int) (jN jO jP:Int) (jQ:ByteArray) (jR:List Cl) (jS:List Tm) (jT parts10:List (Br Tm)) (v79:Int) (ws8:List Tm) (sys9:List (Br Tm)):St UU:=⟨[(2,(pt 2)),(6,(pt 6)),(8,(.own 100008 0)),(9,(.own 100009 0)),(10,(.own 100010 0)),(77,(sB r8.1.sys)),(78,(iI r8.1.sys.length)),(79,(iI v79))],[(2,.cells [(iI 0),(iI 0),eC,(.own 200131 0),(.own 200132 0),(.own 200133 0)]),(6,.cells [(pt 43)]),(43,.cells [(iI jN),(sC r3.r),(iI x4.kind),(iI x4.n),(.str x4.name),(sC x4.r),(sT x4.kids),(sB x4.sys),(sB r6.2.1),(iI r6.2.2.1),(iI r6.2.2.2.1),(.str r6.2.2.2.2.1),(sC r6.2.2.2.2.2.1),(sT r6.2.2.2.2.2.2.1),(sB r6.2.2.2.2.2.2.2),(iI jO),(iI jP),(.str jQ),(sC jR),(sT jS),(sB jT)])],[(200133,dU),(200132,eh),(200131,dY),(100010,⟨0,ET.B,parts10⟩),(100009,⟨0,ET.B,sys9⟩),(100008,⟨0,ET.T,ws8⟩)],[(200133,.wr),(200132,.wr),(200131,.wr),(100010,.wr),(100009,.app),(100008,.wr)]⟩
section
variable (k:Nat) (t:Tm) (Z:Out UU->Option S)
theorem Yb (r3 r6 x4 r8): ∀n jN jO jP jQ jR jS jT parts10 v79 ws8 sys9,(D7 k).lp Z 16 [] n (N5 r3 r6 x4 r8 jN jO jP jQ jR jS jT parts10 v79 ws8 sys9)=GW k (qS Z) r3 r6 x4 r8 n jN jO jP jQ jR jS jT parts10 v79 ws8 sys9:=ahz (KN k (qS Z) r3 r6 x4 r8)
end
theorem abW (ho:ai o):Tl o 27 (QY k:Rw S):=am (D7 k) ⟨ow k ho,sG o ho k,Mh k ho,su k ho,ov k ho,lg k ho,Bn k ho,wH k ho,abF k ho,abr k ho,abS k ho,abV k ho,F6 k ho,trivial⟩ func27 fun t Z x h=>aj (b:=Uc k (qS Z) (fun r3 r6 x4 r8 jN jO jP jQ jR jS jT parts10 v79 ws8 sys9=>(D7 k).lp Z 16 [] k (N5 r3 r6 x4 r8 jN jO jP jQ jR jS jT parts10 v79 ws8 sys9)) t) (by kernel_rfl) (aj (by simp only [Yb];rfl) (bv h))
def HZ:Rw S:=ah lm xn fun a b Z=>ab k (og k a b) (aH Z)
def D9:Fx S:=fp 26 [] [(4,ce [0,1,5] [],aA 5 11)] k f30 0
def N6 (a b:List Cl) (i5:Int):St UU:=⟨[(0,(sC a)),(1,(sC b)),(5,(iI i5))],[],[],[]⟩
section
variable (k:Nat) (a b:List Cl) (Z:Out UU->Option S)
theorem Yc: ∀n i5,(D9 k).lp Z 4 [] n (N6 a b i5)=na k (aH Z) a b n i5:=eK (rx k (aH Z) a b)
end
theorem L4 (ho:ai o):Tl o 30 (HZ k:Rw S):=am (D9 k) trivial func30 fun a b Z x h=>aj (b:=DA k (aH Z) (fun i5=>(D9 k).lp Z 4 [] k (N6 a b i5)) a b) (by kernel_rfl) (aj (by simp only [Yc];rfl) (bv h))
def yc (hd:iQ S):Rw S:=ah M8 xn fun a b Z=>hd a b (aH Z)
def Q0 (hd:iQ S) (k:Nat):Rw S:=ah aeH xn fun a b Z=>ab k (wl hd k a b) (aH Z)
def Ea (hd:iQ S) (k:Nat):Fx S:=fp 27 [(14,yc hd)] [(4,ce [0,1,5] [],aA 5 11)] k f38 0
def N8 (a b:List Tm) (i5:Int):St UU:=⟨[(0,(sT a)),(1,(sT b)),(5,(iI i5))],[],[],[]⟩
section
variable (hd:iQ S) (k:Nat) (a b:List Tm) (Z:Out UU->Option S)
theorem Ye: ∀n i5,(Ea hd k).lp Z 4 [] n (N8 a b i5)=tr hd k (aH Z) a b n i5:=eK (zP hd k (aH Z) a b)
end
theorem abY (o:Obj) (ho:ai o) (hd:iQ S) (Hd:Tl o 14 (yc hd)) (k:Nat):Tl o 38 (Q0 hd k:Rw S):=am (Ea hd k) ⟨Hd,trivial⟩ func38 fun a b Z x h=>aj (b:=JV hd k (aH Z) (fun i5=>(Ea hd k).lp Z 4 [] k (N8 a b i5)) a b) (by kernel_rfl) (aj (by simp only [Ye];rfl) (bv h))
def D_ (hd:iQ S) (k:Nat):Fx S:=fp 87 [(30,HZ k),(38,Q0 hd k)] [(4,ce [2,3,5] [(2,6),(3,6)],aA 5 11)] k f14 0
def N7 (a b:Tm) (i5:Int):St UU:=⟨[(2,(pt 2)),(3,(pt 3)),(5,(iI i5))],[(2,bT a),(3,bT b)],[],[]⟩
section
variable (hd:iQ S) (k:Nat) (a b:Tm) (Z:Out UU->Option S)
theorem Yd: ∀n i5,(D_ hd k).lp Z 4 [] n (N7 a b i5)=tp hd k (aH Z) a b n i5:=eK (zN hd k (aH Z) a b)
end
theorem Gz (o:Obj) (ho:ai o): ∀k:Nat,Tl o 14 (yc (ie k:iQ S))
 |0=>jh fun a b Z x h=>by cases h
 |k+1=>am (D_ (ie k) k) ⟨L4 k ho,abY o ho (ie k) (Gz o ho k) k,trivial⟩ func14 fun a b Z x h=>aj (b:=JT (ie k) k (aH Z) (fun i5=>(D_ (ie k) k).lp Z 4 [] k (N7 a b i5)) a b) (by kernel_rfl) (aj (by simp only [Yd];rfl) h)
def H0 (hd:kU S):Rw S:=ah gG xn fun t Z=>hd t (bt Z)
def py (hd:kU S) (k:Nat):Fx S:=fp 86 [(11,H0 hd)] [(3,⟨[(1,aa),(2,aa),(3,aa),(4,aa)],[(1,[aa,aa,aa,aa,aa,aa]),(2,[aa,aa,aa,ar 200131,ar 200132,ar 200133]),(3,[aa,aa,aa,some (200195,false),ar 200196,ar 200197])]⟩,aA 5 11),(7,⟨[(1,aa),(2,aa),(3,aa),(5,aa)],[(1,[aa,aa,aa,aa,aa,aa]),(2,[aa,aa,aa,ar 200131,ar 200132,ar 200133]),(3,[aa,aa,aa,some (200195,false),ar 200196,ar 200197])]⟩,aA 6 23),(11,⟨[(1,aa),(2,aa),(3,aa),(5,aa),(6,aa),(7,aa)],[(1,[aa,aa,aa,aa,aa,aa]),(2,[aa,aa,aa,ar 200131,ar 200132,ar 200133]),(3,[aa,aa,aa,some (200195,false),ar 200196,ar 200197]),(6,[some (200384,false),ar 200385])]⟩,aA 14 5271)] k f11 0
def Hj (t:Tm) (b3_4:List Tm) (i4:Int):St UU:=⟨[(1,(pt 1)),(2,(pt 2)),(3,(pt 3)),(4,(iI i4))],[(1,bT t),(2,.cells [(iI 0),(iI 0),eC,(.own 200131 0),(.own 200132 0),(.own 200133 0)]),(3,.cells [(iI t.kind),(iI t.n),(.str t.name),(.own 200195 0),(.own 200196 0),(.own 200197 0)])],[(200197,dU),(200196,⟨0,ET.T,b3_4⟩),(200195,⟨0,ET.C,([]:List Cl)++t.r⟩),(200133,dU),(200132,eh),(200131,dY)],[(200197,.wr),(200196,.wr),(200195,.app),(200133,.wr),(200132,.wr),(200131,.wr)]⟩
def xp (t:Tm) (b3_4:List Tm) (b3_5:List (Br Tm)) (i5:Int):St UU:=⟨[(1,(pt 1)),(2,(pt 2)),(3,(pt 3)),(5,(iI i5))],[(1,bT t),(2,.cells [(iI 0),(iI 0),eC,(.own 200131 0),(.own 200132 0),(.own 200133 0)]),(3,.cells [(iI t.kind),(iI t.n),(.str t.name),(.own 200195 0),(.own 200196 0),(.own 200197 0)])],[(200197,⟨0,ET.B,b3_5⟩),(200196,⟨0,ET.T,b3_4⟩),(200195,⟨0,ET.C,([]:List Cl)++t.r⟩),(200133,dU),(200132,eh),(200131,dY)],[(200197,.wr),(200196,.wr),(200195,.app),(200133,.wr),(200132,.wr),(200131,.wr)]⟩
def N9 (t:Tm) (b3_4:List Tm) (b3_5:List (Br Tm)) (x5:(Br Tm)) (i5:Int) (b6_1:List Tm) (v7:Int):St UU:=⟨[(1,(pt 1)),(2,(pt 2)),(3,(pt 3)),(5,(iI i5)),(6,(pt 6)),(7,(iI v7))],[(1,bT t),(2,.cells [(iI 0),(iI 0),eC,(.own 200131 0),(.own 200132 0),(.own 200133 0)]),(3,.cells [(iI t.kind),(iI t.n),(.str t.name),(.own 200195 0),(.own 200196 0),(.own 200197 0)]),(6,.cells [(.own 200384 0),(.own 200385 0)])],[(200385,⟨0,ET.T,b6_1⟩),(200384,⟨0,ET.C,([]:List Cl)++x5.face⟩),(200197,⟨0,ET.B,b3_5⟩),(200196,⟨0,ET.T,b3_4⟩),(200195,⟨0,ET.C,([]:List Cl)++t.r⟩),(200133,dU),(200132,eh),(200131,dY)],[(200385,.wr),(200384,.app),(200197,.wr),(200196,.wr),(200195,.app),(200133,.wr),(200132,.wr),(200131,.wr)]⟩
section
variable (hd:kU S) (k:Nat) (t:Tm) (Z:Out UU->Option S)
theorem Yh (b3_4 b3_5 x5 i5 Z1): ∀n b6_1 v7,(py hd k).lp Z 11 [Z1] n (N9 t b3_4 b3_5 x5 i5 b6_1 v7)=qv hd k (bt Z) (fun b3_5 i5=>Z1 (xp t b3_4 b3_5 i5)) t b3_4 b3_5 x5 i5 n b6_1 v7:=bw (zL hd k (bt Z) t b3_4 b3_5 x5 i5 (fun b3_5 i5=>Z1 (xp t b3_4 b3_5 i5)))
theorem Yg (b3_4): ∀n b3_5 i5,(py hd k).lp Z 7 [] n (xp t b3_4 b3_5 i5)=nf hd k (bt Z) t b3_4 n b3_5 i5:=bw (fun own=>vg hd k (bt Z) t b3_4 (fun b3_5 x5 i5 b6_1 v7=>qv hd k (bt Z) own t b3_4 b3_5 x5 i5 k b6_1 v7) own) rfl (fun _=>rfl) fun r b3_5 i5=>aj (b:=vg hd k (bt Z) t b3_4 (fun b3_5 x5 i5 b6_1 v7=>(py hd k).lp Z 11 [r] k (N9 t b3_4 b3_5 x5 i5 b6_1 v7)) (fun b3_5 i5=>r (xp t b3_4 b3_5 i5)) b3_5 i5) (by kernel_rfl) (by simp only [Yh])
theorem Yf: ∀n b3_4 i4,(py hd k).lp Z 3 [] n (Hj t b3_4 i4)=tn hd k (bt Z) t n b3_4 i4:=bw (fun own=>vf hd k (bt Z) t (fun b3_4 b3_5 i5=>nf hd k (bt Z) t b3_4 k b3_5 i5) own) rfl (fun _=>rfl) fun r b3_4 i4=>aj (b:=vf hd k (bt Z) t (fun b3_4 b3_5 i5=>(py hd k).lp Z 7 [] k (xp t b3_4 b3_5 i5)) (fun b3_4 i4=>r (Hj t b3_4 i4)) b3_4 i4) (by kernel_rfl) (by simp only [Yg])
end
theorem MN (o:Obj) (ho:ai o): ∀k:Nat,Tl o 11 (H0 (ma k:kU S))
 |0=>jh fun t Z x h=>by cases h
 |k+1=>am (py (ma k) k) ⟨MN o ho k,trivial⟩ func11 fun t Z x h=>aj (b:=JR (ma k) k (bt Z) (fun b3_4 i4=>(py (ma k) k).lp Z 3 [] k (Hj t b3_4 i4)) t) (by kernel_rfl) (aj (by simp only [Yf];rfl) h)
def H1 (hd:kV S):Rw S:=ah gG xn fun t Z=>hd t (bD Z)
def pz (hd:kV S) (k:Nat):Fx S:=fp 60 [(166,H1 hd)] [(3,ce [1,3,4] [(1,6)],aA 5 11),(9,ce [1,3,6] [(1,6)],aA 6 23),(12,ce [1,3,6,7] [(1,6)],aA 12 1175)] k f166 0
def Hk (t:Tm) (most3 i4:Int):St UU:=⟨[(1,(pt 1)),(3,(iI most3)),(4,(iI i4))],[(1,bT t)],[],[]⟩
def xq (t:Tm) (most3' i6:Int):St UU:=⟨[(1,(pt 1)),(3,(iI most3')),(6,(iI i6))],[(1,bT t)],[],[]⟩
def N_ (t:Tm) (i6:Int) (most3'' v7:Int):St UU:=⟨[(1,(pt 1)),(3,(iI most3'')),(6,(iI i6)),(7,(iI v7))],[(1,bT t)],[],[]⟩
section
variable (hd:kV S) (k:Nat) (t:Tm) (Z:Out UU->Option S)
theorem Yk (i6 Z1): ∀n most3'' v7,(pz hd k).lp Z 12 [Z1] n (N_ t i6 most3'' v7)=oV hd k (bD Z) (fun most3' i6=>Z1 (xq t most3' i6)) t i6 n most3'' v7:=bw (zM hd k (bD Z) t i6 (fun most3' i6=>Z1 (xq t most3' i6)))
theorem Yj: ∀n most3' i6,(pz hd k).lp Z 9 [] n (xq t most3' i6)=ng hd k (bD Z) t n most3' i6:=bw (fun own=>vi hd k (bD Z) t (fun i6 most3'' v7=>oV hd k (bD Z) own t i6 k most3'' v7) own) rfl (fun _=>rfl) fun r most3' i6=>aj (b:=vi hd k (bD Z) t (fun i6 most3'' v7=>(pz hd k).lp Z 12 [r] k (N_ t i6 most3'' v7)) (fun most3' i6=>r (xq t most3' i6)) most3' i6) (by kernel_rfl) (by simp only [Yk])
theorem Yi: ∀n most3 i4,(pz hd k).lp Z 3 [] n (Hk t most3 i4)=qw hd k (bD Z) t n most3 i4:=bw (fun own=>vh hd k (bD Z) t (fun most3' i6=>ng hd k (bD Z) t k most3' i6) own) rfl (fun _=>rfl) fun r most3 i4=>aj (b:=vh hd k (bD Z) t (fun most3' i6=>(pz hd k).lp Z 9 [] k (xq t most3' i6)) (fun most3 i4=>r (Hk t most3 i4)) most3 i4) (by kernel_rfl) (by simp only [Yj])
end
theorem MO (o:Obj) (ho:ai o): ∀k:Nat,Tl o 166 (H1 (mb k:kV S))
 |0=>jh fun t Z x h=>by cases h
 |k+1=>am (pz (mb k) k) ⟨MO o ho k,trivial⟩ func166 fun t Z x h=>aj (b:=JS (mb k) k (bD Z) (fun most3 i4=>(pz (mb k) k).lp Z 3 [] k (Hk t most3 i4)) t) (by kernel_rfl) (aj (by simp only [Yi];rfl) h)
def H2 (hd:kW S):Rw S:=ah gG xn fun t Z=>hd t (bD Z)
def pA (hd:kW S) (k:Nat):Fx S:=fp 53 [(167,H2 hd)] [(3,ce [1,3,4] [(1,6)],aA 5 11),(7,ce [1,3,5] [(1,6)],aA 6 23),(10,ce [1,3,5,6] [(1,6)],aA 12 1175)] k f167 0
def Hl (t:Tm) (v3 i4:Int):St UU:=⟨[(1,(pt 1)),(3,(iI v3)),(4,(iI i4))],[(1,bT t)],[],[]⟩
def xt (t:Tm) (v3' i5:Int):St UU:=⟨[(1,(pt 1)),(3,(iI v3')),(5,(iI i5))],[(1,bT t)],[],[]⟩
def Oa (t:Tm) (i5:Int) (v3'' v6:Int):St UU:=⟨[(1,(pt 1)),(3,(iI v3'')),(5,(iI i5)),(6,(iI v6))],[(1,bT t)],[],[]⟩
section
variable (hd:kW S) (k:Nat) (t:Tm) (Z:Out UU->Option S)
theorem Yn (i5 Z1): ∀n v3'' v6,(pA hd k).lp Z 10 [Z1] n (Oa t i5 v3'' v6)=qx hd k (bD Z) (fun v3' i5=>Z1 (xt t v3' i5)) t i5 n v3'' v6:=bw (zO hd k (bD Z) t i5 (fun v3' i5=>Z1 (xt t v3' i5)))
theorem Ym: ∀n v3' i5,(pA hd k).lp Z 7 [] n (xt t v3' i5)=nh hd k (bD Z) t n v3' i5:=bw (fun own=>vk hd k (bD Z) t (fun i5 v3'' v6=>qx hd k (bD Z) own t i5 k v3'' v6) own) rfl (fun _=>rfl) fun r v3' i5=>aj (b:=vk hd k (bD Z) t (fun i5 v3'' v6=>(pA hd k).lp Z 10 [r] k (Oa t i5 v3'' v6)) (fun v3' i5=>r (xt t v3' i5)) v3' i5) (by kernel_rfl) (by simp only [Yn])
theorem Yl: ∀n v3 i4,(pA hd k).lp Z 3 [] n (Hl t v3 i4)=tq hd k (bD Z) t n v3 i4:=bw (fun own=>vj hd k (bD Z) t (fun v3' i5=>nh hd k (bD Z) t k v3' i5) own) rfl (fun _=>rfl) fun r v3 i4=>aj (b:=vj hd k (bD Z) t (fun v3' i5=>(pA hd k).lp Z 7 [] k (xt t v3' i5)) (fun v3 i4=>r (Hl t v3 i4)) v3 i4) (by kernel_rfl) (by simp only [Ym])
end
theorem MP (o:Obj) (ho:ai o): ∀k:Nat,Tl o 167 (H2 (mc k:kW S))
 |0=>jh fun t Z x h=>by cases h
 |k+1=>am (pA (mc k) k) ⟨MP o ho k,trivial⟩ func167 fun t Z x h=>aj (b:=JU (mc k) k (bD Z) (fun v3 i4=>(pA (mc k) k).lp Z 3 [] k (Hl t v3 i4)) t) (by kernel_rfl) (aj (by simp only [Yl];rfl) h)
def Q1:Rw S:=ah gG xn fun t Z=>ab k (A1 k t) (bD Z)
def VU:Fx S:=fp 9 [(166,H1 (mb k)),(167,H2 (mc k))] [] k f86 0
theorem abZ (ho:ai o):Tl o 86 (Q1 k:Rw S):=am (VU k) ⟨MO o ho k,MP o ho k,trivial⟩ func86 fun t Z x h=>au h
def H3:Rw S:=ah jx xn fun kind Z=>ab k (rY k kind) (bD Z)
def VX:Fx S:=fp 14 [] [] k f168 0
theorem L5 (ho:ai o):Tl o 168 (H3 k:Rw S):=am (VX k) trivial func168 fun kind Z x h=>au h
def Q2:Rw S:=ah jx xn fun kind Z=>ab k (r_ k kind) (bD Z)
def VY:Fx S:=fp 15 [] [] k f169 0
theorem ab0 (ho:ai o):Tl o 169 (Q2 k:Rw S):=am (VY k) trivial func169 fun kind Z x h=>au h
def Q4:Rw S:=ah M7 xn fun s Z=>ab k (A0 k s) (aH Z)
def uE:Fx S:=fp 45 [] [(2,ce [0,3] [],aA 4 5),(1000006,ce [0,3,4] [],aA 10 805)] k f170 0
def xu (s:ByteArray) (i3:Int):St UU:=⟨[(0,(.str s)),(3,(iI i3))],[],[],[]⟩
def Od (s:ByteArray) (i3:Int) (x1:UInt8):St UU:=⟨[(0,(.str s)),(3,(iI i3)),(4,(.int .u8 (x1.toNat:Int)))],[],[],[]⟩
section
variable (k:Nat) (s:ByteArray) (Z:Out UU->Option S)
theorem Yq (i3 x1 Z0): ∀n,(uE k).jn Z 1000006 [Z0] n (Od s i3 x1)=B5 k (aH Z) (fun i3=>Z0 (xu s i3)) s i3 x1 n:=oH (E5 k (aH Z) s i3 x1 (fun i3=>Z0 (xu s i3)))
theorem Yp: ∀n i3,(uE k).lp Z 2 [] n (xu s i3)=qy k (aH Z) s n i3:=eK (fun own=>vl k (aH Z) s (fun i3 x1=>B5 k (aH Z) own s i3 x1 k) own) rfl (fun _=>rfl) fun r i3=>aj (b:=vl k (aH Z) s (fun i3 x1=>(uE k).jn Z 1000006 [r] k (Od s i3 x1)) (fun i3=>r (xu s i3)) i3) (by kernel_rfl) (by simp only [Yq])
end
theorem ab2 (ho:ai o):Tl o 170 (Q4 k:Rw S):=am (uE k) trivial func170 fun s Z x h=>aj (b:=JW k (aH Z) (fun i3=>(uE k).lp Z 2 [] k (xu s i3)) s) (by kernel_rfl) (aj (by simp only [Yp];rfl) (bv h))
def CU:Rw S:=ah jx xn fun a_n Z=>ab k (rV k a_n) (bD Z)
def Eb:Fx S:=fp 13 [] [(3,ce [0,3,4] [],aA 5 11)] k f317 0
def Oe (a_n:Int) (p3 i4:Int):St UU:=⟨[(0,(iI a_n)),(3,(iI p3)),(4,(iI i4))],[],[],[]⟩
section
variable (k:Nat) (a_n:Int) (Z:Out UU->Option S)
theorem Yr: ∀n p3 i4,(Eb k).lp Z 3 [] n (Oe a_n p3 i4)=s_ k (bD Z) a_n n p3 i4:=bw (zq k (bD Z) a_n)
end
theorem F9 (ho:ai o):Tl o 317 (CU k:Rw S):=am (Eb k) trivial func317 fun a_n Z x h=>aj (b:=Jz k (bD Z) (fun p3 i4=>(Eb k).lp Z 3 [] k (Oe a_n p3 i4)) a_n) (by kernel_rfl) (aj (by simp only [Yr];rfl) (bv h))
def Q5:Rw S:=ah wZ xn fun s Z=>ab k (rU k s) (aH Z)
def V1:Fx S:=fp 7 [(317,CU k)] [] k f315 0
theorem ab3 (ho:ai o):Tl o 315 (Q5 k:Rw S):=am (V1 k) ⟨F9 k ho,trivial⟩ func315 fun s Z x h=>au h
def H4:Rw S:=ah p_ xn fun c Z=>ab k (wg k c) (aH Z)
def V2:Fx S:=fp 11 [(315,Q5 k)] [] k f287 0
theorem L6 (ho:ai o):Tl o 287 (H4 k:Rw S):=am (V2 k) ⟨ab3 k ho,trivial⟩ func287 fun c Z x h=>au h
def Q6:Rw S:=ah w5 xn fun a b Z=>ab k (AQ k a b) (aH Z)
def V3:Fx S:=fp 23 [] [] k f316 0
theorem ab4 (ho:ai o):Tl o 316 (Q6 k:Rw S):=am (V3 k) trivial func316 fun a b Z x h=>au h
def Q7:Rw S:=ah Nn xn fun l c Z=>ab k (AU k l c) (aH Z)
def Ec:Fx S:=fp 26 [(316,Q6 k)] [(2,ce [0,3,5] [(3,2)],aA 4 5)] k f288 0
def Of (c:Cl) (l:List Cl) (i5:Int):St UU:=⟨[(0,(sC l)),(3,(pt 3)),(5,(iI i5))],[(3,bC c)],[],[]⟩
section
variable (k:Nat) (l:List Cl) (c:Cl) (Z:Out UU->Option S)
theorem Ys: ∀n i5,(Ec k).lp Z 2 [] n (Of c l i5)=tc k (aH Z) c l n i5:=eK (zu k (aH Z) c l)
end
theorem ab5 (ho:ai o):Tl o 288 (Q7 k:Rw S):=am (Ec k) ⟨ab4 k ho,trivial⟩ func288 fun l c Z x h=>aj (b:=JC k (aH Z) (fun i5=>(Ec k).lp Z 2 [] k (Of c l i5)) l c) (by kernel_rfl) (aj (by simp only [Ys];rfl) (bv h))
def Q8:Rw S:=ah w5 xn fun a b Z=>ab k (AR k a b) (aH Z)
def V4:Fx S:=fp 24 [] [] k f289 0
theorem ab6 (ho:ai o):Tl o 289 (Q8 k:Rw S):=am (V4 k) trivial func289 fun a b Z x h=>au h
def pd:Rw S:=ah ig xn fun l Z=>ab k (l9 k l) (aG Z)
def pB:Fx S:=fp 84 [(287,H4 k),(288,Q7 k),(289,Q8 k)] [(2,ce [0,4] [],aA 4 5),(8,⟨[(0,aa),(5,some (100005,false)),(6,aa)],[]⟩,aA 6 23),(12,⟨[(0,aa),(5,some (100005,false)),(6,aa),(7,aa)],[]⟩,aA 14 3223)] k f246 0
def Hm (l:List Cl) (i4:Int):St UU:=⟨[(0,(sC l)),(4,(iI i4))],[],[],[]⟩
def xv (l:List Cl) (out5:List Cl) (i6:Int):St UU:=⟨[(0,(sC l)),(5,(.own 100005 0)),(6,(iI i6))],[],[(100005,⟨0,ET.C,out5⟩)],[(100005,.app)]⟩
def Og (l out5:List Cl) (i6:Int) (v7:Int):St UU:=⟨[(0,(sC l)),(5,(.own 100005 0)),(6,(iI i6)),(7,(iI v7))],[],[(100005,⟨0,ET.C,out5⟩)],[(100005,.app)]⟩
section
variable (k:Nat) (l:List Cl) (Z:Out UU->Option S)
theorem Yv (out5 i6 Z1): ∀n v7,(pB k).lp Z 12 [Z1] n (Og l out5 i6 v7)=qk k (aG Z) (fun out5 i6=>Z1 (xv l out5 i6)) l out5 i6 n v7:=eK (zt k (aG Z) l out5 i6 (fun out5 i6=>Z1 (xv l out5 i6)))
theorem Yu: ∀n out5 i6,(pB k).lp Z 8 [] n (xv l out5 i6)=m_ k (aG Z) l n out5 i6:=bw (fun own=>u3 k (aG Z) l (fun out5 i6 v7=>qk k (aG Z) own l out5 i6 k v7) own) rfl (fun _=>rfl) fun r out5 i6=>aj (b:=u3 k (aG Z) l (fun out5 i6 v7=>(pB k).lp Z 12 [r] k (Og l out5 i6 v7)) (fun out5 i6=>r (xv l out5 i6)) out5 i6) (by kernel_rfl) (by simp only [Yv])
theorem Yt: ∀n i4,(pB k).lp Z 2 [] n (Hm l i4)=tb k (aG Z) l n i4:=eK (fun own=>uZ k (aG Z) l (fun out5 i6=>m_ k (aG Z) l k out5 i6) own) rfl (fun _=>rfl) fun r i4=>aj (b:=uZ k (aG Z) l (fun out5 i6=>(pB k).lp Z 8 [] k (xv l out5 i6)) (fun i4=>r (Hm l i4)) i4) (by kernel_rfl) (by simp only [Yu])
end
theorem pY (ho:ai o):Tl o 246 (pd k:Rw S):=am (pB k) ⟨L6 k ho,ab5 k ho,ab6 k ho,trivial⟩ func246 fun l Z x h=>aj (b:=JB k (aG Z) (fun i4=>(pB k).lp Z 2 [] k (Hm l i4)) l) (by kernel_rfl) (aj (by simp only [Yt];rfl) (bv h))
def mw:Rw S:=ah ig xn fun f Z=>ab k (ic k f) (aH Z)
def V5:Fx S:=fp 17 [(30,HZ k),(246,pd k)] [] k f171 0
theorem mX (ho:ai o):Tl o 171 (mw k:Rw S):=am (V5 k) ⟨L4 k ho,pY k ho,trivial⟩ func171 fun f Z x h=>au h
def pe:Rw S:=ah oI xn fun s i Z=>ab k (gQ k s i) (aH Z)
def V6:Fx S:=fp 20 [(317,CU k)] [] k f290 0
theorem pZ (ho:ai o):Tl o 290 (pe k:Rw S):=am (V6 k) ⟨F9 k ho,trivial⟩ func290 fun s i Z x h=>au h
def qT:Rw S:=ah aeI xn fun l Z=>ab k (l7 k l) (d3 Z)
def Ed:Fx S:=fp 20 [(317,CU k)] [(3,ce [0,3,4] [],aA 5 11)] k f291 0
def Oh (l:List Int) (v3 i4:Int):St UU:=⟨[(0,(po l .none)),(3,(iI v3)),(4,(iI i4))],[],[],[]⟩
section
variable (k:Nat) (l:List Int) (Z:Out UU->Option S)
theorem Yw: ∀n v3 i4,(Ed k).lp Z 3 [] n (Oh l v3 i4)=s8 k (d3 Z) l n v3 i4:=bw (zo k (d3 Z) l)
end
theorem sk (ho:ai o):Tl o 291 (qT k:Rw S):=am (Ed k) ⟨F9 k ho,trivial⟩ func291 fun l Z x h=>aj (b:=Jx k (d3 Z) (fun v3 i4=>(Ed k).lp Z 3 [] k (Oh l v3 i4)) l) (by kernel_rfl) (aj (by simp only [Yw];rfl) (bv h))
def H5:Rw S:=ah ig xn fun f Z=>ab k (wj k f) (d3 Z)
def uF:Fx S:=fp 43 [(290,pe k),(291,qT k)] [(3,⟨[(0,aa),(3,ar 100003),(4,aa)],[]⟩,aA 5 11),(7,⟨[(0,aa),(3,ar 100003),(4,aa),(5,aa),(6,aa)],[]⟩,aA 13 2635)] k f249 0
def xw (f:List Cl) (l3:List Int) (i4:Int):St UU:=⟨[(0,(sC f)),(3,(.own 100003 0)),(4,(iI i4))],[],[(100003,⟨0,ET.I,l3⟩)],[(100003,.wr)]⟩
def Oi (f:List Cl) (l3:List Int) (i4:Int) (v5:Bool) (v6:Int):St UU:=⟨[(0,(sC f)),(3,(.own 100003 0)),(4,(iI i4)),(5,(.bool v5)),(6,(iI v6))],[],[(100003,⟨0,ET.I,l3⟩)],[(100003,.wr)]⟩
section
variable (k:Nat) (f:List Cl) (Z:Out UU->Option S)
theorem Yy (l3 i4 Z0): ∀n v5 v6,(uF k).lp Z 7 [Z0] n (Oi f l3 i4 v5 v6)=ql k (d3 Z) (fun l3 i4=>Z0 (xw f l3 i4)) f l3 i4 n v5 v6:=bw (zx k (d3 Z) f l3 i4 (fun l3 i4=>Z0 (xw f l3 i4)))
theorem Yx: ∀n l3 i4,(uF k).lp Z 3 [] n (xw f l3 i4)=oQ k (d3 Z) f n l3 i4:=bw (fun own=>u4 k (d3 Z) f (fun l3 i4 v5 v6=>ql k (d3 Z) own f l3 i4 k v5 v6) own) rfl (fun _=>rfl) fun r l3 i4=>aj (b:=u4 k (d3 Z) f (fun l3 i4 v5 v6=>(uF k).lp Z 7 [r] k (Oi f l3 i4 v5 v6)) (fun l3 i4=>r (xw f l3 i4)) l3 i4) (by kernel_rfl) (by simp only [Yy])
end
theorem L7 (ho:ai o):Tl o 249 (H5 k:Rw S):=am (uF k) ⟨pZ k ho,sk k ho,trivial⟩ func249 fun f Z x h=>aj (b:=JE k (d3 Z) (fun l3 i4=>(uF k).lp Z 3 [] k (xw f l3 i4)) f) (by kernel_rfl) (aj (by simp only [Yx];rfl) (bv h))
def qU:Rw S:=ah wZ xn fun s Z=>ab k (l6 k s) (CM Z)
def Ee:Fx S:=fx 17 (fun _=>[]) (fun _=>false) [(290,pe k)] [(3,⟨[(0,aa),(3,ar 100003),(4,aa)],[]⟩,aA 5 11)] k f248 false [true] 0
def Oj (s:Int) (out3:List Int) (i4:Int):St UU:=⟨[(0,(iU s)),(3,(.own 100003 0)),(4,(iI i4))],[],[(100003,⟨0,ET.I,out3⟩)],[(100003,.wr)]⟩
section
variable (k:Nat) (s:Int) (Z:Out UU->Option S)
theorem Yz: ∀n out3 i4,(Ee k).lp Z 3 [] n (Oj s out3 i4)=xa k (CM Z) s n out3 i4:=bw (E2 k (CM Z) s)
end
theorem sn (ho:ai o):Tl o 248 (qU k:Rw S):=am (Ee k) ⟨pZ k ho,trivial⟩ func248 fun s Z x h=>aj (b:=Jw k (CM Z) (fun out3 i4=>(Ee k).lp Z 3 [] k (Oj s out3 i4)) s) (by kernel_rfl) (aj (by simp only [Yz];rfl) (bv h))
def Q_:Rw S:=ah B1 xn fun f dims Z=>ab k (wm k f dims) (aH Z)
def V8:Fx S:=fp 22 [(248,qU k),(249,H5 k)] [] k f173 0
theorem ab8 (ho:ai o):Tl o 173 (Q_ k:Rw S):=am (V8 k) ⟨sn k ho,L7 k ho,trivial⟩ func173 fun f dims Z x h=>au h
def CV:Rw S:=ah Nb xn fun kind kid Z=>ab k (rX k kind kid) (nC Z)
def uG:Fx S:=fp 44 [] [(1000003,ce [0,1] [],aA 2 3),(1000005,ce [0,1] [],aA 3 7)] k f174 0
def Ok (kind kid:Int):St UU:=⟨[(0,(iI kind)),(1,(iI kid))],[],[],[]⟩
def Ol (kind kid:Int):St UU:=⟨[(0,(iI kind)),(1,(iI kid))],[],[],[]⟩
section
variable (k:Nat) (kind kid:Int) (Z:Out UU->Option S)
theorem YB: ∀n,(uG k).jn Z 1000005 [] n (Ol kind kid)=B4 k (nC Z) kind kid n:=oH (E4 k (nC Z) kind kid)
theorem YA: ∀n,(uG k).jn Z 1000003 [] n (Ok kind kid)=G3 k (nC Z) kind kid n:=oH (zJ k (nC Z) kind kid (B4 k (nC Z) kind kid k)) rfl (fun _=>rfl) (aj (b:=zJ k (nC Z) kind kid ((uG k).jn Z 1000005 [] k (Ol kind kid))) (by kernel_rfl) (by simp only [YB]))
end
theorem F_ (ho:ai o):Tl o 174 (CV k:Rw S):=am (uG k) trivial func174 fun kind kid Z x h=>aj (b:=JP k (nC Z) ((uG k).jn Z 1000003 [] k (Ok kind kid)) kind kid) (by kernel_rfl) (aj (by simp only [YA];rfl) (bv h))
def H6:Rw S:=ah p_ xn fun c Z=>ab k (wd k c) (aH Z)
def Ef:Fx S:=fp 18 [(290,pe k)] [(2,ce [1,3] [(1,2)],aA 4 5)] k f247 0
def Om (c:Cl) (i3:Int):St UU:=⟨[(1,(pt 1)),(3,(iI i3))],[(1,bC c)],[],[]⟩
section
variable (k:Nat) (c:Cl) (Z:Out UU->Option S)
theorem YC: ∀n i3,(Ef k).lp Z 2 [] n (Om c i3)=ta k (aH Z) c n i3:=eK (zr k (aH Z) c)
end
theorem L8 (ho:ai o):Tl o 247 (H6 k:Rw S):=am (Ef k) ⟨pZ k ho,trivial⟩ func247 fun c Z x h=>aj (b:=JA k (aH Z) (fun i3=>(Ef k).lp Z 2 [] k (Om c i3)) c) (by kernel_rfl) (aj (by simp only [YC];rfl) (bv h))
def yd:Rw S:=ah ig xn fun f Z=>ab k (l_ k f) (aH Z)
def Eg:Fx S:=fp 18 [(171,mw k),(247,H6 k)] [(4,ce [0,3] [],aA 5 11)] k f172 0
def On (f:List Cl) (i3:Int):St UU:=⟨[(0,(sC f)),(3,(iI i3))],[],[],[]⟩
section
variable (k:Nat) (f:List Cl) (Z:Out UU->Option S)
theorem YD: ∀n i3,(Eg k).lp Z 4 [] n (On f i3)=ti k (aH Z) f n i3:=eK (zE k (aH Z) f)
end
theorem Bp (ho:ai o):Tl o 172 (yd k:Rw S):=am (Eg k) ⟨mX k ho,L8 k ho,trivial⟩ func172 fun f Z x h=>aj (b:=JM k (aH Z) (fun i3=>(Eg k).lp Z 4 [] k (On f i3)) f) (by kernel_rfl) (aj (by simp only [YD];rfl) (bv h))
def CW:Rw S:=ah jx xn fun kind Z=>ab k (rZ k kind) (bD Z)
def V9:Fx S:=fp 5 [] [] k f175 0
theorem Ga (ho:ai o):Tl o 175 (CW k:Rw S):=am (V9 k) trivial func175 fun kind Z x h=>au h
def H7 (hd:gJ S):Rw S:=ah Nd xn fun t vars dims bound Z=>hd t vars dims bound (aH Z)
def iP (hd:gJ S) (k:Nat):Fx S:=fp 187 [(87,H7 hd),(168,H3 k),(169,Q2 k),(170,Q4 k),(171,mw k),(172,yd k),(173,Q_ k),(174,CV k),(175,CW k)] [(1000003,ce [1,2,3,4] [(4,6)],aA 2 3),(1000008,ce [1,2,3,4] [(4,6)],aA 3 7),(1000010,ce [1,2,3,4] [(4,6)],aA 4 15),(1000021,ce [1,2,3,4] [(4,6)],aA 5 31),(24,ce [1,2,3,4,9] [(4,6)],aA 9 191),(32,ce [1,2,3,4,12] [(4,6)],aA 10 383),(38,ce [1,2,3,4,12,13,14] [(4,6),(13,2)],aA 18 117119)] k f87 0
def Oo (t:Tm) (vars dims:Int) (bound:Bool):St UU:=⟨[(1,(iI vars)),(2,(iI dims)),(3,(.bool bound)),(4,(pt 4))],[(4,bT t)],[],[]⟩
def Oq (t:Tm) (vars dims:Int) (bound:Bool):St UU:=⟨[(1,(iI vars)),(2,(iI dims)),(3,(.bool bound)),(4,(pt 4))],[(4,bT t)],[],[]⟩
def Ot (t:Tm) (vars dims:Int) (bound:Bool):St UU:=⟨[(1,(iI vars)),(2,(iI dims)),(3,(.bool bound)),(4,(pt 4))],[(4,bT t)],[],[]⟩
def Ou (t:Tm) (vars dims:Int) (bound:Bool):St UU:=⟨[(1,(iI vars)),(2,(iI dims)),(3,(.bool bound)),(4,(pt 4))],[(4,bT t)],[],[]⟩
def Hn (t:Tm) (vars dims:Int) (bound:Bool) (i9:Int):St UU:=⟨[(1,(iI vars)),(2,(iI dims)),(3,(.bool bound)),(4,(pt 4)),(9,(iI i9))],[(4,bT t)],[],[]⟩
def xx (t:Tm) (vars dims:Int) (bound:Bool) (i12:Int):St UU:=⟨[(1,(iI vars)),(2,(iI dims)),(3,(.bool bound)),(4,(pt 4)),(12,(iI i12))],[(4,bT t)],[],[]⟩
def Ov (x11:(Br Tm)) (t:Tm) (vars i12 dims:Int) (bound:Bool) (v14:Int):St UU:=⟨[(1,(iI vars)),(2,(iI dims)),(3,(.bool bound)),(4,(pt 4)),(12,(iI i12)),(13,(pt 13)),(14,(iI v14))],[(4,bT t),(13,bB x11)],[],[]⟩
section
variable (hd:gJ S) (k:Nat) (t:Tm) (vars dims:Int) (bound:Bool) (Z:Out UU->Option S)
theorem YK (x11 i12 Z5): ∀n v14,(iP hd k).lp Z 38 [Z5] n (Ov x11 t vars i12 dims bound v14)=oU hd k (aH Z) (fun i12=>Z5 (xx t vars dims bound i12)) x11 t vars i12 dims bound n v14:=eK (zI hd k (aH Z) x11 t vars i12 dims bound (fun i12=>Z5 (xx t vars dims bound i12)))
theorem YJ: ∀n i12,(iP hd k).lp Z 32 [] n (xx t vars dims bound i12)=lq hd k (aH Z) t vars dims bound n i12:=eK (fun own=>vc hd k (aH Z) t vars dims bound (fun x11 i12 v14=>oU hd k (aH Z) own x11 t vars i12 dims bound k v14) own) rfl (fun _=>rfl) fun r i12=>aj (b:=vc hd k (aH Z) t vars dims bound (fun x11 i12 v14=>(iP hd k).lp Z 38 [r] k (Ov x11 t vars i12 dims bound v14)) (fun i12=>r (xx t vars dims bound i12)) i12) (by kernel_rfl) (by simp only [YK])
theorem YI: ∀n i9,(iP hd k).lp Z 24 [] n (Hn t vars dims bound i9)=nc hd k (aH Z) t vars dims bound n i9:=eK (fun own=>va hd k (aH Z) t vars dims bound (fun i12=>lq hd k (aH Z) t vars dims bound k i12) own) rfl (fun _=>rfl) fun r i9=>aj (b:=va hd k (aH Z) t vars dims bound (fun i12=>(iP hd k).lp Z 32 [] k (xx t vars dims bound i12)) (fun i9=>r (Hn t vars dims bound i9)) i9) (by kernel_rfl) (by simp only [YJ])
theorem YH: ∀n,(iP hd k).jn Z 1000021 [] n (Ou t vars dims bound)=tl hd k (aH Z) t vars dims bound n:=oH (zH hd k (aH Z) t vars dims bound (fun i9=>nc hd k (aH Z) t vars dims bound k i9)) rfl (fun _=>rfl) (aj (b:=zH hd k (aH Z) t vars dims bound (fun i9=>(iP hd k).lp Z 24 [] k (Hn t vars dims bound i9))) (by kernel_rfl) (by simp only [YI]))
theorem YG: ∀n,(iP hd k).jn Z 1000010 [] n (Ot t vars dims bound)=tk hd k (aH Z) t vars dims bound n:=oH (u_ hd k (aH Z) t vars dims bound (tl hd k (aH Z) t vars dims bound k)) rfl (fun _=>rfl) (aj (b:=u_ hd k (aH Z) t vars dims bound ((iP hd k).jn Z 1000021 [] k (Ou t vars dims bound))) (by kernel_rfl) (by simp only [YH]))
theorem YF: ∀n,(iP hd k).jn Z 1000008 [] n (Oq t vars dims bound)=xb hd k (aH Z) t vars dims bound n:=oH (u9 hd k (aH Z) t vars dims bound (tk hd k (aH Z) t vars dims bound k)) rfl (fun _=>rfl) (aj (b:=u9 hd k (aH Z) t vars dims bound ((iP hd k).jn Z 1000010 [] k (Ot t vars dims bound))) (by kernel_rfl) (by simp only [YG]))
theorem YE: ∀n,(iP hd k).jn Z 1000003 [] n (Oo t vars dims bound)=B3 hd k (aH Z) t vars dims bound n:=oH (zG hd k (aH Z) t vars dims bound (xb hd k (aH Z) t vars dims bound k)) rfl (fun _=>rfl) (aj (b:=zG hd k (aH Z) t vars dims bound ((iP hd k).jn Z 1000008 [] k (Oq t vars dims bound))) (by kernel_rfl) (by simp only [YF]))
end
theorem MQ (o:Obj) (ho:ai o): ∀k:Nat,Tl o 87 (H7 (eW k:gJ S))
 |0=>jh fun t vars dims bound Z x h=>by cases h
 |k+1=>am (iP (eW k) k) ⟨MQ o ho k,L5 k ho,ab0 k ho,ab2 k ho,mX k ho,Bp k ho,ab8 k ho,F_ k ho,Ga k ho,trivial⟩ func87 fun t vars dims bound Z x h=>aj (b:=JO (eW k) k (aH Z) ((iP (eW k) k).jn Z 1000003 [] k (Oo t vars dims bound)) t vars dims bound) (by kernel_rfl) (aj (by simp only [YE];rfl) h)
def ye:Rw S:=ah gG xn fun t Z=>ab k (pW k t) (bD Z)
def V_:Fx S:=fp 14 [(86,Q1 k),(87,H7 (eW k))] [] k f36 0
theorem Bq (ho:ai o):Tl o 36 (ye k:Rw S):=am (V_ k) ⟨abZ k ho,MQ o ho k,trivial⟩ func36 fun t Z x h=>au h
def Ra:Rw S:=ah sH xn fun t a b Z=>ab k (FP k t a b) (bD Z)
def Wa:Fx S:=fp 21 [(36,ye k)] [] k f176 0
theorem ab9 (ho:ai o):Tl o 176 (Ra k:Rw S):=am (Wa k) ⟨Bq k ho,trivial⟩ func176 fun t a b Z x h=>au h
def qV:Rw S:=ah jx xn fun a_e Z=>ab k (iC k a_e) (P2 Z)
def Wb:Fx S:=fx 6 (fun _=>[]) (fun _=>false) [] [] k f89 true [] 0
theorem sq (ho:ai o):Tl o 89 (qV k:Rw S):=am (Wb k) trivial func89 fun a_e Z x h=>au h
def Rc:Rw S:=ah Nh xn fun s a_from a_by Z=>ab k (oe k s a_from a_by) (xV Z)
def Eh:Fx S:=fp 48 [(248,qU k),(291,qT k)] [(5,⟨[(1,aa),(2,aa),(8,ar 100008),(9,aa)],[]⟩,aA 6 23)] k f292 0
def Ow (a_from a_by:Int) (l8:List Int) (v9:Int):St UU:=⟨[(1,(iI a_from)),(2,(iI a_by)),(8,(.own 100008 0)),(9,(iI v9))],[],[(100008,⟨0,ET.I,l8⟩)],[(100008,.wr)]⟩
section
variable (k:Nat) (s a_from a_by:Int) (Z:Out UU->Option S)
theorem YL: ∀n l8 v9,(Eh k).lp Z 5 [] n (Ow a_from a_by l8 v9)=qj k (xV Z) a_from a_by n l8 v9:=bw (zn k (xV Z) a_from a_by)
end
theorem ab_ (ho:ai o):Tl o 292 (Rc k:Rw S):=am (Eh k) ⟨sn k ho,sk k ho,trivial⟩ func292 fun s a_from a_by Z x h=>aj (b:=yC k (xV Z) (fun l8 v9=>(Eh k).lp Z 5 [] k (Ow a_from a_by l8 v9)) s a_from a_by) (by kernel_rfl) (aj (by simp only [YL];rfl) (bv h))
def Rd:Rw S:=ah Ni xn fun c a_from a_by Z=>ab k (AT k c a_from a_by) (P1 Z)
def Wc:Fx S:=fp 42 [(287,H4 k),(292,Rc k)] [] k f251 0
theorem aca (ho:ai o):Tl o 251 (Rd k:Rw S):=am (Wc k) ⟨L6 k ho,ab_ k ho,trivial⟩ func251 fun c a_from a_by Z x h=>au h
def yf:Rw S:=ah GN xn fun f a_from a_by Z=>ab k (oh k f a_from a_by) (aG Z)
def Ei:Fx S:=fp 42 [(171,mw k),(246,pd k),(251,Rd k)] [(5,⟨[(0,aa),(1,aa),(2,aa),(8,ar 100008),(9,aa)],[]⟩,aA 6 23)] k f179 0
def Ox (f:List Cl) (a_from a_by:Int) (out8:List Cl) (i9:Int):St UU:=⟨[(0,(sC f)),(1,(iI a_from)),(2,(iI a_by)),(8,(.own 100008 0)),(9,(iI i9))],[],[(100008,⟨0,ET.C,out8⟩)],[(100008,.wr)]⟩
section
variable (k:Nat) (f:List Cl) (a_from a_by:Int) (Z:Out UU->Option S)
theorem YM: ∀n out8 i9,(Ei k).lp Z 5 [] n (Ox f a_from a_by out8 i9)=te k (aG Z) f a_from a_by n out8 i9:=bw (zy k (aG Z) f a_from a_by)
end
theorem Bt (ho:ai o):Tl o 179 (yf k:Rw S):=am (Ei k) ⟨mX k ho,pY k ho,aca k ho,trivial⟩ func179 fun f a_from a_by Z x h=>aj (b:=JF k (aG Z) (fun out8 i9=>(Ei k).lp Z 5 [] k (Ox f a_from a_by out8 i9)) f a_from a_by) (by kernel_rfl) (aj (by simp only [YM];rfl) (bv h))
def Re:Rw S:=ah GN xn fun f a_from a_by Z=>ab k (wn k f a_from a_by) (aG Z)
def Wd:Fx S:=fp 17 [(179,yf k)] [] k f250 0
theorem acb (ho:ai o):Tl o 250 (Re k:Rw S):=am (Wd k) ⟨Bt k ho,trivial⟩ func250 fun f a_from a_by Z x h=>au h
def CX (hd:jJ S):Rw S:=ah aeJ xn fun t v vby d dby Z=>hd t v vby d dby (bt Z)
def mL (hd:jJ S) (k:Nat):Fx S:=fp 174 [(89,qV k),(174,CV k),(175,CW k),(178,CX hd),(250,Re k)] [(1000006,⟨[(1,aa),(2,aa),(3,aa),(4,aa),(5,aa),(10,aa),(11,aa)],[(5,[aa,aa,aa,aa,aa,aa]),(10,[aa,aa,aa,ar 200643,ar 200644,ar 200645]),(11,[aa,aa,aa,ar 200707,ar 200708,ar 200709])]⟩,aA 3 7),(11,⟨[(1,aa),(2,aa),(3,aa),(4,aa),(5,aa),(10,aa),(11,aa),(14,aa)],[(5,[aa,aa,aa,aa,aa,aa]),(10,[aa,aa,aa,ar 200643,ar 200644,ar 200645]),(11,[aa,aa,aa,aa,ar 200708,ar 200709])]⟩,aA 9 191),(19,⟨[(1,aa),(2,aa),(3,aa),(4,aa),(5,aa),(10,aa),(11,aa),(18,aa)],[(5,[aa,aa,aa,aa,aa,aa]),(10,[aa,aa,aa,ar 200643,ar 200644,ar 200645]),(11,[aa,aa,aa,aa,ar 200708,ar 200709])]⟩,aA 10 383),(26,⟨[(1,aa),(2,aa),(3,aa),(4,aa),(5,aa),(10,aa),(11,aa),(18,aa),(21,aa),(22,aa)],[(5,[aa,aa,aa,aa,aa,aa]),(10,[aa,aa,aa,ar 200643,ar 200644,ar 200645]),(11,[aa,aa,aa,aa,ar 200708,ar 200709]),(21,[aa,ar 201345])]⟩,aA 20 379263)] k f178 0
def Oy (t:Tm) (v vby d dby:Int) (bG:Int):St UU:=⟨[(1,(iI v)),(2,(iI vby)),(3,(iI d)),(4,(iI dby)),(5,(pt 5)),(10,(pt 10)),(11,(pt 11))],[(5,bT t),(10,.cells [(iI 0),(iI 0),eC,(.own 200643 0),(.own 200644 0),(.own 200645 0)]),(11,.cells [(iI t.kind),(iI bG),(.str t.name),(.own 200707 0),(.own 200708 0),(.own 200709 0)])],[(200709,dU),(200708,eh),(200707,dY),(200645,dU),(200644,eh),(200643,dY)],[(200709,.wr),(200708,.wr),(200707,.wr),(200645,.wr),(200644,.wr),(200643,.wr)]⟩
def Ho (t:Tm) (bG:Int) (r2:List Cl×Int) (v vby d dby:Int) (b11_4:List Tm) (i14:Int):St UU:=⟨[(1,(iI v)),(2,(iI vby)),(3,(iI d)),(4,(iI dby)),(5,(pt 5)),(10,(pt 10)),(11,(pt 11)),(14,(iI i14))],[(5,bT t),(10,.cells [(iI 0),(iI 0),eC,(.own 200643 0),(.own 200644 0),(.own 200645 0)]),(11,.cells [(iI t.kind),(iI bG),(.str t.name),(sC r2.1),(.own 200708 0),(.own 200709 0)])],[(200709,dU),(200708,⟨0,ET.T,b11_4⟩),(200645,dU),(200644,eh),(200643,dY)],[(200709,.wr),(200708,.wr),(200645,.wr),(200644,.wr),(200643,.wr)]⟩
def xy (t:Tm) (bG:Int) (r2:List Cl×Int) (b11_4:List Tm) (v vby d dby:Int) (b11_5:List (Br Tm)) (i18:Int):St UU:=⟨[(1,(iI v)),(2,(iI vby)),(3,(iI d)),(4,(iI dby)),(5,(pt 5)),(10,(pt 10)),(11,(pt 11)),(18,(iI i18))],[(5,bT t),(10,.cells [(iI 0),(iI 0),eC,(.own 200643 0),(.own 200644 0),(.own 200645 0)]),(11,.cells [(iI t.kind),(iI bG),(.str t.name),(sC r2.1),(.own 200708 0),(.own 200709 0)])],[(200709,⟨0,ET.B,b11_5⟩),(200708,⟨0,ET.T,b11_4⟩),(200645,dU),(200644,eh),(200643,dY)],[(200709,.wr),(200708,.wr),(200645,.wr),(200644,.wr),(200643,.wr)]⟩
def Oz (t:Tm) (bG:Int) (r2:List Cl×Int) (b11_4:List Tm) (b11_5:List (Br Tm)) (r9:List Cl×Int) (v i18 vby d dby:Int) (b21_1:List Tm) (v22:Int):St UU:=⟨[(1,(iI v)),(2,(iI vby)),(3,(iI d)),(4,(iI dby)),(5,(pt 5)),(10,(pt 10)),(11,(pt 11)),(18,(iI i18)),(21,(pt 21)),(22,(iI v22))],[(5,bT t),(10,.cells [(iI 0),(iI 0),eC,(.own 200643 0),(.own 200644 0),(.own 200645 0)]),(11,.cells [(iI t.kind),(iI bG),(.str t.name),(sC r2.1),(.own 200708 0),(.own 200709 0)]),(21,.cells [(sC r9.1),(.own 201345 0)])],[(201345,⟨0,ET.T,b21_1⟩),(200709,⟨0,ET.B,b11_5⟩),(200708,⟨0,ET.T,b11_4⟩),(200645,dU),(200644,eh),(200643,dY)],[(201345,.wr),(200709,.wr),(200708,.wr),(200645,.wr),(200644,.wr),(200643,.wr)]⟩
section
variable (hd:jJ S) (k:Nat) (t:Tm) (v vby d dby:Int) (Z:Out UU->Option S)
theorem YQ (bG r2 b11_4 b11_5 r9 i18 Z2): ∀n b21_1 v22,(mL hd k).lp Z 26 [Z2] n (Oz t bG r2 b11_4 b11_5 r9 v i18 vby d dby b21_1 v22)=mn hd k (bt Z) (fun b11_5 i18=>Z2 (xy t bG r2 b11_4 v vby d dby b11_5 i18)) t bG r2 b11_4 b11_5 r9 v i18 vby d dby n b21_1 v22:=bw (zQ hd k (bt Z) t bG r2 b11_4 b11_5 r9 v i18 vby d dby (fun b11_5 i18=>Z2 (xy t bG r2 b11_4 v vby d dby b11_5 i18)))
theorem YP (bG r2 b11_4): ∀n b11_5 i18,(mL hd k).lp Z 19 [] n (xy t bG r2 b11_4 v vby d dby b11_5 i18)=jb hd k (bt Z) t bG r2 b11_4 v vby d dby n b11_5 i18:=bw (fun own=>vo hd k (bt Z) t bG r2 b11_4 v vby d dby (fun b11_5 r9 i18 b21_1 v22=>mn hd k (bt Z) own t bG r2 b11_4 b11_5 r9 v i18 vby d dby k b21_1 v22) own) rfl (fun _=>rfl) fun r b11_5 i18=>aj (b:=vo hd k (bt Z) t bG r2 b11_4 v vby d dby (fun b11_5 r9 i18 b21_1 v22=>(mL hd k).lp Z 26 [r] k (Oz t bG r2 b11_4 b11_5 r9 v i18 vby d dby b21_1 v22)) (fun b11_5 i18=>r (xy t bG r2 b11_4 v vby d dby b11_5 i18)) b11_5 i18) (by kernel_rfl) (by simp only [YQ])
theorem YO (bG r2): ∀n b11_4 i14,(mL hd k).lp Z 11 [] n (Ho t bG r2 v vby d dby b11_4 i14)=lr hd k (bt Z) t bG r2 v vby d dby n b11_4 i14:=bw (fun own=>vn hd k (bt Z) t bG r2 v vby d dby (fun b11_4 b11_5 i18=>jb hd k (bt Z) t bG r2 b11_4 v vby d dby k b11_5 i18) own) rfl (fun _=>rfl) fun r b11_4 i14=>aj (b:=vn hd k (bt Z) t bG r2 v vby d dby (fun b11_4 b11_5 i18=>(mL hd k).lp Z 19 [] k (xy t bG r2 b11_4 v vby d dby b11_5 i18)) (fun b11_4 i14=>r (Ho t bG r2 v vby d dby b11_4 i14)) b11_4 i14) (by kernel_rfl) (by simp only [YP])
theorem YN: ∀n bG,(mL hd k).jn Z 1000006 [] n (Oy t v vby d dby bG)=B6 hd k (bt Z) t v vby d dby n bG:=GG (vm hd k (bt Z) t v vby d dby (fun bG r2 b11_4 i14=>lr hd k (bt Z) t bG r2 v vby d dby k b11_4 i14)) rfl (fun _=>rfl) (fun bG=>aj (b:=vm hd k (bt Z) t v vby d dby (fun bG r2 b11_4 i14=>(mL hd k).lp Z 11 [] k (Ho t bG r2 v vby d dby b11_4 i14)) bG) (by kernel_rfl) (by simp only [YO]))
end
theorem GA (o:Obj) (ho:ai o): ∀k:Nat,Tl o 178 (CX (fm k:jJ S))
 |0=>jh fun t v vby d dby Z x h=>by cases h
 |k+1=>am (mL (fm k) k) ⟨sq k ho,F_ k ho,Ga k ho,GA o ho k,acb k ho,trivial⟩ func178 fun t v vby d dby Z x h=>aj (b:=JX (fm k) k (bt Z) (fun bG=>(mL (fm k) k).jn Z 1000006 [] k (Oy t v vby d dby bG)) t v vby d dby) (by kernel_rfl) (aj (by simp only [YN];rfl) h)
def Rf:Rw S:=ah gG xn fun t Z=>ab k (A3 k t) (hJ Z)
def We:Fx S:=fp 12 [] [] k f177 0
theorem acd (ho:ai o):Tl o 177 (Rf k:Rw S):=am (We k) trivial func177 fun t Z x h=>au h
def Rg:Rw S:=ah sH xn fun t a_from a_by Z=>ab k (A2 k t a_from a_by) (hJ Z)
def Wf:Fx S:=fp 26 [(176,Ra k),(177,Rf k),(178,CX (fm k))] [] k f88 0
theorem ace (ho:ai o):Tl o 88 (Rg k:Rw S):=am (Wf k) ⟨ab9 k ho,acd k ho,GA o ho k,trivial⟩ func88 fun t a_from a_by Z x h=>au h
def yg:Rw S:=ah oI xn fun s i Z=>ab k (kB k s i) (d3 Z)
def Ej:Fx S:=fp 31 [(248,qU k),(291,qT k)] [(4,⟨[(1,aa),(5,ar 100005),(6,ar 100006),(7,aa)],[]⟩,aA 6 23)] k f318 0
def OA (i:Int) (r1:List Int) (out6:List Int) (v7:Int):St UU:=⟨[(1,(iI i)),(5,(.own 100005 0)),(6,(.own 100006 0)),(7,(iI v7))],[],[(100006,⟨0,ET.I,out6⟩),(100005,⟨0,ET.I,r1⟩)],[(100006,.wr),(100005,.wr)]⟩
section
variable (k:Nat) (s i:Int) (Z:Out UU->Option S)
theorem YR (r1): ∀n out6 v7,(Ej k).lp Z 4 [] n (OA i r1 out6 v7)=s9 k (d3 Z) i r1 n out6 v7:=bw (zp k (d3 Z) i r1)
end
theorem Bu (ho:ai o):Tl o 318 (yg k:Rw S):=am (Ej k) ⟨sn k ho,sk k ho,trivial⟩ func318 fun s i Z x h=>aj (b:=Jy k (d3 Z) (fun r1 out6 v7=>(Ej k).lp Z 4 [] k (OA i r1 out6 v7)) s i) (by kernel_rfl) (aj (by simp only [YR];rfl) (bv h))
def yh:Rw S:=ah ig xn fun l Z=>ab k (pV k l) (aG Z)
def Em:Fx S:=fp 29 [(246,pd k),(247,H6 k)] [(3,⟨[(0,aa),(4,ar 100004),(5,aa)],[]⟩,aA 5 11)] k f334 0
def OC (l:List Cl) (out4:List Cl) (i5:Int):St UU:=⟨[(0,(sC l)),(4,(.own 100004 0)),(5,(iI i5))],[],[(100004,⟨0,ET.C,out4⟩)],[(100004,.wr)]⟩
section
variable (k:Nat) (l:List Cl) (Z:Out UU->Option S)
theorem YU: ∀n out4 i5,(Em k).lp Z 3 [] n (OC l out4 i5)=tj k (aG Z) l n out4 i5:=bw (zF k (aG Z) l)
end
theorem Bv (ho:ai o):Tl o 334 (yh k:Rw S):=am (Em k) ⟨pY k ho,L8 k ho,trivial⟩ func334 fun l Z x h=>aj (b:=JN k (aG Z) (fun out4 i5=>(Em k).lp Z 3 [] k (OC l out4 i5)) l) (by kernel_rfl) (aj (by simp only [YU];rfl) (bv h))
def Ri:Rw S:=ah ig xn fun f Z=>ab k (AY k f) (aG Z)
def Wg:Fx S:=fp 11 [(171,mw k),(334,yh k)] [] k f319 0
theorem acg (ho:ai o):Tl o 319 (Ri k:Rw S):=am (Wg k) ⟨mX k ho,Bv k ho,trivial⟩ func319 fun f Z x h=>au h
def Rj:Rw S:=ah p_ xn fun c Z=>ab k (AX k c) (jA Z)
def Eo:Fx S:=fp 37 [(246,pd k),(290,pe k),(291,qT k)] [(3,⟨[(1,aa),(3,ar 100003),(4,aa)],[(1,[aa,aa])]⟩,aA 5 11)] k f336 0
def OD (c:Cl) (out3:List Cl) (i4:Int):St UU:=⟨[(1,(pt 1)),(3,(.own 100003 0)),(4,(iI i4))],[(1,bC c)],[(100003,⟨0,ET.C,out3⟩)],[(100003,.wr)]⟩
section
variable (k:Nat) (c:Cl) (Z:Out UU->Option S)
theorem YV: ∀n out3 i4,(Eo k).lp Z 3 [] n (OD c out3 i4)=th k (jA Z) c n out3 i4:=bw (zB k (jA Z) c)
end
theorem ach (ho:ai o):Tl o 336 (Rj k:Rw S):=am (Eo k) ⟨pY k ho,pZ k ho,sk k ho,trivial⟩ func336 fun c Z x h=>aj (b:=JJ k (jA Z) (fun out3 i4=>(Eo k).lp Z 3 [] k (OD c out3 i4)) c) (by kernel_rfl) (aj (by simp only [YV];rfl) (bv h))
def Rk:Rw S:=ah oI xn fun s i Z=>ab k (wc k s i) (d3 Z)
def Wh:Fx S:=fp 21 [(248,qU k),(291,qT k),(318,yg k)] [] k f342 0
theorem aci (ho:ai o):Tl o 342 (Rk k:Rw S):=am (Wh k) ⟨sn k ho,sk k ho,Bu k ho,trivial⟩ func342 fun s i Z x h=>au h
def Rl:Rw S:=ah aeK xn fun a b Z=>ab k (wi k a b) (d3 Z)
def Ep:Fx S:=fp 22 [(248,qU k),(342,Rk k)] [(3,⟨[(0,aa),(5,ar 100005),(6,aa)],[]⟩,aA 5 11)] k f341 0
def OE (r1:List Int) (a0 i6:Int):St UU:=⟨[(0,(iU a0)),(5,(.own 100005 0)),(6,(iI i6))],[],[(100005,⟨0,ET.I,r1⟩)],[(100005,.wr)]⟩
section
variable (k:Nat) (a b:Int) (Z:Out UU->Option S)
theorem YW (r1): ∀n a0 i6,(Ep k).lp Z 3 [] n (OE r1 a0 i6)=td k (d3 Z) r1 n a0 i6:=bw (zw k (d3 Z) r1)
end
theorem acj (ho:ai o):Tl o 341 (Rl k:Rw S):=am (Ep k) ⟨sn k ho,aci k ho,trivial⟩ func341 fun a b Z x h=>aj (b:=JD k (d3 Z) (fun r1 a0 i6=>(Ep k).lp Z 3 [] k (OE r1 a0 i6)) a b) (by kernel_rfl) (aj (by simp only [YW];rfl) (bv h))
def H8:Rw S:=ah w5 xn fun a b Z=>ab k (we k a b) (P5 Z)
def Wi:Fx S:=fp 16 [(341,Rl k)] [] k f335 0
theorem L9 (ho:ai o):Tl o 335 (H8 k:Rw S):=am (Wi k) ⟨acj k ho,trivial⟩ func335 fun a b Z x h=>au h
def H9:Rw S:=ah lm xn fun f g Z=>ab k (mV k f g) (aG Z)
def uI:Fx S:=fp 45 [(171,mw k),(246,pd k),(335,H8 k)] [(5,⟨[(0,aa),(1,aa),(6,ar 100006),(7,aa)],[]⟩,aA 6 23),(8,⟨[(0,aa),(1,aa),(6,ar 100006),(7,aa),(8,aa)],[]⟩,aA 12 1175)] k f323 0
def xz (f g:List Cl) (out6:List Cl) (i7:Int):St UU:=⟨[(0,(sC f)),(1,(sC g)),(6,(.own 100006 0)),(7,(iI i7))],[],[(100006,⟨0,ET.C,out6⟩)],[(100006,.wr)]⟩
def OF (f g:List Cl) (i7:Int) (out6':List Cl) (v8:Int):St UU:=⟨[(0,(sC f)),(1,(sC g)),(6,(.own 100006 0)),(7,(iI i7)),(8,(iI v8))],[],[(100006,⟨0,ET.C,out6'⟩)],[(100006,.wr)]⟩
section
variable (k:Nat) (f g:List Cl) (Z:Out UU->Option S)
theorem YY (i7 Z0): ∀n out6' v8,(uI k).lp Z 8 [Z0] n (OF f g i7 out6' v8)=qm k (aG Z) (fun out6 i7=>Z0 (xz f g out6 i7)) f g i7 n out6' v8:=bw (zz k (aG Z) f g i7 (fun out6 i7=>Z0 (xz f g out6 i7)))
theorem YX: ∀n out6 i7,(uI k).lp Z 5 [] n (xz f g out6 i7)=oR k (aG Z) f g n out6 i7:=bw (fun own=>u5 k (aG Z) f g (fun i7 out6' v8=>qm k (aG Z) own f g i7 k out6' v8) own) rfl (fun _=>rfl) fun r out6 i7=>aj (b:=u5 k (aG Z) f g (fun i7 out6' v8=>(uI k).lp Z 8 [r] k (OF f g i7 out6' v8)) (fun out6 i7=>r (xz f g out6 i7)) out6 i7) (by kernel_rfl) (by simp only [YY])
end
theorem L_ (ho:ai o):Tl o 323 (H9 k:Rw S):=am (uI k) ⟨mX k ho,pY k ho,L9 k ho,trivial⟩ func323 fun f g Z x h=>aj (b:=JG k (aG Z) (fun out6 i7=>(uI k).lp Z 5 [] k (xz f g out6 i7)) f g) (by kernel_rfl) (aj (by simp only [YX];rfl) (bv h))
def H_:Rw S:=ah ig xn fun f Z=>ab k (rW k f) (aG Z)
def Er:Fx S:=fp 34 [(171,mw k),(323,H9 k),(336,Rj k)] [(6,ce [0,4,5,6] [],aA 7 47)] k f324 0
def OG (f:List Cl) (v4:List Cl) (v5 i6:Int):St UU:=⟨[(0,(sC f)),(4,(sC v4)),(5,(iI v5)),(6,(iI i6))],[],[],[]⟩
section
variable (k:Nat) (f:List Cl) (Z:Out UU->Option S)
theorem YZ: ∀n v4 v5 i6,(Er k).lp Z 6 [] n (OG f v4 v5 i6)=tf k (aG Z) f n v4 v5 i6:=iG (zA k (aG Z) f)
end
theorem Ma (ho:ai o):Tl o 324 (H_ k:Rw S):=am (Er k) ⟨mX k ho,L_ k ho,ach k ho,trivial⟩ func324 fun f Z x h=>aj (b:=JH k (aG Z) (fun v4 v5 i6=>(Er k).lp Z 6 [] k (OG f v4 v5 i6)) f) (by kernel_rfl) (aj (by simp only [YZ];rfl) (bv h))
def Rm:Rw S:=ah ig xn fun f Z=>ab k (wk k f) (aG Z)
def Wj:Fx S:=fp 18 [(324,H_ k),(334,yh k)] [] k f320 0
theorem ack (ho:ai o):Tl o 320 (Rm k:Rw S):=am (Wj k) ⟨Ma k ho,Bv k ho,trivial⟩ func320 fun f Z x h=>au h
def Rn:Rw S:=ah lm xn fun f g Z=>ab k (oi k f g) (aG Z)
def uJ:Fx S:=fp 45 [(172,yd k),(334,yh k),(335,H8 k)] [(5,⟨[(0,aa),(1,aa),(6,ar 100006),(7,aa)],[]⟩,aA 6 23),(8,⟨[(0,aa),(1,aa),(6,ar 100006),(7,aa),(8,aa)],[]⟩,aA 12 1175)] k f321 0
def xA (f g:List Cl) (out6:List Cl) (i7:Int):St UU:=⟨[(0,(sC f)),(1,(sC g)),(6,(.own 100006 0)),(7,(iI i7))],[],[(100006,⟨0,ET.C,out6⟩)],[(100006,.wr)]⟩
def OH (f g:List Cl) (i7:Int) (out6':List Cl) (v8:Int):St UU:=⟨[(0,(sC f)),(1,(sC g)),(6,(.own 100006 0)),(7,(iI i7)),(8,(iI v8))],[],[(100006,⟨0,ET.C,out6'⟩)],[(100006,.wr)]⟩
section
variable (k:Nat) (f g:List Cl) (Z:Out UU->Option S)
theorem Y1 (i7 Z0): ∀n out6' v8,(uJ k).lp Z 8 [Z0] n (OH f g i7 out6' v8)=qn k (aG Z) (fun out6 i7=>Z0 (xA f g out6 i7)) f g i7 n out6' v8:=bw (zC k (aG Z) f g i7 (fun out6 i7=>Z0 (xA f g out6 i7)))
theorem Y0: ∀n out6 i7,(uJ k).lp Z 5 [] n (xA f g out6 i7)=oT k (aG Z) f g n out6 i7:=bw (fun own=>u7 k (aG Z) f g (fun i7 out6' v8=>qn k (aG Z) own f g i7 k out6' v8) own) rfl (fun _=>rfl) fun r out6 i7=>aj (b:=u7 k (aG Z) f g (fun i7 out6' v8=>(uJ k).lp Z 8 [r] k (OH f g i7 out6' v8)) (fun out6 i7=>r (xA f g out6 i7)) out6 i7) (by kernel_rfl) (by simp only [Y1])
end
theorem acl (ho:ai o):Tl o 321 (Rn k:Rw S):=am (uJ k) ⟨Bp k ho,Bv k ho,L9 k ho,trivial⟩ func321 fun f g Z x h=>aj (b:=JK k (aG Z) (fun out6 i7=>(uJ k).lp Z 5 [] k (xA f g out6 i7)) f g) (by kernel_rfl) (aj (by simp only [Y0];rfl) (bv h))
def Rp:Rw S:=ah lm xn fun f g Z=>ab k (kC k f g) (aG Z)
def Wm:Fx S:=fp 22 [(172,yd k),(334,yh k)] [] k f322 0
theorem acm (ho:ai o):Tl o 322 (Rp k:Rw S):=am (Wm k) ⟨Bp k ho,Bv k ho,trivial⟩ func322 fun f g Z x h=>au h
def Rq:Rw S:=ah B2 xn fun f i a_r Z=>ab k (AZ k f i a_r) (aG Z)
def Es:Fx S:=fp 90 [(171,mw k),(172,yd k),(290,pe k),(318,yg k),(319,Ri k),(320,Rm k),(321,Rn k),(322,Rp k)] [(5,ce [0,1,2,8,9] [],aA 6 23)] k f293 0
def OJ (f:List Cl) (i:Int) (a_r:List Cl) (v8:List Cl) (v9:Int):St UU:=⟨[(0,(sC f)),(1,(iI i)),(2,(sC a_r)),(8,(sC v8)),(9,(iI v9))],[],[],[]⟩
section
variable (k:Nat) (f:List Cl) (i:Int) (a_r:List Cl) (Z:Out UU->Option S)
theorem Y3: ∀n v8 v9,(Es k).lp Z 5 [] n (OJ f i a_r v8 v9)=qr k (aG Z) f i a_r n v8 v9:=bw (zD k (aG Z) f i a_r)
end
theorem acn (ho:ai o):Tl o 293 (Rq k:Rw S):=am (Es k) ⟨mX k ho,Bp k ho,pZ k ho,Bu k ho,acg k ho,ack k ho,acl k ho,acm k ho,trivial⟩ func293 fun f i a_r Z x h=>aj (b:=JL k (aG Z) (fun v8 v9=>(Es k).lp Z 5 [] k (OJ f i a_r v8 v9)) f i a_r) (by kernel_rfl) (aj (by simp only [Y3];rfl) (bv h))
def Rr:Rw S:=ah lm xn fun f g Z=>ab k (AV k f g) (aG Z)
def Wn:Fx S:=fp 22 [(171,mw k),(246,pd k)] [] k f325 0
theorem aco (ho:ai o):Tl o 325 (Rr k:Rw S):=am (Wn k) ⟨mX k ho,pY k ho,trivial⟩ func325 fun f g Z x h=>au h
def Rs:Rw S:=ah B2 xn fun f i a_r Z=>ab k (AW k f i a_r) (aG Z)
def uK:Fx S:=fp 93 [(171,mw k),(290,pe k),(318,yg k),(323,H9 k),(324,H_ k),(325,Rr k)] [(5,ce [0,1,2,8,9] [],aA 6 23),(1000017,ce [0,1,2,8,9,11,12] [],aA 15 31895)] k f294 0
def xB (f:List Cl) (i:Int) (a_r:List Cl) (v8:List Cl) (v9:Int):St UU:=⟨[(0,(sC f)),(1,(iI i)),(2,(sC a_r)),(8,(sC v8)),(9,(iI v9))],[],[],[]⟩
def OK (f:List Cl) (i:Int) (a_r v8:List Cl) (v9:Int) (g11:List Cl) (v12:Int):St UU:=⟨[(0,(sC f)),(1,(iI i)),(2,(sC a_r)),(8,(sC v8)),(9,(iI v9)),(11,(sC g11)),(12,(iI v12))],[],[],[]⟩
section
variable (k:Nat) (f:List Cl) (i:Int) (a_r:List Cl) (Z:Out UU->Option S)
theorem Y5 (v8 v9 Z0): ∀n g11 v12,(uK k).jn Z 1000017 [Z0] n (OK f i a_r v8 v9 g11 v12)=tg k (aG Z) (fun v8 v9=>Z0 (xB f i a_r v8 v9)) f i a_r v8 v9 n g11 v12:=M2 (E3 k (aG Z) f i a_r v8 v9 (fun v8 v9=>Z0 (xB f i a_r v8 v9)))
theorem Y4: ∀n v8 v9,(uK k).lp Z 5 [] n (xB f i a_r v8 v9)=oS k (aG Z) f i a_r n v8 v9:=bw (fun own=>u6 k (aG Z) f i a_r (fun v8 v9 g11 v12=>tg k (aG Z) own f i a_r v8 v9 k g11 v12) own) rfl (fun _=>rfl) fun r v8 v9=>aj (b:=u6 k (aG Z) f i a_r (fun v8 v9 g11 v12=>(uK k).jn Z 1000017 [r] k (OK f i a_r v8 v9 g11 v12)) (fun v8 v9=>r (xB f i a_r v8 v9)) v8 v9) (by kernel_rfl) (by simp only [Y5])
end
theorem acp (ho:ai o):Tl o 294 (Rs k:Rw S):=am (uK k) ⟨mX k ho,pZ k ho,Bu k ho,L_ k ho,Ma k ho,aco k ho,trivial⟩ func294 fun f i a_r Z x h=>aj (b:=JI k (aG Z) (fun v8 v9=>(uK k).lp Z 5 [] k (xB f i a_r v8 v9)) f i a_r) (by kernel_rfl) (aj (by simp only [Y4];rfl) (bv h))
def Rt:Rw S:=ah aeL xn fun f isFace i a_r depth Z=>ab k (wt k f isFace i a_r depth) (aG Z)
def Wo:Fx S:=fp 48 [(179,yf k),(249,H5 k),(290,pe k),(293,Rq k),(294,Rs k)] [] k f252 0
theorem acq (ho:ai o):Tl o 252 (Rt k:Rw S):=am (Wo k) ⟨Bt k ho,L7 k ho,pZ k ho,acn k ho,acp k ho,trivial⟩ func252 fun f isFace i a_r depth Z x h=>au h
def Ru:Rw S:=ah oI xn fun s i Z=>ab k (rT k s i) (d3 Z)
def Et:Fx S:=fp 35 [(248,qU k),(291,qT k),(318,yg k)] [(3,⟨[(1,aa),(5,ar 100005),(6,aa)],[]⟩,aA 5 11)] k f295 0
def OL (i:Int) (l5:List Int) (v6:Int):St UU:=⟨[(1,(iI i)),(5,(.own 100005 0)),(6,(iI v6))],[],[(100005,⟨0,ET.I,l5⟩)],[(100005,.wr)]⟩
section
variable (k:Nat) (s i:Int) (Z:Out UU->Option S)
theorem Y6: ∀n l5 v6,(Et k).lp Z 3 [] n (OL i l5 v6)=qi k (d3 Z) i n l5 v6:=bw (zm k (d3 Z) i)
end
theorem acr (ho:ai o):Tl o 295 (Ru k:Rw S):=am (Et k) ⟨sn k ho,sk k ho,Bu k ho,trivial⟩ func295 fun s i Z x h=>aj (b:=Jv k (d3 Z) (fun l5 v6=>(Et k).lp Z 3 [] k (OL i l5 v6)) s i) (by kernel_rfl) (aj (by simp only [Y6];rfl) (bv h))
def Rv:Rw S:=ah B1 xn fun f i Z=>ab k (ws k f i) (jA Z)
def Eu:Fx S:=fp 37 [(246,pd k),(295,Ru k)] [(3,⟨[(0,aa),(1,aa),(5,ar 100005),(6,aa)],[]⟩,aA 5 11)] k f253 0
def OM (f:List Cl) (i:Int) (out5:List Cl) (v6:Int):St UU:=⟨[(0,(sC f)),(1,(iI i)),(5,(.own 100005 0)),(6,(iI v6))],[],[(100005,⟨0,ET.C,out5⟩)],[(100005,.wr)]⟩
section
variable (k:Nat) (f:List Cl) (i:Int) (Z:Out UU->Option S)
theorem Y7: ∀n out5 v6,(Eu k).lp Z 3 [] n (OM f i out5 v6)=tt k (jA Z) f i n out5 v6:=bw (zR k (jA Z) f i)
end
theorem acs (ho:ai o):Tl o 253 (Rv k:Rw S):=am (Eu k) ⟨pY k ho,acr k ho,trivial⟩ func253 fun f i Z x h=>aj (b:=JY k (jA Z) (fun out5 v6=>(Eu k).lp Z 3 [] k (OM f i out5 v6)) f i) (by kernel_rfl) (aj (by simp only [Y7];rfl) (bv h))
def Ia (hd:kX S):Rw S:=ah aeM xn fun t i a_r depth drop Z=>hd t i a_r depth drop (bt Z)
def pC (hd:kX S) (k:Nat):Fx S:=fp 174 [(89,qV k),(174,CV k),(175,CW k),(180,Ia hd),(252,Rt k),(253,Rv k)] [(9,⟨[(1,aa),(2,aa),(3,aa),(4,aa),(5,aa),(10,aa),(11,aa),(14,aa)],[(5,[aa,aa,aa,aa,aa,aa]),(10,[aa,aa,aa,ar 200643,ar 200644,ar 200645]),(11,[aa,aa,aa,aa,ar 200708,ar 200709])]⟩,aA 9 191),(17,⟨[(1,aa),(2,aa),(3,aa),(4,aa),(5,aa),(10,aa),(11,aa),(18,aa)],[(5,[aa,aa,aa,aa,aa,aa]),(10,[aa,aa,aa,ar 200643,ar 200644,ar 200645]),(11,[aa,aa,aa,aa,ar 200708,ar 200709])]⟩,aA 10 383),(27,⟨[(1,aa),(2,aa),(3,aa),(4,aa),(5,aa),(10,aa),(11,aa),(18,aa),(21,aa),(22,aa)],[(5,[aa,aa,aa,aa,aa,aa]),(10,[aa,aa,aa,ar 200643,ar 200644,ar 200645]),(11,[aa,aa,aa,aa,ar 200708,ar 200709]),(21,[aa,ar 201345])]⟩,aA 22 1558911)] k f180 0
def Hq (t:Tm) (i:Int) (a_r:List Cl) (depth:Int) (drop:Bool) (cE:List Cl) (b11_4:List Tm) (v14:Int):St UU:=⟨[(1,(iI i)),(2,(sC a_r)),(3,(iI depth)),(4,(.bool drop)),(5,(pt 5)),(10,(pt 10)),(11,(pt 11)),(14,(iI v14))],[(5,bT t),(10,.cells [(iI 0),(iI 0),eC,(.own 200643 0),(.own 200644 0),(.own 200645 0)]),(11,.cells [(iI t.kind),(iI t.n),(.str t.name),(sC cE),(.own 200708 0),(.own 200709 0)])],[(200709,dU),(200708,⟨0,ET.T,b11_4⟩),(200645,dU),(200644,eh),(200643,dY)],[(200709,.wr),(200708,.wr),(200645,.wr),(200644,.wr),(200643,.wr)]⟩
def xD (t:Tm) (cE:List Cl) (b11_4:List Tm) (i:Int) (a_r:List Cl) (depth:Int) (drop:Bool) (b11_5:List (Br Tm)) (v18:Int):St UU:=⟨[(1,(iI i)),(2,(sC a_r)),(3,(iI depth)),(4,(.bool drop)),(5,(pt 5)),(10,(pt 10)),(11,(pt 11)),(18,(iI v18))],[(5,bT t),(10,.cells [(iI 0),(iI 0),eC,(.own 200643 0),(.own 200644 0),(.own 200645 0)]),(11,.cells [(iI t.kind),(iI t.n),(.str t.name),(sC cE),(.own 200708 0),(.own 200709 0)])],[(200709,⟨0,ET.B,b11_5⟩),(200708,⟨0,ET.T,b11_4⟩),(200645,dU),(200644,eh),(200643,dY)],[(200709,.wr),(200708,.wr),(200645,.wr),(200644,.wr),(200643,.wr)]⟩
def ON (t:Tm) (cE:List Cl) (b11_4:List Tm) (b11_5:List (Br Tm)) (i v18:Int) (a_r:List Cl) (depth:Int) (drop:Bool) (iw:List Cl) (b21_1:List Tm) (v22:Int):St UU:=⟨[(1,(iI i)),(2,(sC a_r)),(3,(iI depth)),(4,(.bool drop)),(5,(pt 5)),(10,(pt 10)),(11,(pt 11)),(18,(iI v18)),(21,(pt 21)),(22,(iI v22))],[(5,bT t),(10,.cells [(iI 0),(iI 0),eC,(.own 200643 0),(.own 200644 0),(.own 200645 0)]),(11,.cells [(iI t.kind),(iI t.n),(.str t.name),(sC cE),(.own 200708 0),(.own 200709 0)]),(21,.cells [(sC iw),(.own 201345 0)])],[(201345,⟨0,ET.T,b21_1⟩),(200709,⟨0,ET.B,b11_5⟩),(200708,⟨0,ET.T,b11_4⟩),(200645,dU),(200644,eh),(200643,dY)],[(201345,.wr),(200709,.wr),(200708,.wr),(200645,.wr),(200644,.wr),(200643,.wr)]⟩
section
variable (hd:kX S) (k:Nat) (t:Tm) (i:Int) (a_r:List Cl) (depth:Int) (drop:Bool) (Z:Out UU->Option S)
theorem Y_ (cE b11_4 b11_5 v18 Z1): ∀n iw b21_1 v22,(pC hd k).lp Z 27 [Z1] n (ON t cE b11_4 b11_5 i v18 a_r depth drop iw b21_1 v22)=ni hd k (bt Z) (fun b11_5 v18=>Z1 (xD t cE b11_4 i a_r depth drop b11_5 v18)) t cE b11_4 b11_5 i v18 a_r depth drop n iw b21_1 v22:=iG (zS hd k (bt Z) t cE b11_4 b11_5 i v18 a_r depth drop (fun b11_5 v18=>Z1 (xD t cE b11_4 i a_r depth drop b11_5 v18)))
theorem Y9 (cE b11_4): ∀n b11_5 v18,(pC hd k).lp Z 17 [] n (xD t cE b11_4 i a_r depth drop b11_5 v18)=lu hd k (bt Z) t cE b11_4 i a_r depth drop n b11_5 v18:=bw (fun own=>vr hd k (bt Z) t cE b11_4 i a_r depth drop (fun b11_5 v18 iw b21_1 v22=>ni hd k (bt Z) own t cE b11_4 b11_5 i v18 a_r depth drop k iw b21_1 v22) own) rfl (fun _=>rfl) fun r b11_5 v18=>aj (b:=vr hd k (bt Z) t cE b11_4 i a_r depth drop (fun b11_5 v18 iw b21_1 v22=>(pC hd k).lp Z 27 [r] k (ON t cE b11_4 b11_5 i v18 a_r depth drop iw b21_1 v22)) (fun b11_5 v18=>r (xD t cE b11_4 i a_r depth drop b11_5 v18)) b11_5 v18) (by kernel_rfl) (by simp only [Y_])
theorem Y8: ∀n cE b11_4 v14,(pC hd k).lp Z 9 [] n (Hq t i a_r depth drop cE b11_4 v14)=oW hd k (bt Z) t i a_r depth drop n cE b11_4 v14:=iG (fun own=>vq hd k (bt Z) t i a_r depth drop (fun cE b11_4 b11_5 v18=>lu hd k (bt Z) t cE b11_4 i a_r depth drop k b11_5 v18) own) rfl (fun _=>rfl) fun r cE b11_4 v14=>aj (b:=vq hd k (bt Z) t i a_r depth drop (fun cE b11_4 b11_5 v18=>(pC hd k).lp Z 17 [] k (xD t cE b11_4 i a_r depth drop b11_5 v18)) (fun cE b11_4 v14=>r (Hq t i a_r depth drop cE b11_4 v14)) cE b11_4 v14) (by kernel_rfl) (by simp only [Y9])
end
theorem MS (o:Obj) (ho:ai o): ∀k:Nat,Tl o 180 (Ia (jZ k:kX S))
 |0=>jh fun t i a_r depth drop Z x h=>by cases h
 |k+1=>am (pC (jZ k) k) ⟨sq k ho,F_ k ho,Ga k ho,MS o ho k,acq k ho,acs k ho,trivial⟩ func180 fun t i a_r depth drop Z x h=>aj (b:=JZ (jZ k) k (bt Z) (fun cE b11_4 v14=>(pC (jZ k) k).lp Z 9 [] k (Hq t i a_r depth drop cE b11_4 v14)) t i a_r depth drop) (by kernel_rfl) (aj (by simp only [Y8];rfl) h)
def Rx:Rw S:=ah GO xn fun t i a_r Z=>ab k (wq k t i a_r) (bt Z)
def Wp:Fx S:=fp 27 [(89,qV k),(179,yf k),(180,Ia (jZ k))] [] k f90 0
theorem act (ho:ai o):Tl o 90 (Rx k:Rw S):=am (Wp k) ⟨sq k ho,Bt k ho,MS o ho k,trivial⟩ func90 fun t i a_r Z x h=>au h
section
variable (k:Nat) (dO c0_1 bK:Int) (bL:ByteArray) (bM:List Cl) (bN:List Tm) (bO bP:List (Br Tm)) (Z:Out UU->Option S)
end
section
variable (k:Nat) (dO c0_1 bK:Int) (bL:ByteArray) (bM:List Cl) (bN:List Tm) (bO bP:List (Br Tm)) (c1:Int) (Z:Out UU->Option S)
end
def Ry:Rw S:=ah w8 xn fun t a sys Z=>ab k (Aj k t a sys) (hJ Z)
def Ev:Fx S:=fp 76 [(186,tZ k),(207,yl k),(208,HW k),(209,CQ k),(210,nI k),(211,Ik k),(212,CO k),(213,ya k)] [(4,⟨[(4,aa),(6,aa),(8,aa),(9,aa),(27,aa),(28,aa),(29,aa)],[(4,[aa,aa,aa,aa,aa,aa]),(6,[aa,aa,aa,ar 200387,ar 200388,ar 200389]),(9,[aa,aa,aa,ar 200579,aa,ar 200581]),(19000,[aa])]⟩,aA 6 23)] k f120 0
def OO (a:Tm) (r5:Int×Int×ByteArray×List Tm) (sys:List (Br Tm)) (d_:Int) (b9_5:List (Br Tm)) (v29:Int):St UU:=⟨[(4,(pt 4)),(6,(pt 6)),(8,(pt 19000)),(9,(pt 9)),(27,(sB sys)),(28,(iI sys.length)),(29,(iI v29))],[(4,bT a),(6,.cells [(iI 0),(iI 0),eC,(.own 200387 0),(.own 200388 0),(.own 200389 0)]),(9,.cells [(iI r5.1),(iI r5.2.1),(.str r5.2.2.1),(.own 200579 0),(sT r5.2.2.2),(.own 200581 0)]),(19000,bI d_)],[(200581,⟨0,ET.B,b9_5⟩),(200579,dY),(200389,dU),(200388,eh),(200387,dY)],[(200581,.wr),(200579,.wr),(200389,.wr),(200388,.wr),(200387,.wr)]⟩
section
variable (k:Nat) (t a:Tm) (sys:List (Br Tm)) (Z:Out UU->Option S)
theorem Za (r5): ∀n d_ b9_5 v29,(Ev k).lp Z 4 [] n (OO a r5 sys d_ b9_5 v29)=kL k (hJ Z) a r5 sys n d_ b9_5 v29:=iG (rq k (hJ Z) a r5 sys)
end
theorem acu (ho:ai o):Tl o 120 (Ry k:Rw S):=am (Ev k) ⟨wG k ho,Bx k ho,LZ k ho,F5 k ho,oB k ho,Mk k ho,F1 k ho,Bm k ho,trivial⟩ func120 fun t a sys Z x h=>aj (b:=I7 k (hJ Z) (fun r5 d_ b9_5 v29=>(Ev k).lp Z 4 [] k (OO a r5 sys d_ b9_5 v29)) t a sys) (by kernel_rfl) (aj (by simp only [Za];rfl) (bv h))
def Rz:Rw S:=ah Nw eF fun t a sys c0 Z=>ab k (AO k t a sys c0) (lJ Z)
def Ws:Fx S:=fp 21 [(93,nF k),(94,nG k),(120,Ry k)] [] k f62 1
theorem acv (ho:ai o):Tl o 62 (Rz k:Rw S):=am (Ws k) ⟨ox k ho,oy k ho,acu k ho,trivial⟩ func62 fun t a sys c0 Z x h=>au h
section
variable (k:Nat) (t:Tm) (dO c0_1 bK:Int) (bL:ByteArray) (bM:List Cl) (bN:List Tm) (bO bP:List (Br Tm)) (Z:Out UU->Option S)
end
section
variable (k:Nat) (dO c0_1 bK:Int) (bL:ByteArray) (bM:List Cl) (bN:List Tm) (bO bP:List (Br Tm)) (Z:Out UU->Option S)
end
def RA:Rw S:=ah GL UQ fun a_x c1 c2 Z=>ab k (AG k a_x c1 c2) (ajz c1 Z)
def Wt:Fx S:=fp 22 [(56,qX k),(57,CT k),(58,nD k),(59,kP k)] [] k f55 3
theorem acw (ho:ai o):Tl o 55 (RA k:Rw S):=am (Wt k) ⟨su k ho,F8 k ho,ov k ho,lg k ho,trivial⟩ func55 fun a_x c1 c2 Z x h=>au h
def RB:Rw S:=ah aeN UQ fun l c1 c2 Z=>ab k (LF k l c1 c2) (Cq c1 Z)
def Ey:Fx S:=fx 22 (fun _=>[]) (fun _=>false) [(55,RA k)] [(3,⟨[(1,aa),(5,ar 100005),(8,aa),(9,aa),(10,aa)],[(1000000,[aa]),(1000001,[aa]),(1000002,[aa])]⟩,aA 5 11)] k f54 false [true] 3
def OP (c1 l:List (Br Tm)) (j7 v10:Int) (out5:List (Br Tm)):St UU:=⟨[(1,(.func 55 [] [(pt 1000000),(pt 1000001)])),(5,(.own 100005 0)),(8,(sB l)),(9,(iI l.length)),(10,(iI v10))],[(1000000,.cells [(pt 1000002)]),(1000001,.cells [(sB c1)]),(1000002,bI j7)],[(100005,⟨0,ET.B,out5⟩)],[(100005,.wr)]⟩
section
variable (k:Nat) (l c1:List (Br Tm)) (c2:Int) (Z:Out UU->Option S)
theorem Zb: ∀n j7 v10 out5,(Ey k).lp Z 3 [] n (OP c1 l j7 v10 out5)=sY k (Cq c1 Z) c1 l n j7 v10 out5:=iG (zh k (Cq c1 Z) c1 l)
end
theorem acx (ho:ai o):Tl o 54 (RB k:Rw S):=am (Ey k) ⟨acw k ho,trivial⟩ func54 fun l c1 c2 Z x h=>aj (b:=Ug k (Cq c1 Z) (fun j7 v10 out5=>(Ey k).lp Z 3 [] k (OP c1 l j7 v10 out5)) l c1 c2) (by kernel_rfl) (aj (by simp only [Zb];rfl) (bv h))
def RD:Rw S:=ah aeO Ky fun a_x c1 c2 c3 Z=>ab k (AH k a_x c1 c2 c3) (aiZ c1 c2 Z)
def Wu:Fx S:=fp 30 [(56,qX k),(58,nD k),(59,kP k),(61,yb k),(62,Rz k)] [] k f60 4
theorem acy (ho:ai o):Tl o 60 (RD k:Rw S):=am (Wu k) ⟨su k ho,ov k ho,lg k ho,Bn k ho,acv k ho,trivial⟩ func60 fun a_x c1 c2 c3 Z x h=>au h
def RE:Rw S:=ah M9 Ky fun l c1 c2 c3 Z=>ab k (FH k l c1 c2 c3) (Cr c1 c2 Z)
def Ez:Fx S:=fx 22 (fun _=>[]) (fun _=>false) [(60,RD k)] [(3,⟨[(1,aa),(5,ar 100005),(8,aa),(9,aa),(10,aa)],[(1000000,[aa]),(1000001,[aa,aa,aa,aa,aa,aa]),(1000002,[aa,aa,aa,aa,aa,aa]),(1000003,[aa])]⟩,aA 5 11)] k f54 false [true] 4
def OQ (c1 c2:Tm) (l:List (Br Tm)) (eI v10:Int) (out5:List (Br Tm)):St UU:=⟨[(1,(.func 60 [] [(pt 1000000),(pt 1000001),(pt 1000002)])),(5,(.own 100005 0)),(8,(sB l)),(9,(iI l.length)),(10,(iI v10))],[(1000000,.cells [(pt 1000003)]),(1000001,bT c1),(1000002,bT c2),(1000003,bI eI)],[(100005,⟨0,ET.B,out5⟩)],[(100005,.wr)]⟩
section
variable (k:Nat) (l:List (Br Tm)) (c1 c2:Tm) (c3:Int) (Z:Out UU->Option S)
theorem Zc: ∀n eI v10 out5,(Ez k).lp Z 3 [] n (OQ c1 c2 l eI v10 out5)=sX k (Cr c1 c2 Z) c1 c2 l n eI v10 out5:=iG (zg k (Cr c1 c2 Z) c1 c2 l)
end
theorem acz (ho:ai o):Tl o 54 (RE k:Rw S):=am (Ez k) ⟨acy k ho,trivial⟩ func54 fun l c1 c2 c3 Z x h=>aj (b:=Uf k (Cr c1 c2 Z) (fun eI v10 out5=>(Ez k).lp Z 3 [] k (OQ c1 c2 l eI v10 out5)) l c1 c2 c3) (by kernel_rfl) (aj (by simp only [Zc];rfl) (bv h))
def RG:Rw S:=ah GL Kz fun a_x c0 c1 Z=>ab k (FE k a_x c0 c1) (ai0 c0 c1 Z)
def Wv:Fx S:=fp 18 [(59,kP k),(63,t6 k)] [] k f64 2
theorem acA (ho:ai o):Tl o 64 (RG k:Rw S):=am (Wv k) ⟨lg k ho,wH k ho,trivial⟩ func64 fun a_x c0 c1 Z x h=>au h
def RH:Rw S:=ah M_ Kz fun l c0 c1 Z=>ab k (vY k l c0 c1) (Ct c0 c1 Z)
def EA:Fx S:=fx 22 (fun _=>[]) (fun _=>false) [(64,RG k)] [(3,⟨[(1,aa),(5,ar 100005),(8,aa),(9,aa),(10,aa)],[(1000000,[aa,aa,aa,aa,aa,aa]),(1000001,[aa,aa,aa,aa,aa,aa])]⟩,aA 5 11)] k f54 false [true] 2
def OR (c0 c1:Tm) (l:List (Br Tm)) (v10:Int) (out5:List (Br Tm)):St UU:=⟨[(1,(.func 64 [] [(pt 1000000),(pt 1000001)])),(5,(.own 100005 0)),(8,(sB l)),(9,(iI l.length)),(10,(iI v10))],[(1000000,bT c0),(1000001,bT c1)],[(100005,⟨0,ET.B,out5⟩)],[(100005,.wr)]⟩
section
variable (k:Nat) (l:List (Br Tm)) (c0 c1:Tm) (Z:Out UU->Option S)
theorem Zd: ∀n v10 out5,(EA k).lp Z 3 [] n (OR c0 c1 l v10 out5)=sW k (Ct c0 c1 Z) c0 c1 l n v10 out5:=bw (zf k (Ct c0 c1 Z) c0 c1 l)
end
theorem acB (ho:ai o):Tl o 54 (RH k:Rw S):=am (EA k) ⟨acA k ho,trivial⟩ func54 fun l c0 c1 Z x h=>aj (b:=Jr k (Ct c0 c1 Z) (fun v10 out5=>(EA k).lp Z 3 [] k (OR c0 c1 l v10 out5)) l c0 c1) (by kernel_rfl) (aj (by simp only [Zd];rfl) (bv h))
def Ib:Rw S:=ah gG xn fun t Z=>ab k (vV k t) (qS Z)
def Ww:Fx S:=fp 79 [(40,nE k),(41,pf (fT k)),(42,Ih k),(53,HX k),(54,nz (p6 M_ Kz) (RH k) (nz (p6 M9 Ky) (RE k) (RB k))),(57,CT k),(63,t6 k)] [] k f24 0
theorem Mb (ho:ai o):Tl o 24 (Ib k:Rw S):=am (Ww k) ⟨ow k ho,sG o ho k,Mh k ho,L0 k ho,qO (acB k ho) (qO (acz k ho) (acx k ho)),F8 k ho,wH k ho,trivial⟩ func24 fun t Z x h=>au h
def Ic:Rw S:=ah sH xn fun t vars dims Z=>ab k (lc k t vars dims) (bt Z)
def Wy:Fx S:=fp 22 [(178,CX (fm k))] [] k f124 0
theorem Mc (ho:ai o):Tl o 124 (Ic k:Rw S):=am (Wy k) ⟨GA o ho k,trivial⟩ func124 fun t vars dims Z x h=>au h
def Id:Rw S:=ah BY xn fun kind kids Z=>ab k (wx k kind kids) (bt Z)
def EB:Fx S:=fp 25 [] [(2,⟨[(0,aa),(1,aa),(4,aa),(5,aa)],[(4,[aa,aa,aa,ar 200259,ar 200260,ar 200261])]⟩,aA 4 5)] k f214 0
def OU (kind:Int) (kids:List Tm) (i5:Int):St UU:=⟨[(0,(iI kind)),(1,(sT kids)),(4,(pt 4)),(5,(iI i5))],[(4,.cells [(iI 0),(iI 0),eC,(.own 200259 0),(.own 200260 0),(.own 200261 0)])],[(200261,dU),(200260,eh),(200259,dY)],[(200261,.wr),(200260,.wr),(200259,.wr)]⟩
section
variable (k:Nat) (kind:Int) (kids:List Tm) (Z:Out UU->Option S)
theorem Zf: ∀n i5,(EB k).lp Z 2 [] n (OU kind kids i5)=tv k (bt Z) kind kids n i5:=eK (zT k (bt Z) kind kids)
end
theorem Md (ho:ai o):Tl o 214 (Id k:Rw S):=am (EB k) trivial func214 fun kind kids Z x h=>aj (b:=DB k (bt Z) (fun i5=>(EB k).lp Z 2 [] k (OU kind kids i5)) kind kids) (by kernel_rfl) (aj (by simp only [Zf];rfl) (bv h))
def C0:Rw S:=ah aeP xn fun kind a b Z=>ab k (md k kind a b) (bt Z)
def Wz:Fx S:=fp 12 [(214,Id k)] [] k f122 0
theorem Ge (ho:ai o):Tl o 122 (C0 k:Rw S):=am (Wz k) ⟨Md k ho,trivial⟩ func122 fun kind a b Z x h=>au h
def Ie:Rw S:=ah Nv xn fun t f kid Z=>ab k (jp k t f kid) (bt Z)
def WA:Fx S:=fp 27 [] [] k f125 0
theorem Me (ho:ai o):Tl o 125 (Ie k:Rw S):=am (WA k) trivial func125 fun t f kid Z x h=>au h
def C1:Rw S:=ah aeQ xn fun kind a Z=>ab k (oj k kind a) (bt Z)
def WB:Fx S:=fp 9 [(214,Id k)] [] k f128 0
theorem Gf (ho:ai o):Tl o 128 (C1 k:Rw S):=am (WB k) ⟨Md k ho,trivial⟩ func128 fun kind a Z x h=>au h
section
variable (k:Nat) (a_k a:Tm) (sys:List (Br Tm)) (Z:Out UU->Option S)
end
section
variable (k:Nat) (kind:Int) (sys:List (Br Tm)) (Z:Out UU->Option S)
end
def RJ:Rw S:=ah aeR xn fun kind l Z=>ab k (A4 k kind l) (bt Z)
def EC:Fx S:=fp 23 [(168,H3 k)] [(3,⟨[(0,aa),(4,aa),(5,aa),(6,aa)],[(4,[aa,aa,aa,ar 200259,ar 200260,ar 200261]),(5,[aa,aa,aa,ar 200323,ar 200324,aa])]⟩,aA 5 11)] k f216 0
def OV (kind:Int) (l:List (Br Tm)) (b5_4:List Tm) (i6:Int):St UU:=⟨[(0,(iI kind)),(4,(pt 4)),(5,(pt 5)),(6,(iI i6))],[(4,.cells [(iI 0),(iI 0),eC,(.own 200259 0),(.own 200260 0),(.own 200261 0)]),(5,.cells [(iI kind),(iI 0),eC,(.own 200323 0),(.own 200324 0),(sB l)])],[(200324,⟨0,ET.T,b5_4⟩),(200323,dY),(200261,dU),(200260,eh),(200259,dY)],[(200324,.wr),(200323,.wr),(200261,.wr),(200260,.wr),(200259,.wr)]⟩
section
variable (k:Nat) (kind:Int) (l:List (Br Tm)) (Z:Out UU->Option S)
theorem Zg: ∀n b5_4 i6,(EC k).lp Z 3 [] n (OV kind l b5_4 i6)=tu k (bt Z) kind l n b5_4 i6:=bw (E6 k (bt Z) kind l)
end
theorem acD (ho:ai o):Tl o 216 (RJ k:Rw S):=am (EC k) ⟨L5 k ho,trivial⟩ func216 fun kind l Z x h=>aj (b:=J7 k (bt Z) (fun b5_4 i6=>(EC k).lp Z 3 [] k (OV kind l b5_4 i6)) kind l) (by kernel_rfl) (aj (by simp only [Zg];rfl) (bv h))
def RL:Rw S:=ah GM xn fun l Z=>ab k (wy k l) (bD Z)
def ED:Fx S:=fp 19 [(36,ye k)] [(2,ce [0,3] [],aA 4 5)] k f215 0
def OW (l:List Tm) (i3:Int):St UU:=⟨[(0,(sT l)),(3,(iI i3))],[],[],[]⟩
section
variable (k:Nat) (l:List Tm) (Z:Out UU->Option S)
theorem Zh: ∀n i3,(ED k).lp Z 2 [] n (OW l i3)=tw k (bD Z) l n i3:=eK (zU k (bD Z) l)
end
theorem acE (ho:ai o):Tl o 215 (RL k:Rw S):=am (ED k) ⟨Bq k ho,trivial⟩ func215 fun l Z x h=>aj (b:=J9 k (bD Z) (fun i3=>(ED k).lp Z 2 [] k (OW l i3)) l) (by kernel_rfl) (aj (by simp only [Zh];rfl) (bv h))
def RM:Rw S:=ah aeS xn fun line a_r Z=>ab k (wv k line a_r) (bt Z)
def WD:Fx S:=fp 23 [(88,Rg k),(89,qV k),(90,Rx k)] [] k f271 0
theorem acF (ho:ai o):Tl o 271 (RM k:Rw S):=am (WD k) ⟨ace k ho,sq k ho,act k ho,trivial⟩ func271 fun line a_r Z x h=>au h
def RN:Rw S:=ah w8 xn fun t a sys Z=>ab k (ww k t a sys) (bt Z)
def EE:Fx S:=fp 59 [(89,qV k),(122,C0 k),(124,Ic k),(125,Ie k),(179,yf k),(271,RM k)] [(3,⟨[(2,aa),(4,aa),(6,aa),(7,aa),(8,aa)],[(4,[aa,aa,aa,aa,aa,aa]),(6,[aa,aa,aa,ar 200387,ar 200388,ar 200389]),(7,[aa,aa,aa,aa,aa,aa])]⟩,aA 5 11)] k f217 0
def OX (a:Tm) (sys:List (Br Tm)) (b7:Tm) (i8:Int):St UU:=⟨[(2,(sB sys)),(4,(pt 4)),(6,(pt 6)),(7,(pt 7)),(8,(iI i8))],[(4,bT a),(6,.cells [(iI 0),(iI 0),eC,(.own 200387 0),(.own 200388 0),(.own 200389 0)]),(7,bT b7)],[(200389,dU),(200388,eh),(200387,dY)],[(200389,.wr),(200388,.wr),(200387,.wr)]⟩
section
variable (k:Nat) (t a:Tm) (sys:List (Br Tm)) (Z:Out UU->Option S)
theorem Zi: ∀n b7 i8,(EE k).lp Z 3 [] n (OX a sys b7 i8)=nj k (bt Z) a sys n b7 i8:=bw (ry k (bt Z) a sys)
end
theorem acG (ho:ai o):Tl o 217 (RN k:Rw S):=am (EE k) ⟨sq k ho,Ge k ho,Mc k ho,Me k ho,Bt k ho,acF k ho,trivial⟩ func217 fun t a sys Z x h=>aj (b:=J8 k (bt Z) (fun b7 i8=>(EE k).lp Z 3 [] k (OX a sys b7 i8)) t a sys) (by kernel_rfl) (aj (by simp only [Zi];rfl) (bv h))
def Ig:Rw S:=ah gG xn fun t Z=>ab k (sa k t) (hJ Z)
def WE:Fx S:=fp 19 [(36,ye k)] [] k f108 0
theorem Mg (ho:ai o):Tl o 108 (Ig k:Rw S):=am (WE k) ⟨Bq k ho,trivial⟩ func108 fun t Z x h=>au h
def RO:Rw S:=ah w8 xn fun t a sys Z=>ab k (A5 k t a sys) (hJ Z)
def WF:Fx S:=fp 26 [(108,Ig k),(215,RL k),(216,RJ k),(217,RN k)] [] k f127 0
theorem acH (ho:ai o):Tl o 127 (RO k:Rw S):=am (WF k) ⟨Mg k ho,acE k ho,acD k ho,acG k ho,trivial⟩ func127 fun t a sys Z x h=>au h
section
variable (hd:XP S) (k:Nat) (t:Tm) (a_n:Int) (Z:Out UU->Option S)
end
section
variable (k:Nat) (t:Tm) (a_from a_by:Int) (Z:Out UU->Option S)
end
section
variable (k:Nat) (t:Tm) (vars dims:Int) (Z:Out UU->Option S)
end
section
variable (hd:XQ S) (k:Nat) (t:Tm) (a_n:Int) (u:Tm) (vars dims:Int) (Z:Out UU->Option S)
end
section
variable (k:Nat) (line a:Tm) (sys:List (Br Tm)) (Z:Out UU->Option S)
end
section
variable (k:Nat) (a_k a:Tm) (sys:List (Br Tm)) (Z:Out UU->Option S)
end
section
variable (k:Nat) (kind:Int) (kids:List Tm) (Z:Out UU->Option S)
end
section
variable (k:Nat) (a:Tm) (sys:List (Br Tm)) (Z:Out UU->Option S)
end
def RR:Rw S:=ah gG xn fun g Z=>ab k (A_ k g) (xY Z)
def EG:Fx S:=fp 32 [] [(3,⟨[(1,aa),(3,ar 100003),(4,aa)],[(1,[aa,aa,aa,aa,aa,aa])]⟩,aA 5 11)] k f121 0
def OZ (g:Tm) (out3:List (Br Tm)) (i4:Int):St UU:=⟨[(1,(pt 1)),(3,(.own 100003 0)),(4,(iI i4))],[(1,bT g)],[(100003,⟨0,ET.B,out3⟩)],[(100003,.wr)]⟩
section
variable (k:Nat) (g:Tm) (Z:Out UU->Option S)
theorem Zk: ∀n out3 i4,(EG k).lp Z 3 [] n (OZ g out3 i4)=tx k (xY Z) g n out3 i4:=bw (zW k (xY Z) g)
end
theorem acK (ho:ai o):Tl o 121 (RR k:Rw S):=am (EG k) trivial func121 fun g Z x h=>aj (b:=Ka k (xY Z) (fun out3 i4=>(EG k).lp Z 3 [] k (OZ g out3 i4)) g) (by kernel_rfl) (aj (by simp only [Zk];rfl) (bv h))
def RS:Rw S:=ah M4 xn fun a es Z=>ab k (sc k a es) (bt Z)
def WI:Fx S:=fp 14 [(128,C1 k)] [] k f123 0
theorem acL (ho:ai o):Tl o 123 (RS k:Rw S):=am (WI k) ⟨Gf k ho,trivial⟩ func123 fun a es Z x h=>au h
def RT:Rw S:=ah gG xn fun a_e Z=>ab k (A6 k a_e) (bt Z)
def WK:Fx S:=fp 5 [(128,C1 k)] [] k f126 0
theorem acM (ho:ai o):Tl o 126 (RT k:Rw S):=am (WK k) ⟨Gf k ho,trivial⟩ func126 fun a_e Z x h=>au h
def RU:Rw S:=ah w8 xn fun t a sys Z=>ab k (A9 k t a sys) (bt Z)
def WL:Fx S:=fp 17 [(122,C0 k)] [] k f129 0
theorem acN (ho:ai o):Tl o 129 (RU k:Rw S):=am (WL k) ⟨Ge k ho,trivial⟩ func129 fun t a sys Z x h=>au h
def RV:Rw S:=ah gG xn fun t Z=>ab k (A8 k t) (bt Z)
def pD:Fx S:=fp 175 [(89,qV k),(121,RR k),(122,C0 k),(123,RS k),(124,Ic k),(125,Ie k),(126,RT k),(127,RO k),(128,C1 k),(129,RU k)] [(8,⟨[(1,aa),(2,aa),(3,aa),(4,aa),(5,aa),(6,aa),(7,aa)],[(1,[aa,aa,aa,aa,aa,aa]),(2,[aa,aa,aa,ar 200131,ar 200132,ar 200133]),(3,[aa,aa,aa,aa,aa,aa]),(4,[aa,aa,aa,aa,aa,aa]),(6,[aa,aa,aa,aa,aa,aa])]⟩,aA 9 191),(15,⟨[(1,aa),(2,aa),(3,aa),(4,aa),(6,aa),(9,aa)],[(1,[aa,aa,aa,aa,aa,aa]),(2,[aa,aa,aa,ar 200131,ar 200132,ar 200133]),(3,[aa,aa,aa,aa,aa,aa]),(4,[aa,aa,aa,aa,aa,aa]),(6,[aa,aa,aa,aa,aa,aa])]⟩,aA 10 383),(26,⟨[(1,aa),(2,aa),(3,aa),(4,aa),(13,aa),(14,aa)],[(1,[aa,aa,aa,aa,aa,aa]),(2,[aa,aa,aa,ar 200131,ar 200132,ar 200133]),(3,[aa,aa,aa,aa,aa,aa]),(4,[aa,aa,aa,aa,aa,aa]),(13,[aa,aa,aa,aa,aa,aa])]⟩,aA 12 1535)] k f65 0
def Hr (t x2 x3:Tm) (r4:List (Br Tm)) (b6:Tm) (i7:Int):St UU:=⟨[(1,(pt 1)),(2,(pt 2)),(3,(pt 3)),(4,(pt 4)),(5,(sB r4)),(6,(pt 6)),(7,(iI i7))],[(1,bT t),(2,.cells [(iI 0),(iI 0),eC,(.own 200131 0),(.own 200132 0),(.own 200133 0)]),(3,bT x2),(4,bT x3),(6,bT b6)],[(200133,dU),(200132,eh),(200131,dY)],[(200133,.wr),(200132,.wr),(200131,.wr)]⟩
def Hs (t x2 x3:Tm) (b6':Tm) (i9:Int):St UU:=⟨[(1,(pt 1)),(2,(pt 2)),(3,(pt 3)),(4,(pt 4)),(6,(pt 6)),(9,(iI i9))],[(1,bT t),(2,.cells [(iI 0),(iI 0),eC,(.own 200131 0),(.own 200132 0),(.own 200133 0)]),(3,bT x2),(4,bT x3),(6,bT b6')],[(200133,dU),(200132,eh),(200131,dY)],[(200133,.wr),(200132,.wr),(200131,.wr)]⟩
def O0 (t x2 x3:Tm) (b13:Tm) (i14:Int):St UU:=⟨[(1,(pt 1)),(2,(pt 2)),(3,(pt 3)),(4,(pt 4)),(13,(pt 13)),(14,(iI i14))],[(1,bT t),(2,.cells [(iI 0),(iI 0),eC,(.own 200131 0),(.own 200132 0),(.own 200133 0)]),(3,bT x2),(4,bT x3),(13,bT b13)],[(200133,dU),(200132,eh),(200131,dY)],[(200133,.wr),(200132,.wr),(200131,.wr)]⟩
section
variable (k:Nat) (t:Tm) (Z:Out UU->Option S)
theorem Zn (x2 x3): ∀n b13 i14,(pD k).lp Z 26 [] n (O0 t x2 x3 b13 i14)=oY k (bt Z) t x2 x3 n b13 i14:=bw (zV k (bt Z) t x2 x3)
theorem Zm (x2 x3): ∀n b6' i9,(pD k).lp Z 15 [] n (Hs t x2 x3 b6' i9)=nn k (bt Z) t x2 x3 n b6' i9:=bw (fun own=>rA k (bt Z) t x2 x3 (fun b13 i14=>oY k (bt Z) t x2 x3 k b13 i14) own) rfl (fun _=>rfl) fun r b6' i9=>aj (b:=rA k (bt Z) t x2 x3 (fun b13 i14=>(pD k).lp Z 26 [] k (O0 t x2 x3 b13 i14)) (fun b6' i9=>r (Hs t x2 x3 b6' i9)) b6' i9) (by kernel_rfl) (by simp only [Zn])
theorem Zl (x2 x3 r4): ∀n b6 i7,(pD k).lp Z 8 [] n (Hr t x2 x3 r4 b6 i7)=oX k (bt Z) t x2 x3 r4 n b6 i7:=bw (fun own=>rz k (bt Z) t x2 x3 r4 (fun b6' i9=>nn k (bt Z) t x2 x3 k b6' i9) own) rfl (fun _=>rfl) fun r b6 i7=>aj (b:=rz k (bt Z) t x2 x3 r4 (fun b6' i9=>(pD k).lp Z 15 [] k (Hs t x2 x3 b6' i9)) (fun b6 i7=>r (Hr t x2 x3 r4 b6 i7)) b6 i7) (by kernel_rfl) (by simp only [Zm])
end
theorem acO (ho:ai o):Tl o 65 (RV k:Rw S):=am (pD k) ⟨sq k ho,acK k ho,Ge k ho,acL k ho,Mc k ho,Me k ho,acM k ho,acH k ho,Gf k ho,acN k ho,trivial⟩ func65 fun t Z x h=>aj (b:=J_ k (bt Z) (fun x2 x3 r4 b6 i7=>(pD k).lp Z 8 [] k (Hr t x2 x3 r4 b6 i7)) t) (by kernel_rfl) (aj (by simp only [Zl];rfl) (bv h))
def RW:Rw S:=ah M8 xn fun t out Z=>ab k (sb k t out) (qS Z)
def WM:Fx S:=fp 22 [(108,Ig k)] [] k f47 0
theorem acP (ho:ai o):Tl o 47 (RW k:Rw S):=am (WM k) ⟨Mg k ho,trivial⟩ func47 fun t out Z x h=>au h
section
variable (hd:XM S) (k:Nat) (t:Tm) (Z:Out UU->Option S)
end
section
variable (k:Nat) (a b:Tm) (Z:Out UU->Option S)
end
def RZ:Rw S:=ah gG xn fun t Z=>ab k (FL k t) (aH Z)
def WN:Fx S:=fp 6 [(9,HQ (kE k))] [] k f22 0
theorem acR (ho:ai o):Tl o 22 (RZ k:Rw S):=am (WN k) ⟨MM o ho k,trivial⟩ func22 fun t Z x h=>au h
def R0:Rw S:=ah BY xn fun kind kids Z=>ab k (jo k kind kids) (Cp Z)
def WO:Fx S:=fx 8 (fun _=>[]) (fun _=>false) [] [] k f52 true [] 0
theorem acS (ho:ai o):Tl o 52 (R0 k:Rw S):=am (WO k) trivial func52 fun kind kids Z x h=>au h
def R1:Rw S:=ah cn xn fun Z=>ab k (v_ k) (aH Z)
def WP:Fx S:=fp 77 [(14,yc (ie k)),(24,Ib k),(27,QY k),(52,R0 k)] [] k f23 0
theorem acT (ho:ai o):Tl o 23 (R1 k:Rw S):=am (WP k) ⟨Gz o ho k,Mb k ho,abW k ho,acS k ho,trivial⟩ func23 fun Z x h=>au h
def R2:Rw S:=ah gG xn fun t Z=>ab k (A7 k t) (qS Z)
def WQ:Fx S:=fp 19 [(36,ye k),(47,RW k),(65,RV k)] [] k f25 0
theorem acU (ho:ai o):Tl o 25 (R2 k:Rw S):=am (WQ k) ⟨Bq k ho,acP k ho,acO k ho,trivial⟩ func25 fun t Z x h=>au h
def C2:Rw S:=ah gG xn fun t Z=>ab k (AI k t) (aH Z)
def WR:Fx S:=fp 48 [(11,H0 (ma k)),(14,yc (ie k)),(22,RZ k),(23,R1 k),(24,Ib k),(25,R2 k)] [] k f6 0
theorem acV (ho:ai o):Tl o 6 (C2 k:Rw S):=am (WR k) ⟨MN o ho k,Gz o ho k,acR k ho,acT k ho,Mb k ho,acU k ho,trivial⟩ func6 fun t Z x h=>au h
section
variable (hd:XK S) (k:Nat) (t:Tm) (Z:Out UU->Option S)
end
section
variable (k:Nat) (t:Tm) (vars many:Int) (Z:Out UU->Option S)
end
section
variable (hd:XL S) (k:Nat) (t:Tm) (Z:Out UU->Option S)
end
theorem ama (o:Obj) (ho:ai o) (k:Nat):Tl o 6 (C2 k:Rw S):=acV k ho
end
end Go.Proofs.YtgajalidbabccaaGreatDoor
namespace Go.Proofs.YtgajalidbabccaaGreatDoor
open Go PI
variable {S:Type} {k:Nat}
def bE {α β:Type} (x:Except Int α) (f:α->Except Int β):Except Int β:=match x with
 | .error e=> .error e
 | .ok a=>f a
theorem bh {α β:Type} (a:α) (f:α->Except Int β):bE (.ok a) f=f a:=rfl
theorem rp {α β:Type} (e:Int) (f:α->Except Int β):bE (.error e) f= .error e:=rfl
theorem bH {α β:Type} {x:Except Int α} {f:α->Except Int β} {b:β} (h:bE x f= .ok b): ∃a,x= .ok a/\f a= .ok b:=by
 cases x with
 |error e=>cases h
 |ok a=>exact ⟨a,rfl,h⟩
theorem dl {α β:Type} {x:Except Int α} {f:α->Except Int β} {e:Int} (h:bE x f= .error e):x= .error e\/ ∃a,x= .ok a/\f a= .error e:=by
 cases x with
 |error e=>injection h with h;grind
 |ok a=>exact .inr ⟨a,rfl,h⟩
def eT (x:LC×Int):Except Int (LC):=if x.2=0 then .ok x.1 else .error x.2
theorem mC {x:LC×Int} (h:x.2=0):eT x= .ok x.1:=if_pos h
theorem lO {x:LC×Int} (h:x.2≠0):eT x= .error x.2:=if_neg h
theorem uy {x:LC×Int} {l:LC} (h:eT x= .ok l):x.2=0/\x.1=l:=by
 grind [eT]
theorem DD {x:LC×Int} {e:Int} (h:eT x= .error e):x.2≠0/\x.2=e:=by
 grind [eT]
def EN (e:Int):Prop:=0<=e/\e<=1000
theorem wM:EN 0:=by unfold EN;omega
theorem oC:EN 2:=by unfold EN;omega
theorem en3:EN 3:=by unfold EN;omega
theorem adE:EN 10:=by unfold EN;omega
theorem tH (l:LC):EN (cQ l).2:=by
 grind [cQ,en3,wM,oC]
theorem BQ {step:LC->Cl->LC×Int} (hs: ∀h c,EN (step h c).2): ∀ {r h:LC},EN (dg step h r).2:=by
 intro r
 induction r<;>grind [wM,dg]
theorem ahp (s i b:Int):EN (eY s i b).2:=by
 grind [eY,oC,iF,wM,adE]
theorem ahf (c:Cl) (i b:Int):EN (fV c i b).2:=by
 grind [fV,ahp,oC]
theorem tL (f:LC) (i b:Int):EN (di f i b).2:=by
 unfold di
 split
 ·split
  ·exact tH _
  ·exact BQ fun h c=>ahf c i b
 ·exact oC
theorem Uu {n b x y:Nat} (h:gY n b x=gY n b y):x=y:=by
 grind [gY]
theorem amo (n b:Nat) {l:List Nat} (h:l.Nodup):(l.map (gY n b)).Nodup:=
 List.Pairwise.map (S:=fun a b=>a≠b) (R:=fun a b=>a≠b) _ (fun x y hxy h=>hxy (Uu h)) h
theorem ahn {m n b:Nat} (h:(iF m n b).2=0) (j:Nat):(iF m n b).1.testBit j=true↔ ∃x,x<24/\m.testBit x=true/\gY n b x=j:=by
 rw [G9] at h ⊢
 split<;>grind [rf,amo,rC,mem_bitsN]
theorem aaf {m:Nat} (h:m<16777216):m&&&M24=m:=by
 apply h8
 grind [k_,nX]
theorem ahl {m n b:Nat} (hm:m<16777216) (h:b=0\/24<=n):iF m n b=(m,0):=by
 rw [G9,if_neg]
 ·have:(dN m).map (gY n b)=dN m:=by
   refine (List.map_congr_left fun x hx=> ?_).trans (List.map_id _)
   grind [mem_bitsN,gY]
  simp_all [I0,aaf]
 grind [mem_bitsN]
theorem ahg {c:Cl} {i b:Int} (hc:RC c) (hi:0<=i) (hb:0<=b) (h:b=0\/24<=i):fV c i b=(c,0):=by
 have h1:c.pos.toNat<16777216:=by have:=hc.1;omega
 have h2:c.neg.toNat<16777216:=by have:=hc.2;omega
 have hs: ∀s:Int,0<=s->s.toNat<16777216->eY s i b=(s,0):=fun s h0 hs=>by
  grind [eY,ahl]
 unfold fV
 rw [if_pos ((Db hc.ok).2 hc),hs _ hc.1.1 h1,hs _ hc.2.1 h2];rfl
theorem adV {i b:Int}: ∀ {r h:LC},(dg (gH i b) h r).2=0->(∀c∈r,(fV c i b).2=0)/\(dg (gH i b) h r).1=h++r.map fun c=>(fV c i b).1:=by
 intro r
 induction r<;>grind [dg,gH]
theorem adW {i b:Int}: ∀ {r h:LC},(∀c∈r,fV c i b=(c,0))->dg (gH i b) h r=(h++r,0):=by
 intro r
 induction r<;>grind [dg,gH]
theorem ahh {f:LC} {i b:Int} (hf:RF f) (hi:0<=i) (hb:0<=b) (h:b=0\/24<=i):di f i b=(f,0):=by
 unfold di
 rw [if_pos hf.right,adW fun c hc=>ahg (hf.rc hc) hi hb h,if_pos rfl]
 exact hf.1
theorem ahi {f:LC} {i b:Int} (h:(di f i b).2=0): ∀c∈(di f i b).1,∃d∈f,(fV d i b).2=0/\c=(fV d i b).1:=by
 grind [di,adV,cQ,mem_mins]
theorem aaF {c:Cl}:dJ c=false↔ ∀j,¬ (c.pos.toNat.testBit j=true/\c.neg.toNat.testBit j=true):=by
 unfold dJ
 rw [Bool.not_eq_false',decide_eq_true_eq]
 constructor
 ·intro h j ⟨h1,h2⟩
  have:(c.pos.toNat&&&c.neg.toNat).testBit j=true:=by grind
  grind
 ·intro h
  apply h8
  grind
theorem aho {s i b:Int} (h:(eY s i b).2=0) {j:Nat} (hj:(eY s i b).1.toNat.testBit j=true): ∃x,s.toNat.testBit x=true/\gY i.toNat b.toNat x=j:=by
 unfold eY at h hj
 split at h
 ·cases h
 ·next hn=>
  rw [if_neg hn] at hj
  have h':(iF s.toNat i.toNat b.toNat).2=0:=by
   omega
  obtain ⟨x,_,h2,h3⟩:=(ahn h' j).1 hj
  grind
theorem ahe {c:Cl} {i b:Int} (h:(fV c i b).2=0) (hc:dJ c=false):dJ (fV c i b).1=false:=by
 grind [aaF,fV,aho,Uu]
def eR (d b:Int) (f:LC):Except Int (LC):=if b=0\/d>=24 then .ok f else eT (di f d b)
theorem IA {d b:Int} {f g:LC} (hf:RF f) (h:eR d b f= .ok g):RF g:=by
 grind [eR,uy,nu]
theorem Dc {d b:Int} {f:LC} {e:Int} (h:eR d b f= .error e):0<e/\e<=1000:=by
 grind [eR,DD,tL,EN]
theorem ajS {d b:Int} {f g:LC} (hf:f.all (fun c=> !dJ c)=true) (h:eR d b f= .ok g):g.all (fun c=> !dJ c)=true:=by
 grind [eR,uy,ahi,ahe]
theorem Dd (d b:Int):eR d b []= .ok []:=by
 unfold eR
 split
 all_goals rfl
mutual
def dy (vb db v d:Int):Tm->Except Int Tm
 | .mk kd n nm r ks sys=>
  if kd=1/\n>=v/\n>1000000000-vb then .error 100
  else bE (eR d db r) fun r'=>bE (g7 vb db v d kd 0 ks) fun ks'=>bE (g8 vb db v d kd sys) fun sys'=> .ok (.mk kd (if kd=1/\n>=v then n+vb else n) nm r' ks' sys')
def g7 (vb db v d kd:Int) (i:Nat):LT->Except Int (LT)
 |[]=> .ok []
 |t::l=>bE (dy vb db (v+fj kd i) (d+dR kd i) t) fun t'=>bE (g7 vb db v d kd (i+1) l) fun l'=> .ok (t'::l')
def g8 (vb db v d kd:Int):LB->Except Int (LB)
 |[]=> .ok []
 |b::l=>bE (xg vb db v d kd b) fun b'=>bE (g8 vb db v d kd l) fun l'=> .ok (b'::l')
def xg (vb db v d kd:Int):Br Tm->Except Int (Br Tm)
 | .mk f ks=>bE (eR d db f) fun f'=>bE (gT vb db v d kd ks) fun ks'=> .ok (.mk f' ks')
def gT (vb db v d kd:Int):LT->Except Int (LT)
 |[]=> .ok []
 |t::l=>bE (dy vb db v (d+aM kd) t) fun t'=>bE (gT vb db v d kd l) fun l'=> .ok (t'::l')
end
mutual
def RowsT:Tm->Prop
 | .mk kd n nm r ks sys=>(RF r/\(kd=1->r=[])/\0<=kd)/\gL ks/\io sys
def gL:LT->Prop
 |[]=>True
 |t::l=>RowsT t/\gL l
def io:LB->Prop
 |[]=>True
 |b::l=>pM b/\io l
def pM:Br Tm->Prop
 | .mk f ks=>RF f/\gL ks
end
theorem rowsK_iff: ∀ {l:LT},gL l↔ ∀t∈l,RowsT t:=by
 intro l
 induction l<;>grind [gL]
theorem ID {b:Br Tm}:pM b↔RF b.face/\ ∀t∈b.kids,RowsT t:=by cases b;rw [pM,rowsK_iff]
theorem rowsS_iff: ∀ {l:LB},io l↔ ∀b∈l,RF b.face/\ ∀t∈b.kids,RowsT t:=by
 intro l
 induction l<;>grind [io,ID]
inductive F2 {α β:Type} (R:α->β->Prop):List α->List β->Prop
 |nil:F2 R [] []
 |cons {a:α} {b:β} {l:List α} {m:List β}:R a b->F2 R l m->F2 R (a::l) (b::m)
theorem F2.len {α β:Type} {R:α->β->Prop} {l:List α} {m:List β} (h:F2 R l m):m.length=l.length:=by
 induction h<;>grind
theorem F2.imp {α β:Type} {R Q:α->β->Prop} {l:List α} {m:List β} (h:F2 R l m) (hq: ∀a b,R a b->Q a b):F2 Q l m:=by
 induction h<;>grind [nil,cons]
theorem ahj {vb db v d kd:Int} {R:Tm->Tm->Prop}: ∀ {l:LT} {i:Nat} {l':LT},(∀x∈l,∀v d x',dy vb db v d x= .ok x'->R x x')->g7 vb db v d kd i l= .ok l'->F2 R l l':=by
 intro l
 induction l with
 |nil=>intro i l' _ h;rw [g7] at h;injection h with h;subst h;exact .nil
 |cons t l ih=>
  intro i l' hr h
  rw [g7] at h
  obtain ⟨t',h1,h⟩:=bH h
  obtain ⟨m,h2,h⟩:=bH h
  injection h with h;subst h
  exact .cons (hr t (by simp) _ _ _ h1) (ih (fun x hx=>hr x (by simp [hx])) h2)
theorem ahk {vb db v d kd:Int} {R:Tm->Tm->Prop}: ∀ {l:LT} {l':LT},(∀x∈l,∀v d x',dy vb db v d x= .ok x'->R x x')->gT vb db v d kd l= .ok l'->F2 R l l':=by
 intro l
 induction l with
 |nil=>intro l' _ h;rw [gT] at h;injection h with h;subst h;exact .nil
 |cons t l ih=>
  intro l' hr h
  rw [gT] at h
  obtain ⟨t',h1,h⟩:=bH h
  obtain ⟨m,h2,h⟩:=bH h
  injection h with h;subst h
  exact .cons (hr t (by simp) _ _ _ h1) (ih (fun x hx=>hr x (by simp [hx])) h2)
theorem ahq {vb db v d kd:Int} {R:Tm->Tm->Prop}: ∀ {l l':LB},(∀b∈l,∀x∈b.kids,∀v d x',dy vb db v d x= .ok x'->R x x')->g8 vb db v d kd l= .ok l'->
  F2 (fun b b'=>eR d db b.face= .ok b'.face/\F2 R b.kids b'.kids) l l':=by
 intro l
 induction l with
 |nil=>intro l' _ h;rw [g8] at h;injection h with h;subst h;exact .nil
 |cons b l ih=>
  intro l' hr h
  rw [g8] at h
  obtain ⟨b',h1,h⟩:=bH h
  obtain ⟨m,h2,h⟩:=bH h
  injection h with h;subst h
  cases b with
  |mk f ks=>
   rw [xg] at h1
   obtain ⟨f',h3,h1⟩:=bH h1
   obtain ⟨ks',h4,h1⟩:=bH h1
   injection h1 with h1;subst h1
   exact .cons ⟨h3,ahk (hr ⟨f,ks⟩ (by simp)) h4⟩ (ih (fun b hb=>hr b (by simp [hb])) h2)
theorem Ca {f:LC} {d:Int} (h:24<=d):eP f d=true:=by
 grind [eP,mem_bitsN]
def Up (x x':Tm):Prop:=ax x'=ax x/\aL x'=aL x/\x'.kind=x.kind/\(OkT x->OkT x'/\(RowsT x->RowsT x')/\ ∀dd dd',24<=dd->24<=dd'->cm false (-1) dd x=true->cm false (-1) dd' x'=true)
theorem Ux {l l':LT} (h:F2 Up l l'):bu l'=bu l:=by
 induction h with
 |nil=>rfl
 |cons h1 _ ih=>rw [bu,bu,h1.1,ih]
theorem UA {l l':LT} (h:F2 Up l l'):aN l'=aN l:=by
 induction h with
 |nil=>rfl
 |cons h1 _ ih=>rw [aN,aN,h1.2.1,ih]
theorem amy {l l':LB} (h:F2 (fun b b':Br Tm=>F2 Up b.kids b'.kids) l l'):bU l'=bU l:=by
 induction h with
 |nil=>rfl
 |cons h1 _ ih=>grind [bU,wE,Ux]
theorem amz {l l':LB} (h:F2 (fun b b':Br Tm=>F2 Up b.kids b'.kids) l l'):aS l'=aS l:=by
 induction h with
 |nil=>rfl
 |cons h1 _ ih=>grind [aS,uo,UA]
theorem Uy {l l':LT} (h:F2 Up l l'):cR l->cR l':=by
 induction h with
 |nil=>exact id
 |cons h1 _ ih=>rw [cR,cR];exact fun h=>⟨(h1.2.2.2 h.1).1,ih h.2⟩
theorem Uz {l l':LT} (h:F2 Up l l'):cR l->gL l->gL l':=by
 induction h with
 |nil=>simp
 |cons h1 _ ih=>rw [cR,gL,gL];exact fun h g=>⟨(h1.2.2.2 h.1).2.1 g.1,ih h.2 g.2⟩
theorem UD (v:Int):eH (-1) v= -1:=by rfl
theorem amw {kd dd dd':Int} (h1:24<=dd) (h2:24<=dd') {l l':LT} (h:F2 Up l l'): ∀ {i:Nat},cR l->dL false (-1) dd kd i l=true->dL false (-1) dd' kd i l'=true:=by
 induction h with
 |nil=>exact fun _ h=>h
 |cons h3 _ ih=>
  intro i
  rw [cR,dL,dL,aF,aF,UD]
  have:=mP kd i
  exact fun h g=>⟨(h3.2.2.2 h.1).2.2 _ _ (by omega) (by omega) g.1,ih h.2 g.2⟩
theorem amx {kd dd dd':Int} (h1:24<=dd) (h2:24<=dd') {l l':LT} (h:F2 Up l l'):cR l->ep false (-1) dd kd l=true->ep false (-1) dd' kd l'=true:=by
 induction h with
 |nil=>exact fun _ h=>h
 |cons h3 _ ih=>
  rw [cR,ep,ep,aF,aF]
  have:=iJ kd
  exact fun h g=>⟨(h3.2.2.2 h.1).2.2 _ _ (by omega) (by omega) g.1,ih h.2 g.2⟩
def rn (d db:Int) (b b':Br Tm):Prop:=eR d db b.face= .ok b'.face/\F2 Up b.kids b'.kids
theorem SU {d db:Int} {f g:LC} (h:eR d db f= .ok g) (hf:aw f) (hl:f.length<1073741824):aw g/\g.length<1073741824:=by
 unfold eR at h
 split at h
 ·grind
 ·obtain ⟨h1,rfl⟩:=uy h
  have:=nu h1
  exact ⟨this.2,by have:=this.len;omega⟩
theorem SV {d db:Int} {f g:LC} (h:eR d db f= .ok g) (hf:aw f) (hr:dj f=true):dj g=true:=(IA ((jC hf).1 hr) h).right
theorem ST {d db:Int} {f g:LC} (h:eR d db f= .ok g) (hf:aw f) (hr:eQ f=true):eQ g=true:=by
 grind [eQ,SV,ajS]
theorem SS {d db:Int} {f g:LC} (h:eR d db f= .ok g) (hf:f.length=0):g.length=0:=by
 grind [Dd]
theorem amt {d db:Int} {l l':LB} (h:F2 (rn d db) l l'):cG l->cG l':=by
 induction h with
 |nil=>exact id
 |cons h1 _ ih=>
  rw [cG,cG,qL,qL]
  intro h
  have h3:=SU h1.1 h.1.1.1 h.1.1.2.1
  exact ⟨⟨⟨h3.1,h3.2,by have:=h1.2.len;omega⟩,okK_iff.1 (Uy h1.2 (okK_iff.2 h.1.2))⟩,ih h.2⟩
theorem amv {d db:Int} {l l':LB} (h:F2 (rn d db) l l'):cG l->io l->io l':=by
 induction h with
 |nil=>simp
 |cons h1 _ ih=>
  rw [cG,qL,io,io,ID,ID]
  intro h g
  exact ⟨⟨IA g.1.1 h1.1,rowsK_iff.1 (Uz h1.2 (okK_iff.2 h.1.2) (rowsK_iff.2 g.1.2))⟩,ih h.2 g.2⟩
theorem ams {d db kd dd dd':Int} (h1:24<=dd) (h2:24<=dd') {l l':LB} (h:F2 (rn d db) l l'):cG l->er false (-1) dd kd l=true->er false (-1) dd' kd l'=true:=by
 induction h with
 |nil=>exact fun _ h=>h
 | @cons a b _ _ h3 _ ih=>
  rw [cG,qL,er,er,aF,aF]
  intro h g
  refine ⟨?_,ih h.2 g.2⟩
  cases a;cases b
  have g1:=g.1
  rw [nU] at g1 ⊢
  exact amx h1 h2 h3.2 (okK_iff.2 h.1.2) g1
theorem amu {d db kd dd dd':Int} (h1:24<=dd) (h2:24<=dd') {l l':LB} (h:F2 (rn d db) l l'):cG l->l.all (dS kd dd)=true->l'.all (dS kd dd')=true:=by
 induction h with
 |nil=>simp
 | @cons a b _ _ h3 _ ih=>
  rw [cG,qL,List.all_cons,List.all_cons,aF,aF]
  intro h g
  refine ⟨?_,ih h.2 g.2⟩
  have g1:=g.1
  unfold dS at g1 ⊢
  rw [aF,aF,decide_eq_true_eq] at g1 ⊢
  rw [h3.2.len]
  exact ⟨g1.1,ST h3.1 h.1.1.1 g1.2.1,Ca h2⟩
theorem Uw {d db:Int} {l l':LB} (h:F2 (rn d db) l l'):F2 (fun b b':Br Tm=>F2 Up b.kids b'.kids) l l':=h.imp fun _ _ h=>h.2
theorem Ha {vb db:Int} (hvb:0<=vb) (hvb':vb<=1000000000) (t:Tm): ∀v d t',dy vb db v d t= .ok t'->Up t t':=by
 induction t using mB with
 |h kd n nm r ks sys ih1 ih2=>
  intro v d t' h
  rw [dy] at h
  split at h
  ·cases h
  next hv=>
  obtain ⟨r',hr,h⟩:=bH h
  obtain ⟨ks',hk,h⟩:=bH h
  obtain ⟨sys',hs,h⟩:=bH h
  injection h with h;subst h
  have fk:F2 Up ks ks':=ahj (fun x hx v d x'=>ih1 x hx v d x') hk
  have fs:F2 (rn d db) sys sys':=ahq (fun b hb x hx v d x'=>ih2 b hb x hx v d x') hs
  refine ⟨?_, ?_,rfl,fun hok=> ?_⟩
  ·grind [ax,Ux,amy,Uw]
  ·grind [aL,UA,amz,Uw]
  ·obtain ⟨o1,o2,o3,o4,o5,o6,o7⟩:=hok.node
   have hok':=hok
   rw [OkT] at hok'
   obtain ⟨_,ok,os⟩:=hok'
   have hr':=SU hr o4 o5
   have o2':=o2
   unfold aQ at o2'
   refine ⟨?_, ?_, ?_⟩
   ·rw [OkT]
    refine ⟨⟨o1, ?_,o3,hr'.1,hr'.2,by rw [fk.len];exact o6,by rw [fs.len];exact o7⟩,Uy fk ok,amt fs os⟩
    grind [aQ]
   ·grind [RowsT,IA,Uz,amv,Dd]
   ·intro dd dd' h1 h2
    rw [cm,cm]
    simp only [Bool.false_and,dQ,hX,aF]
    rintro ⟨a,b,c⟩
    refine ⟨?_,amw h1 h2 fk ok b,ams h1 h2 fs os c⟩
    unfold fE at a ⊢
    simp only [aF,decide_eq_true_eq,fk.len,fs.len] at a ⊢
    grind [SS,SV,Ca,ST,amu]
theorem afr {kd:Int} {n:Nat} (h:gS kd=n):0<=kd:=by
 grind [gS]
theorem aad {bd:Bool} (t:Tm): ∀ {vars dims:Int},OkT t->cm bd vars dims t=true->RowsT t:=by
 induction t using mB with
 |h kd n nm r ks sys ih1 ih2=>
  intro vars dims hok h
  rw [cm,aF,aF,aF] at h
  obtain ⟨_,a,b,c⟩:=h
  obtain ⟨o1,o2,o3,o4,o5,o6,o7⟩:=hok.node
  have hok':=hok
  rw [OkT] at hok'
  obtain ⟨_,ok,os⟩:=hok'
  have hkids: ∀ {l:LT} {i:Nat},(∀x∈l,∀ {vars dims:Int},OkT x->cm bd vars dims x=true->RowsT x)->cR l->dL bd vars dims kd i l=true->gL l:=by
   intro l
   induction l<;>grind [gL,dL,cR]
  rw [yL,dI] at c
  unfold fE at a
  simp only [aF,decide_eq_true_eq] at a
  obtain ⟨⟨a1,a2,a3,a4⟩,a5⟩:=a
  have r0: ∀ {l:LC},l.length=0->RF l:=fun h=>by
   grind [uf]
  rw [RowsT]
  have hfaces:(sys=[]\/sys.all (dS kd dims)=true)/\RF r/\(kd=1->r=[]):=by
   have nosys:eB kd=0->sys=[]:=fun h=>List.length_eq_zero_iff.1 (a4 h)
   by_cases c1:kd=1
   ·rw [if_pos c1] at a5
    simp only [aF,decide_eq_true_eq] at a5
    exact ⟨.inl (nosys (by subst c1;decide)),r0 a5.1,fun _=>List.length_eq_zero_iff.1 a5.1⟩
   ·rw [if_neg c1] at a5
    by_cases c2:kd=2
    ·rw [if_pos c2] at a5
     simp only [aF,decide_eq_true_eq] at a5
     exact ⟨.inl (nosys (by subst c2;decide)),r0 a5.1,fun h=>absurd h c1⟩
    ·rw [if_neg c2] at a5
     by_cases c3:kd=13\/kd=21\/kd=26
     ·rw [if_pos c3,aF] at a5
      exact ⟨.inl (nosys (by rcases c3 with rfl|rfl|rfl<;>decide)),(jC o4).1 a5.1,fun h=>absurd h c1⟩
     ·rw [if_neg c3] at a5
      by_cases c4:kd=14
      ·rw [if_pos c4,aF] at a5
       unfold eQ at a5
       rw [aF] at a5
       exact ⟨.inl (nosys (by subst c4;decide)),(jC o4).1 a5.1.1,fun h=>absurd h c1⟩
      grind
  refine ⟨⟨hfaces.2.1,hfaces.2.2,afr a1⟩,hkids (fun x hx=>ih1 x hx) ok b, ?_⟩
  rw [rowsS_iff]
  intro br hbr
  have hc:=c br hbr
  rw [dI] at hc
  have hob:=hok.br hbr
  refine ⟨?_,fun x hx=>ih2 br hbr x hx (hob.2 x hx) (hc x hx)⟩
  rcases hfaces.1 with h|h<;>grind [dS,eQ,jC]
theorem nw {vb db:Int} (t:Tm): ∀ {v d e},dy vb db v d t= .error e->0<e/\e<=1000:=by
 induction t using mB with
 |h kd n nm r ks sys ih1 ih2=>
  intro v d e h
  rw [dy] at h
  split at h
  ·grind
  rcases dl h with h|⟨_,_,h⟩
  ·exact Dc h
  have hkids: ∀ {l:LT} {i:Nat},(∀x∈l,∀ {v d e},dy vb db v d x= .error e->0<e/\e<=1000)->g7 vb db v d kd i l= .error e->0<e/\e<=1000:=by
   intro l
   induction l with
   |nil=>grind [g7]
   |cons t l ih=>
    intro i hl h
    rw [g7] at h
    rcases dl h with h|⟨_,_,h⟩
    ·exact hl t (by simp) h
    grind [dl]
  have hmore: ∀ {l:LT},(∀x∈l,∀ {v d e},dy vb db v d x= .error e->0<e/\e<=1000)-> ∀ {e},gT vb db v d kd l= .error e->0<e/\e<=1000:=by
   intro l
   induction l with
   |nil=>grind [gT]
   |cons t l ih=>
    intro hl e h
    rw [gT] at h
    rcases dl h with h|⟨_,_,h⟩
    ·grind
    ·rcases dl h with h|⟨_,_,h⟩
     ·exact ih (fun x hx=>hl x (by simp [hx])) h
     simp_all
  have hsys: ∀ {l:LB},(∀b∈l,∀x∈b.kids,∀ {v d e},dy vb db v d x= .error e->0<e/\e<=1000)->g8 vb db v d kd l= .error e->0<e/\e<=1000:=by
   intro l
   induction l with
   |nil=>grind [g8]
   |cons b l ih=>
    intro hl h
    rw [g8] at h
    rcases dl h with h|⟨_,_,h⟩
    ·cases b with
     |mk f ks'=>
      rw [xg] at h
      rcases dl h with h|⟨_,_,h⟩
      ·exact Dc h
      ·rcases dl h with h|⟨_,_,h⟩
       ·exact hmore (hl (Br.mk f ks') (by simp)) h
       ·cases h
    grind [dl]
  grind [dl]
abbrev f8:=Int->LC->Except Int (LC)
mutual
def b_ (fo fa:f8) (d:Int):Tm->Except Int Tm
 | .mk kd n nm r ks sys=>bE (if kd=14 then fa d r else fo d r) fun r'=>bE (dq fo fa d kd 0 ks) fun ks'=>bE (ck fo fa d kd sys) fun sys'=> .ok (.mk kd n nm r' ks' sys')
def dq (fo fa:f8) (d kd:Int) (i:Nat):LT->Except Int (LT)
 |[]=> .ok []
 |t::l=>bE (b_ fo fa (d+dR kd i) t) fun t'=>bE (dq fo fa d kd (i+1) l) fun l'=> .ok (t'::l')
def ck (fo fa:f8) (d kd:Int):LB->Except Int (LB)
 |[]=> .ok []
 |b::l=>bE (jH fo fa d kd b) fun o=>bE (ck fo fa d kd l) fun l'=> .ok (o++l')
def jH (fo fa:f8) (d kd:Int):Br Tm->Except Int (LB)
 | .mk f ks=>bE (fa d f) fun f'=>if f'.length=0 then .ok [] else bE (dB fo fa d kd ks) fun ks'=> .ok [.mk f' ks']
def dB (fo fa:f8) (d kd:Int):LT->Except Int (LT)
 |[]=> .ok []
 |t::l=>bE (b_ fo fa (d+aM kd) t) fun t'=>bE (dB fo fa d kd l) fun l'=> .ok (t'::l')
end
theorem amD {fo fa:f8} {d kd:Int} {R:Tm->Tm->Prop}: ∀ {l:LT} {i:Nat} {l':LT},(∀x∈l,∀d x',b_ fo fa d x= .ok x'->R x x')->dq fo fa d kd i l= .ok l'->F2 R l l':=by
 intro l
 induction l with
 |nil=>intro i l' _ h;rw [dq] at h;injection h with h;subst h;exact .nil
 |cons t l ih=>
  intro i l' hr h
  rw [dq] at h
  obtain ⟨t',h1,h⟩:=bH h
  obtain ⟨m,h2,h⟩:=bH h
  injection h with h;subst h
  exact .cons (hr t (by simp) _ _ h1) (ih (fun x hx=>hr x (by simp [hx])) h2)
theorem amF {fo fa:f8} {d kd:Int} {R:Tm->Tm->Prop}: ∀ {l:LT} {l':LT},(∀x∈l,∀d x',b_ fo fa d x= .ok x'->R x x')->dB fo fa d kd l= .ok l'->F2 R l l':=by
 intro l
 induction l with
 |nil=>intro l' _ h;rw [dB] at h;injection h with h;subst h;exact .nil
 |cons t l ih=>
  intro l' hr h
  rw [dB] at h
  obtain ⟨t',h1,h⟩:=bH h
  obtain ⟨m,h2,h⟩:=bH h
  injection h with h;subst h
  exact .cons (hr t (by simp) _ _ h1) (ih (fun x hx=>hr x (by simp [hx])) h2)
def Wk (x x':Tm):Prop:=ax x'<=ax x/\aL x'<=aL x/\x'.kind=x.kind/\(OkT x->RowsT x->OkT x'/\RowsT x')
theorem UL {l l':LT} (h:F2 Wk l l'):bu l'<=bu l:=by
 induction h with
 |nil=>simp
 |cons h1 _ ih=>rw [bu,bu];have:=h1.1;omega
theorem UN {l l':LT} (h:F2 Wk l l'):aN l'<=aN l:=by
 induction h with
 |nil=>simp
 |cons h1 _ ih=>rw [aN,aN];have:=h1.2.1;omega
theorem UM {l l':LT} (h:F2 Wk l l'):cR l->gL l->cR l'/\gL l':=by
 induction h with
 |nil=>grind
 |cons h1 _ ih=>
  rw [cR,cR,gL,gL]
  intro h g
  have a:=h1.2.2.2 h.1 g.1
  grind
theorem amI {fo fa:f8} {d kd:Int} (hfa: ∀d f g,RF f->fa d f= .ok g->RF g): ∀ {l l':LB},(∀b∈l,∀x∈b.kids,∀d x',b_ fo fa d x= .ok x'->Wk x x')->ck fo fa d kd l= .ok l'->
  bU l'<=bU l/\aS l'<=aS l/\l'.length<=l.length/\(cG l->io l->cG l'/\io l'):=by
 intro l
 induction l with
 |nil=>grind [ck]
 |cons b l ih=>
  intro l' hr h
  rw [ck] at h
  obtain ⟨o,h1,h⟩:=bH h
  obtain ⟨m,h2,h⟩:=bH h
  injection h with h;subst h
  obtain ⟨i1,i2,i3,i4⟩:=ih (fun b hb=>hr b (by simp [hb])) h2
  cases b with
  |mk f ks=>
   rw [jH] at h1
   obtain ⟨f',h3,h1⟩:=bH h1
   split at h1
   ·grind [bU,aS,cG,io]
   ·obtain ⟨ks',h4,h1⟩:=bH h1
    injection h1 with h1;subst h1
    have f2:F2 Wk ks ks':=amF (hr ⟨f,ks⟩ (by simp)) h4
    have hd:=UL f2
    have hs:=UN f2
    refine ⟨?_, ?_, ?_,fun ho hg=> ?_⟩
    ·grind [bU,mf]
    ·grind [aS,jD]
    ·grind
    ·rw [cG,kY] at ho;rw [io,pM] at hg
     have a:=UM f2 ho.1.2 hg.1.2
     have b:=i4 ho.2 hg.2
     have c:=hfa d f f' hg.1.1 h3
     show cG (Br.mk f' ks'::m)/\io (Br.mk f' ks'::m)
     rw [cG,kY,io,pM]
     exact ⟨⟨⟨⟨c.2,by have:=c.len;omega,by rw [f2.len];simp_all⟩,a.1⟩,b.1⟩,⟨c,a.2⟩,b.2⟩
theorem UH {fo fa:f8} (hfo: ∀d f g,RF f->fo d f= .ok g->RF g) (hfa: ∀d f g,RF f->fa d f= .ok g->RF g) (h0: ∀d,fo d []= .ok []) (t:Tm): ∀d t',b_ fo fa d t= .ok t'->Wk t t':=by
 induction t using mB with
 |h kd n nm r ks sys ih1 ih2=>
  intro d t' h
  rw [b_] at h
  obtain ⟨r',hr,h⟩:=bH h
  obtain ⟨ks',hk,h⟩:=bH h
  obtain ⟨sys',hs,h⟩:=bH h
  injection h with h;subst h
  have fk:F2 Wk ks ks':=amD ih1 hk
  obtain ⟨s1,s2,s3,s4⟩:=amI hfa ih2 hs
  refine ⟨?_, ?_,rfl,fun hok hro=> ?_⟩
  ·rw [ax,ax];have:=UL fk;omega
  ·rw [aL,aL];have:=UN fk;omega
  ·rw [OkT] at hok;rw [RowsT] at hro
   obtain ⟨⟨o1,o2,o3,o4,o5,o6,o7⟩,ok,os⟩:=hok
   obtain ⟨⟨a,b,z⟩,c,e⟩:=hro
   have hk:=UM fk ok c
   have hs:=s4 os e
   have hrf:RF r':=by
    grind
   rw [OkT,RowsT]
   refine ⟨⟨⟨o1,o2,o3,hrf.2,by have:=hrf.len;omega,by rw [fk.len];exact o6,by omega⟩,hk.1,hs.1⟩,⟨hrf,fun h1=> ?_,z⟩,hk.2,hs.2⟩
   grind
section
variable {fo fa:f8} {G:Int->LC->LC}
def fi (f:f8) (G:Int->LC->LC):f8:=fun d l=>bE (f d l) fun m=> .ok (G d m)
def aO (G:Int->LC->LC):f8:=fun d l=> .ok (G d l)
theorem DG (t:Tm): ∀d,∃t',b_ (aO G) (aO G) d t= .ok t':=by
 induction t using mB with
 |h kd n nm r ks sys ih1 ih2=>
  intro d
  have hk: ∀ {l:LT} {i:Nat},(∀x∈l,∀d,∃t',b_ (aO G) (aO G) d x= .ok t')-> ∃l',dq (aO G) (aO G) d kd i l= .ok l':=by
   intro l
   induction l with
   |nil=>simp_all [dq]
   |cons t l ih=>
    intro i h
    obtain ⟨t',e⟩:=h t (by simp) (d+dR kd i)
    obtain ⟨l',e'⟩:=ih (i:=i+1) fun x hx=>h x (by simp [hx])
    grind [dq,bh]
  have hm: ∀ {l:LT},(∀x∈l,∀d,∃t',b_ (aO G) (aO G) d x= .ok t')-> ∃l',dB (aO G) (aO G) d kd l= .ok l':=by
   intro l
   induction l with
   |nil=>simp_all [dB]
   |cons t l ih=>
    intro h
    obtain ⟨t',e⟩:=h t (by simp) (d+aM kd)
    obtain ⟨l',e'⟩:=ih fun x hx=>h x (by simp [hx])
    grind [dB,bh]
  have hs: ∀ {l:LB},(∀b∈l,∀x∈b.kids,∀d,∃t',b_ (aO G) (aO G) d x= .ok t')-> ∃l',ck (aO G) (aO G) d kd l= .ok l':=by
   intro l
   induction l with
   |nil=>simp_all [ck]
   |cons b l ih=>
    intro h
    obtain ⟨l',e'⟩:=ih fun b hb=>h b (by simp [hb])
    cases b with
    |mk f ks=>
     obtain ⟨ks',e⟩:=hm (h ⟨f,ks⟩ (by simp))
     have: ∃o,jH (aO G) (aO G) d kd (.mk f ks)= .ok o:=by
      grind [jH,aO,bh]
     grind [ck,bh]
  obtain ⟨ks',ek⟩:=hk (i:=0) ih1
  obtain ⟨sys',es⟩:=hs ih2
  simp_all [aO,b_,bh]
theorem amE (d kd:Int): ∀ (l:LT) (i:Nat),∃l',dq (aO G) (aO G) d kd i l= .ok l':=by
 intro l
 induction l with
 |nil=>simp_all [dq]
 |cons t l ih=>
  intro i
  obtain ⟨t',e⟩:=DG (G:=G) t (d+dR kd i)
  obtain ⟨l',e'⟩:=ih (i+1)
  grind [dq,bh]
theorem UG (d kd:Int): ∀ (l:LT),∃l',dB (aO G) (aO G) d kd l= .ok l':=by
 intro l
 induction l with
 |nil=>simp_all [dB]
 |cons t l ih=>
  obtain ⟨t',e⟩:=DG (G:=G) t (d+aM kd)
  grind [dB,bh]
theorem amC (d kd:Int) (b:Br Tm): ∃o,jH (aO G) (aO G) d kd b= .ok o:=by
 cases b with
 |mk f ks=>
  obtain ⟨ks',e⟩:=UG (G:=G) d kd ks
  rw [jH,aO,bh]
  split<;>simp_all [bh]
theorem amH (d kd:Int): ∀ (l:LB),∃l',ck (aO G) (aO G) d kd l= .ok l':=by
 intro l
 induction l with
 |nil=>simp_all [ck]
 |cons b l ih=>
  obtain ⟨l',e'⟩:=ih
  obtain ⟨o,e⟩:=amC (G:=G) d kd b
  grind [ck,bh]
theorem amG (d kd:Int): ∀ (a b:LB),ck fo fa d kd (a++b)=bE (ck fo fa d kd a) fun a'=>bE (ck fo fa d kd b) fun b'=> .ok (a'++b'):=by
 intro a
 induction a with
 |nil=>intro b;rw [eo,ck,bh];cases ck fo fa d kd b<;>rfl
 |cons x a ih=>
  intro b
  rw [List.cons_append,ck,ck,ih]
  cases jH fo fa d kd x with
  |error e=>rfl
  |ok o=>
   rw [bh,bh]
   cases ck fo fa d kd a with
   |error e=>rfl
   |ok a'=>
    rw [bh,bh]
    cases ck fo fa d kd b with
    |error e=>rfl
    |ok b'=>grind [bh]
theorem amJ (hfa: ∀d f g,RF f->fa d f= .ok g->RF g) (hG: ∀d f,RF f->((G d f).length=0↔f.length=0)) (t:Tm): ∀d,RowsT t->bE (b_ fo fa d t) (b_ (aO G) (aO G) d)=b_ (fi fo G) (fi fa G) d t:=by
 induction t using mB with
 |h kd n nm r ks sys ih1 ih2=>
  intro d hrows
  rw [RowsT] at hrows
  obtain ⟨_,hrk,hrs⟩:=hrows
  have hk: ∀ {l:LT} {i:Nat},(∀x∈l,∀d,RowsT x->bE (b_ fo fa d x) (b_ (aO G) (aO G) d)=b_ (fi fo G) (fi fa G) d x)->gL l->bE (dq fo fa d kd i l) (dq (aO G) (aO G) d kd i)=dq (fi fo G) (fi fa G) d kd i l:=by
   intro l
   induction l with
   |nil=>grind [dq,bh]
   |cons t l ih=>
    intro i h hr
    rw [gL] at hr
    have h1:=h t (by simp) (d+dR kd i) hr.1
    have h2:=ih (i:=i+1) (fun x hx=>h x (by simp [hx])) hr.2
    rw [dq,dq,<-h1,<-h2]
    cases b_ fo fa (d+dR kd i) t with
    |error e=>rfl
    |ok t'=>
     rw [bh,bh]
     obtain ⟨t'',e⟩:=DG (G:=G) t' (d+dR kd i)
     rw [e,bh]
     cases dq fo fa d kd (i+1) l with
     |error e=>rfl
     |ok l'=>
      grind [bh,dq]
  have hm: ∀ {l:LT},(∀x∈l,∀d,RowsT x->bE (b_ fo fa d x) (b_ (aO G) (aO G) d)=b_ (fi fo G) (fi fa G) d x)->gL l->bE (dB fo fa d kd l) (dB (aO G) (aO G) d kd)=dB (fi fo G) (fi fa G) d kd l:=by
   intro l
   induction l with
   |nil=>grind [dB,bh]
   |cons t l ih=>
    intro h hr
    rw [gL] at hr
    have h1:=h t (by simp) (d+aM kd) hr.1
    have h2:=ih (fun x hx=>h x (by simp [hx])) hr.2
    rw [dB,dB,<-h1,<-h2]
    cases b_ fo fa (d+aM kd) t with
    |error e=>rfl
    |ok t'=>
     rw [bh,bh]
     obtain ⟨t'',e⟩:=DG (G:=G) t' (d+aM kd)
     rw [e,bh]
     cases dB fo fa d kd l with
     |error e=>rfl
     |ok l'=>
      grind [bh,dB]
  have hb: ∀ {b:Br Tm},(∀x∈b.kids,∀d,RowsT x->bE (b_ fo fa d x) (b_ (aO G) (aO G) d)=b_ (fi fo G) (fi fa G) d x)->pM b->bE (jH fo fa d kd b) (ck (aO G) (aO G) d kd)=jH (fi fo G) (fi fa G) d kd b:=by
   intro b h hr
   cases b with
   |mk f ks'=>
    rw [pM] at hr
    have h2:=hm h hr.2
    rw [jH,jH]
    show _=bE (bE (fa d f) fun m=> .ok (G d m)) _
    cases hf:fa d f with
    |error e=>rfl
    |ok f'=>
     rw [bh,bh,bh]
     have hg:=hG d f' (hfa d f f' hr.1 hf)
     by_cases h0:f'.length=0
     ·grind [bh,ck]
     ·rw [if_neg h0,if_neg (fun h=>h0 (hg.1 h)),<-h2]
      cases dB fo fa d kd ks' with
      |error e=>rfl
      |ok l'=>
       rw [bh,bh,bh,ck,jH]
       show bE (bE (.ok (G d f')) _) _=_
       rw [bh,if_neg (fun h=>h0 (hg.1 h))]
       obtain ⟨l'',e⟩:=UG (G:=G) d kd l'
       grind [bh,ck]
  have hs: ∀ {l:LB},(∀b∈l,∀x∈b.kids,∀d,RowsT x->bE (b_ fo fa d x) (b_ (aO G) (aO G) d)=b_ (fi fo G) (fi fa G) d x)->io l->bE (ck fo fa d kd l) (ck (aO G) (aO G) d kd)=ck (fi fo G) (fi fa G) d kd l:=by
   intro l
   induction l with
   |nil=>grind [ck,bh]
   |cons b l ih=>
    intro h hr
    rw [io] at hr
    have h1:=hb (h b (by simp)) hr.1
    have h2:=ih (fun b hb=>h b (by simp [hb])) hr.2
    rw [ck,ck,<-h1,<-h2]
    cases jH fo fa d kd b with
    |error e=>rfl
    |ok o=>
     rw [bh,bh]
     obtain ⟨o',e⟩:=amH (G:=G) d kd o
     rw [e,bh]
     cases ck fo fa d kd l with
     |error e=>rfl
     |ok l'=>
      grind [bh,amG]
  rw [b_,b_,<-hk (i:=0) ih1 hrk,<-hs ih2 hrs]
  have hrow:(if kd=14 then fi fa G d r else fi fo G d r)=bE (if kd=14 then fa d r else fo d r) fun m=> .ok (G d m):=by split<;>rfl
  rw [hrow]
  cases (if kd=14 then fa d r else fo d r) with
  |error e=>rfl
  |ok r'=>
   rw [bh,bh,bh]
   cases dq fo fa d kd 0 ks with
   |error e=>rfl
   |ok ks'=>
    rw [bh,bh]
    obtain ⟨ks'',ek⟩:=amE (G:=G) d kd ks' 0
    rw [ek,bh]
    cases ck fo fa d kd sys with
    |error e=>rfl
    |ok sys'=>
     grind [bh,b_,aO]
end
set_option maxRecDepth 20000
theorem Nx (kd:Int):(kd<0\/kd>28)\/(∃n:Nat,n<29/\kd=n):=by
 by_cases h:kd<0\/kd>28
 ·omega
 ·exact .inr ⟨kd.toNat,by omega,by omega⟩
theorem aka (kd:Int) (Y:Int->OS S):Bb k kd Y=Y (gS kd):=by
 simp only [Bb]
 rcases Nx kd with h|⟨n,hn,rfl⟩
 ·simp only [eM,beq_iff_eq]
  unfold gS
  rw [if_pos h]
  repeat rw [if_neg (by omega)]
 ·unfold gS
  rw [if_neg (by omega),gb]
  match n,hn with
  |0,_=>rfl
  |1,_=>rfl
  |2,_=>rfl
  |3,_=>rfl
  |4,_=>rfl
  |5,_=>rfl
  |6,_=>rfl
  |7,_=>rfl
  |8,_=>rfl
  |9,_=>rfl
  |10,_=>rfl
  |11,_=>rfl
  |12,_=>rfl
  |13,_=>rfl
  |14,_=>rfl
  |15,_=>rfl
  |16,_=>rfl
  |17,_=>rfl
  |18,_=>rfl
  |19,_=>rfl
  |20,_=>rfl
  |21,_=>rfl
  |22,_=>rfl
  |23,_=>rfl
  |24,_=>rfl
  |25,_=>rfl
  |26,_=>rfl
  |27,_=>rfl
  |28,_=>rfl
  |n+29,h=>omega
theorem TM (kd:Int) (Y:Int->OS S):rY k kd Y=Y (gS kd):=by
 simp only [rY,bS]
 unfold gS
 rcases Nx kd with h|⟨n,hn,rfl⟩
 ·grind
 ·rw [if_neg (by omega),if_neg (by omega),if_neg (by omega),Ah (by omega),wV,gb]
  simp_all [kidsT]
theorem uk (kd i:Int) (Y:Int×Int->OS S):ol k kd i Y=Y (fj kd i,dR kd i):=by
 simp only [ol,eM,beq_iff_eq]
 grind [fj,dR]
theorem IS (hk:Fu k) (kd i:Int) (Y:Int×Int->OS S):rX k kd i Y=Y (fj kd i,dR kd i):=by
 obtain ⟨q,rfl⟩: ∃q,k=q+1:=⟨k-1,by omega⟩
 simp only [rX,JP,G3,zJ,B4,E4,eM,beq_iff_eq]
 grind [fj,dR]
theorem Ti (kd:Int) (Y:Int->OS S):om k kd Y=Y (eB kd):=by
 grind [om,eM,eB]
theorem TQ (kd:Int) (Y:Int->OS S):r_ k kd Y=Y (eB kd):=by
 grind [r_,eM,eB]
theorem IT (kd:Int) (Y:Int->OS S):rZ k kd Y=Y (aM kd):=by
 grind [rZ,eM,aM]
theorem KS (s t:BA):(s==t)=decide (s=t):=by
 obtain ⟨a⟩:=s;obtain ⟨b⟩:=t
 show (a==b)=_
 grind
theorem HA (s:BA):(s==av)=decide (s.size=0):=by
 simp_all [KS]
theorem ur (s:BA):(s.size:Int)=(s.data.toList.length:Int):=by
 rfl
def mr (p:List UInt8) (r:List UInt8):Bool:=match p with
 |[]=>qJ r
 |_::_=>r.all fun d=>nr d||sh d
theorem Pz (p:List UInt8) (x:UInt8) (r:List UInt8):mr p (x::r)=((nr x||(decide (p≠[])&&sh x))&&mr (p++[x]) r):=by
 cases p<;>grind [mr,qJ]
theorem PA {p:List UInt8}:mr p []=decide (p.length≠0):=by
 cases p with
 |nil=>rfl
 |cons c l=>rfl
theorem age (hk:Fu k) (Y:Bool->OS S) {s:BA} (hs:s.size<2147483648):
  ∀ (r p:List UInt8) (m:Nat),s.data.toList=p++r->r.length<m->qC k Y s m (p.length:Int)=Y (mr p r):=by
 obtain ⟨q,rfl⟩: ∃q,k=q+1:=⟨k-1,by omega⟩
 have hs':s.data.toList.length<2147483648:=by simp_all
 intro r
 induction r with
 |nil=>
  grind [aq,qC,vB,ur,al,HA,PA]
 |cons x r ih=>
  intro p m h hm
  obtain ⟨m,rfl,hm'⟩:=aq hm
  obtain ⟨e1,e2,e3,e4⟩:=aK h (by omega)
  have hi:=ih (p++[x]) m e4 hm'
  rw [Pz]
  simp only [qC,vB,ur,e1,ao,e2,aI,bS,B7,E7,e3,hi]
  have hl: ∀b:Bool,b=nr x->ac (!b) (ac (((p.length:Nat):Int)==0) (Y false) (if ((x.toNat:Nat):Int)<48 then Y false else if ((x.toNat:Nat):Int)>57 then Y false else Y (mr (p++[x]) r))) (Y (mr (p++[x]) r))=Y ((nr x||(decide (p≠[])&&sh x))&&mr (p++[x]) r):=by
   grind [eM,List.length_pos_iff,sh]
  grind [nr]
theorem akM (hk:Fu k) {s:BA} (hs:s.size<2147483648) (Y:Bool->OS S):Bd k s Y=Y (qJ s.data.toList):=by
 simp only [Bd,Kj]
 have:=age hk Y hs s.data.toList [] k rfl (by grind [ur])
 exact this
theorem agR (hk:Fu k) (Y:Bool->OS S) {s:BA} (hs:s.size<2147483648):
  ∀ (r p:List UInt8) (m:Nat),s.data.toList=p++r->r.length<m->qy k Y s m (p.length:Int)=Y (mr p r):=by
 obtain ⟨q,rfl⟩: ∃q,k=q+1:=⟨k-1,by omega⟩
 have hs':s.data.toList.length<2147483648:=by simp_all
 intro r
 induction r with
 |nil=>
  intro p m h hm
  obtain ⟨m,rfl,hm'⟩:=aq hm
  simp only [qy,vl,ur,d2 h,al,PA]
  rw [h,eU]
  congr 1
  grind
 |cons x r ih=>
  intro p m h hm
  obtain ⟨m,rfl,hm'⟩:=aq hm
  obtain ⟨e1,e2,e3,e4⟩:=aK h (by omega)
  have hi:=ih (p++[x]) m e4 hm'
  rw [Pz]
  have hb: ∀n:Nat,(((n:Nat):Int)==95)=decide (n=95):=fun n=>by
   grind
  simp only [qy,vl,ur,e1,ao,e2,aI,bS,B5,E5,e3,hi,hb]
  have hlt:nr x=(decide (97<=x.toNat)&&decide (x.toNat<=122)||decide (65<=x.toNat)&&decide (x.toNat<=90)||decide (x.toNat=95)):=rfl
  have hdt:sh x=(decide (48<=x.toNat)&&decide (x.toNat<=57)):=rfl
  generalize mr (p++[x]) r=z
  have hj:(ac (!decide (x.toNat=95)) (if ((x.toNat:Nat):Int)<97 then if ((x.toNat:Nat):Int)<65 then Y false else if ((x.toNat:Nat):Int)>90 then Y false else Y z
    else if ((x.toNat:Nat):Int)>122 then if ((x.toNat:Nat):Int)<65 then Y false else if ((x.toNat:Nat):Int)>90 then Y false else Y z else Y z) (Y z))=Y (nr x&&z):=by
   grind [al,decide_eq_false,ao]
  grind [List.length_pos_iff]
theorem alf (hk:Fu k) {s:BA} (hs:s.size<2147483648) (Y:Bool->OS S):A0 k s Y=Y (qJ s.data.toList):=by
 simp only [A0,JW]
 have:=agR hk Y hs s.data.toList [] k rfl (by grind [ur])
 exact this
theorem tJ (n:Nat):(((n:Nat):Int)==0)=decide (n=0):=by grind
theorem agj (hk:Fu k) (Y:Bool->OS S) {t:Tm} {dims:Int} (hd:0<=dims) (hd':dims<9223372036854775808) (hs: ∀b∈t.sys,aw b.face/\b.face.length<1073741824) (hlen:t.sys.length<1073741824):
  ∀ (r p:LB) (m:Nat),t.sys=p++r->r.length<m->nq k Y t dims m (p.length:Int)=Y (r.all (dS t.kind dims)&&decide (t.r.length=0)):=by
 intro r
 induction r with
 |nil=>
  grind [aq,nq,Ab,al,tJ]
 |cons x r ih=>
  intro p m h hm
  obtain ⟨m,rfl,hm'⟩:=aq hm
  obtain ⟨e1,e2,e3,e4⟩:=aK h (by omega)
  have hx:=hs x (by grind)
  have hb:((x.kids.length:Int)==eB t.kind)=decide ((x.kids.length:Int)=eB t.kind):=by rfl
  simp only [nq,Ab,e1,ao,e2,aI,ap hk,Ti,IM hk hx.1 (show x.face.length<2147483648 by omega),TY hk hx.1 (show x.face.length<4294967296 by omega) hd hd',e3,ih (p++[x]) m e4 hm',List.all_cons,hb]
  grind [dS,decide,Int,eQ,ao,al]
theorem alq {S:Type} (b c:Bool) (Y:Bool->OS S):ac b (Y c) (Y false)=Y (b&&c):=by
 cases b<;>rfl
def qP (vars dims:Int) (t:Tm):Bool:=
 if t.kind=1 then decide (t.r.length=0)&&(decide (0<=t.n)&&decide (vars<0\/t.n<vars))
   else if t.kind=2 then decide (t.r.length=0)&&qJ t.name.data.toList
   else if t.kind=13\/t.kind=21\/t.kind=26 then dj t.r&&eP t.r dims
   else if t.kind=14 then eQ t.r&&eP t.r dims
   else t.sys.all (dS t.kind dims)&&decide (t.r.length=0)
theorem PR (vars dims:Int) (t:Tm):fE vars dims t=((decide (gS t.kind=t.kids.length)&&(decide (t.kind=1\/t.n=0)&&(decide (t.kind=2\/t.name.size=0)&&decide (eB t.kind=0->t.sys.length=0))))&&qP vars dims t):=by
 cases t;rfl
def ZW (t:Tm):Prop:=aQ t.kind/\aQ t.n/\t.name.size<1073741824/\aw t.r/\t.r.length<1073741824/\t.kids.length<1073741824/\t.sys.length<1073741824
theorem OkT.no {t:Tm} (h:OkT t):ZW t:=by cases t;exact h.node
theorem OkT.ki {t x:Tm} (h:OkT t) (hx:x∈t.kids):OkT x:=by cases t;exact h.kid hx
theorem OkT.bi {t:Tm} {b:Br Tm} (h:OkT t) (hb:b∈t.sys):(aw b.face/\b.face.length<1073741824/\b.kids.length<1073741824)/\ ∀t∈b.kids,OkT t:=by cases t;exact h.br hb
theorem akS (hk:Fu k) {t:Tm} (ht:OkT t) {vars dims:Int} (hd:0<=dims) (hd':dims<9223372036854775808) (Y:Bool->OS S):B8 k Y t vars dims k=Y (qP vars dims t):=by
 obtain ⟨o1,o2,o3,o4,o5,o6,o7⟩:=ht.no
 have hb:=fun b hb=>(ht.bi (b:=b) hb).1
 obtain ⟨q,hq⟩: ∃q,k=q+1:=⟨k-1,by omega⟩
 have: ∀j,j=q+1->B8 k Y t vars dims j=vC k Y t vars dims (fun v109=>nq k Y t dims k v109):=by rintro j rfl;rfl
 rw [this k hq]
 have hl:=agj hk Y hd hd' (fun b h=>⟨(hb b h).1,(hb b h).2.1⟩) o7 t.sys [] k rfl (by omega)
 have hl:nq k Y t dims k 0=_:=hl
 simp only [vC,ap hk,akM hk (show t.name.size<2147483648 by omega),um hk o4 (show t.r.length<2147483648 by omega),IM hk o4 (show t.r.length<2147483648 by omega),TY hk o4 (show t.r.length<4294967296 by omega) hd hd',hl,tJ,alq]
 grind [eM,qP]
theorem akR (hk:Fu k) {t:Tm} (ht:OkT t) {vars dims:Int} (hd:0<=dims) (hd':dims<9223372036854775808) (Y:Bool->OS S):wB k t vars dims Y=Y (fE vars dims t):=by
 have hq:(gS t.kind==(t.kids.length:Int))=decide (gS t.kind=t.kids.length):=by rfl
 have hp:(eB t.kind==0)=decide (eB t.kind=0):=dx _
 simp only [wB,Kk,ap hk,aka,Ti,akS hk ht hd hd',HA,hq,hp,dx,PR]
 have hsy:ac (decide (eB t.kind=0)) (ac (decide (((t.sys.length:Nat):Int)>0)) (Y false) (Y (qP vars dims t))) (Y (qP vars dims t))=Y (decide (eB t.kind=0->t.sys.length=0)&&qP vars dims t):=by
  rw [bS,bS]
  by_cases h1:eB t.kind=0
  ·rw [if_pos h1]
   by_cases h2:t.sys.length=0<;>grind
  grind
 grind [ao,al,decide_eq_false]
abbrev Fd (k n:Nat):Prop:=4294967296+n<=k
theorem Fd.fu {n:Nat} (h:Fd k n):Fu k:=by omega
theorem Fd.pos {n:Nat} (h:Fd k n): ∃q,k=q+1/\ ∀j,j+1<=n->Fd q j:=⟨k-1,by omega,fun j hj=>by omega⟩
theorem Fd.pos' {n:Nat} (h:Fd k n) (hn:1<=n): ∃q,k=q+1/\Fu q/\ ∀j,j+1<=n->Fd q j:=⟨k-1,by omega,by omega,fun j hj=>by omega⟩
theorem fq (t:Tm):1<=ax t:=by cases t;rw [ax];omega
theorem wF (t:Tm):ax t=max (bu t.kids) (bU t.sys)+1:=by cases t;rfl
theorem I1 (t:Tm):aL t=1+aN t.kids+aS t.sys:=by cases t;rfl
theorem eN {t x:Tm} (h:x∈t.kids):ax x+1<=ax t:=by rw [wF t];have:=FV h;omega
theorem eX {t:Tm} {b:Br Tm} {x:Tm} (hb:b∈t.sys) (h:x∈b.kids):ax x+1<=ax t:=by rw [wF t];have:=FV h;have:=LQ hb;omega
theorem il {Q:Tm->Prop} (h: ∀t,(∀x∈t.kids,Q x)->(∀b∈t.sys,∀x∈b.kids,Q x)->Q t) (t:Tm):Q t:=mB (fun kd n nm r ks sys h1 h2=>h (.mk kd n nm r ks sys) h1 h2) t
theorem dcg {p q:Prop} [Decidable p] [Decidable q] (h:p↔q):decide p=decide q:=decide_eq_decide.2 h
theorem IY {α:Type} (b c:Bool) (x y:α):ac (!b) y (if c then x else y)=if b&&c then x else y:=by cases b<;>cases c<;>rfl
theorem nN {S:Type} (b c:Bool) (Y:Bool->OS S):ac (!b) (Y false) (Y c)=Y (b&&c):=by cases b<;>rfl
theorem aeu {S:Type} (b c:Bool) (Y:Bool->OS S):(if b=true then Y c else Y false)=Y (b&&c):=by grind
theorem dz {n:Int} (h1: -9223372036854775808<=n) (h2:n<9223372036854775808):ag .i64 n=n:=fY h1 h2
section
variable {hd:Tm->Int->(Bool->OS S)->OS S} {c0:Int} {t:Tm} {Q:Tm->Bool}
theorem afS (hk:Fu k) (Y:Bool->OS S) (rec1:Int->Int->OS S) (hc: -9223372036854775807<=c0) (hc':c0<9223372036854775808) {v more:Int} {x:Br Tm} (hQ: ∀y∈x.kids,∀g,hd y (c0-1) g=g (Q y)) (hl:x.kids.length<1073741824):
  ∀ (r p:LT) (m:Nat),x.kids=p++r->r.length<m->qB hd k Y rec1 c0 t v x more m (p.length:Int)=if r.all Q then rec1 (ag .i64 (v+1)) more else Y false:=by
 intro r
 induction r with
 |nil=>
  grind [aq,qB,Aa,al]
 |cons y r ih=>
  intro p m h hm
  obtain ⟨m,rfl,hm'⟩:=aq hm
  obtain ⟨e1,e2,e3,e4⟩:=aK h (by omega)
  have hy:=hQ y (by grind)
  simp only [qB,Aa,e1,ao,e2,aI,ap hk,wC,aJ,dz (show-9223372036854775808<=c0-1 by omega) (by omega),hy,e3,ih (p++[y]) m e4 hm',IY]
  rfl
theorem afR (hk:Fu k) (Y:Bool->OS S) (hc: -9223372036854775807<=c0) (hc':c0<9223372036854775808) {more:Int} (hQ: ∀b∈t.sys,∀y∈b.kids,∀g,hd y (c0-1) g=g (Q y)) (hl:t.sys.length<1073741824) (hl': ∀b∈t.sys,b.kids.length<1073741824):
  ∀ (r p:LB) (m:Nat),t.sys=p++r->r.length<m->mo hd k Y c0 t m (p.length:Int) more=Y (r.all fun b=>b.kids.all Q):=by
 intro r
 induction r with
 |nil=>
  grind [aq,mo,vA,al]
 |cons x r ih=>
  intro p m h hm
  obtain ⟨m,rfl,hm'⟩:=aq hm
  obtain ⟨e1,e2,e3,e4⟩:=aK h (by omega)
  have hx:x∈t.sys:=by grind
  have hlx:=hl' x hx
  have:=afS (t:=t) hk Y (mo hd k Y c0 t m) (v:=(p.length:Int)) (more:=more) hc hc' (hQ x hx) hlx x.kids [] k rfl (by omega)
  simp only [mo,vA,e1,ao,e2,aI,List.all_cons]
  refine aj this ?_
  rw [e3,ih (p++[x]) m e4 hm']
  cases x.kids.all Q<;>rfl
theorem afQ (hk:Fu k) (Y:Bool->OS S) (hc: -9223372036854775807<=c0) (hc':c0<9223372036854775808) (hQ: ∀y∈t.kids,∀g,hd y (c0-1) g=g (Q y)) (hQ': ∀b∈t.sys,∀y∈b.kids,∀g,hd y (c0-1) g=g (Q y)) (ht:OkT t):
  ∀ (r p:LT) (m:Nat),t.kids=p++r->r.length<m->tF hd k Y c0 t m (p.length:Int)=Y (r.all Q&&t.sys.all fun b=>b.kids.all Q):=by
 obtain ⟨o1,o2,o3,o4,o5,o6,o7⟩:=ht.no
 intro r
 induction r with
 |nil=>
  intro p m h hm
  obtain ⟨m,rfl,hm'⟩:=aq hm
  have hs: ∀more:Int,mo hd k Y c0 t k 0 more=_:=fun more=>afR hk Y hc hc' (more:=more) hQ' o7 (fun b hb=>(ht.bi hb).1.2.2) t.sys [] k rfl (by omega)
  simp only [tF,vz,d2 h,al,hs]
  cases (t.kind==15)<;>rfl
 |cons y r ih=>
  intro p m h hm
  obtain ⟨m,rfl,hm'⟩:=aq hm
  obtain ⟨e1,e2,e3,e4⟩:=aK h (by omega)
  have hy:=hQ y (by grind)
  simp only [tF,vz,e1,ao,e2,aI,ap hk,uk,wC,aJ,dz (show-9223372036854775808<=c0-1 by omega) (by omega),hy,e3,ih (p++[y]) m e4 hm',nN,List.all_cons,Bool.and_assoc]
end
theorem LO {n:Int} (hn:0<=n): ∀ {l:LT},(l.all fun x=>decide ((ax x:Int)<=n))=decide ((bu l:Int)<=n):=by
 intro l
 induction l<;>grind [bu]
theorem aaW {n:Int} (hn:0<=n): ∀ {l:LB},(l.all fun b=>b.kids.all fun x=>decide ((ax x:Int)<=n))=decide ((bU l:Int)<=n):=by
 intro l
 induction l with
 |nil=>rw [bU];simp [hn]
 |cons b l ih=>rw [List.all_cons,ih,LO hn,bU,wE,jK];grind
theorem ali (t:Tm):OkT t-> ∀ {k:Nat} {left:Int} (Y:Bool->OS S),Fd k (ax t)-> -4611686018427387904<=left->left<4611686018427387904->me k t left Y=Y (decide ((ax t:Int)<=left)):=by
 induction t using il with
 |h t ih1 ih2=>
  intro ht k left Y hk h1 h2
  obtain ⟨q,rfl,hq,hf⟩:=hk.pos' (fq t)
  simp only [me,Uk,bS,aJ,ap hq]
  by_cases h0:left>0
  ·rw [if_pos h0]
   have hQ: ∀y∈t.kids,∀g:Bool->OS S,me q y (left-1) g=g (decide ((ax y:Int)<=left-1)):=fun y hy g=>ih1 y hy (ht.ki hy) g (hf _ (eN hy)) (by omega) (by omega)
   have hQ': ∀b∈t.sys,∀y∈b.kids,∀g:Bool->OS S,me q y (left-1) g=g (decide ((ax y:Int)<=left-1)):=fun b hb y hy g=>ih2 b hb y hy ((ht.bi hb).2 y hy) g (hf _ (eX hb hy)) (by omega) (by omega)
   have:=afQ (Q:=fun y=>decide ((ax y:Int)<=left-1)) hq Y (by omega) (by omega) hQ hQ' ht t.kids [] q rfl (by have:=ht.no.2.2.2.2.2.1;omega)
   simp only [FU,Ki]
   refine aj this ?_
   rw [LO (by omega),aaW (by omega),wF]
   congr 1
   rw [jK];simp;omega
  grind [fq]
section
variable {hd:Tm->Int->(Bool×Int->OS S)->OS S} {t:Tm}
def uC (hd:Tm->Int->(Bool×Int->OS S)->OS S) (k:Nat) (y:Tm):Prop:= ∀ (c:Int) (g:Bool×Int->OS S),0<=c->c<4611686018427387904->
 ∃v,sf hd k y c g=g (decide ((aL y:Int)<=c),v)/\((aL y:Int)<=c->v=c-aL y)
theorem afP (hk:Fu k) (Y:Bool×Int->OS S) (rec1:Int->Int->Int->OS S) {v more:Int} {x:Br Tm} (hQ: ∀y∈x.kids,uC hd k y) (hl:x.kids.length<1073741824):
  ∀ (r p:LT) (m:Nat) (c:Int),0<=c->c<4611686018427387904->x.kids=p++r->r.length<m->
  ((aN r:Int)<=c->np hd k Y rec1 t v x more m c (p.length:Int)=rec1 (c-aN r) (ag .i64 (v+1)) more)/\(¬ (aN r:Int)<=c-> ∃w,np hd k Y rec1 t v x more m c (p.length:Int)=Y (false,w)):=by
 intro r
 induction r with
 |nil=>
  grind [aq,np,z8,al,aN]
 |cons y r ih=>
  intro p m c h0 h1 h hm
  obtain ⟨m,rfl,hm'⟩:=aq hm
  obtain ⟨e1,e2,e3,e4⟩:=aK h (by omega)
  have hy:=hQ y (by grind)
  obtain ⟨w,hw,hw'⟩:=hy c (fun r1=>(fun r6:Bool×Int=>ac (!r6.1) (Y (false,r6.2)) (np hd k Y rec1 t v x more m r6.2 (((p++[y]).length:Nat):Int))) (r1.1,r1.2)) h0 h1
  simp only [np,z8,e1,ao,e2,aI,ap hk,wD,aJ,e3,aN]
  rw [hw]
  by_cases hs:(aL y:Int)<=c
  ·grind [al]
  grind [ao]
theorem afO (hk:Fu k) (Y:Bool×Int->OS S) {more:Int} (hQ: ∀b∈t.sys,∀y∈b.kids,uC hd k y) (hl:t.sys.length<1073741824) (hl': ∀b∈t.sys,b.kids.length<1073741824):
  ∀ (r p:LB) (m:Nat) (c:Int),0<=c->c<4611686018427387904->t.sys=p++r->r.length<m->
  ((aS r:Int)<=c->lv hd k Y t m c (p.length:Int) more=Y (true,c-aS r))/\(¬ (aS r:Int)<=c-> ∃w,lv hd k Y t m c (p.length:Int) more=Y (false,w)):=by
 intro r
 induction r with
 |nil=>
  grind [aq,lv,vu,al,aS]
 |cons x r ih=>
  intro p m c h0 h1 h hm
  obtain ⟨m,rfl,hm'⟩:=aq hm
  obtain ⟨e1,e2,e3,e4⟩:=aK h (by omega)
  have hx:x∈t.sys:=by grind
  have hlx:=hl' x hx
  have:=afP (t:=t) hk Y (lv hd k Y t m) (v:=(p.length:Int)) (more:=more) (hQ x hx) hlx x.kids [] k c h0 h1 rfl (by omega)
  simp only [lv,vu,e1,ao,e2,aI,aS,uo]
  obtain ⟨t1,t2⟩:=this
  rw [show (((([]:LT).length:Nat):Int))=0 from rfl] at t1 t2
  by_cases hs:(aN x.kids:Int)<=c
  ·obtain ⟨i1,i2⟩:=ih (p++[x]) m (c-aN x.kids) (by omega) (by omega) e4 hm'
   rw [t1 hs,e3]
   refine ⟨fun h=> ?_,fun h=>i2 (by omega)⟩
   rw [i1 (by omega),show c-(aN x.kids:Int)-(aS r:Int)=c-((aN x.kids+aS r:Nat):Int) by omega]
  ·exact ⟨fun h=>absurd (by omega) hs,fun _=>t2 hs⟩
theorem afN (hk:Fu k) (Y:Bool×Int->OS S) (hQ: ∀y∈t.kids,uC hd k y) (hQ': ∀b∈t.sys,∀y∈b.kids,uC hd k y) (ht:OkT t):
  ∀ (r p:LT) (m:Nat) (c:Int),0<=c->c<4611686018427387904->t.kids=p++r->r.length<m->
  ∃w,qz hd k Y t m c (p.length:Int)=Y (decide (((aN r+aS t.sys:Nat):Int)<=c),w)/\(((aN r+aS t.sys:Nat):Int)<=c->w=c-((aN r+aS t.sys:Nat):Int)):=by
 obtain ⟨o1,o2,o3,o4,o5,o6,o7⟩:=ht.no
 intro r
 induction r with
 |nil=>
  intro p m c h0 h1 h hm
  obtain ⟨m,rfl,hm'⟩:=aq hm
  have hs: ∀more:Int,_:=fun more=>afO hk Y (more:=more) hQ' o7 (fun b hb=>(ht.bi hb).1.2.2) t.sys [] k c h0 h1 rfl (by omega)
  have key: ∀more:Int,∃w,lv hd k Y t k c 0 more=Y (decide (((aS t.sys:Nat):Int)<=c),w)/\(((aS t.sys:Nat):Int)<=c->w=c-((aS t.sys:Nat):Int)):=fun more=>by
   by_cases hc:(aS t.sys:Int)<=c
   ·simp_all
   ·obtain ⟨w,e⟩:=(hs more).2 hc
    grind
  have hz:aN []+aS t.sys=aS t.sys:=by rw [aN,fh]
  rw [hz]
  simp only [qz,vt,d2 h,al]
  cases (t.kind==15) with
  |true=>exact key 1
  |false=>exact key 0
 |cons y r ih=>
  intro p m c h0 h1 h hm
  obtain ⟨m,rfl,hm'⟩:=aq hm
  obtain ⟨e1,e2,e3,e4⟩:=aK h (by omega)
  have hy:=hQ y (by grind)
  obtain ⟨w,hw,hw'⟩:=hy c (fun r1=>(fun r3:Bool×Int=>ac (!r3.1) (Y (false,r3.2)) (qz hd k Y t m r3.2 (((p++[y]).length:Nat):Int))) (r1.1,r1.2)) h0 h1
  have hz:aN (y::r)+aS t.sys=aL y+aN r+aS t.sys:=by rw [aN]
  rw [hz]
  simp only [qz,vt,e1,ao,e2,aI,ap hk,uk,wD,aJ,e3]
  rw [hw]
  by_cases hs:(aL y:Int)<=c
  ·have:=hw' hs
   subst this
   obtain ⟨u,i1,i2⟩:=ih (p++[y]) m (c-aL y) (by omega) (by omega) e4 hm'
   grind [al]
  grind [ao,decide_eq_false]
end
theorem aks (t:Tm):OkT t-> ∀ {k:Nat} (c:Int) (Y:Bool×Int->OS S),Fd k (ax t)->0<=c->c<4611686018427387904->
  ∃w,jq k t c Y=Y (decide ((aL t:Int)-1<=c),w)/\((aL t:Int)-1<=c->w=c-((aL t:Int)-1)):=by
 induction t using il with
 |h t ih1 ih2=>
  intro ht k c Y hk h1 h2
  obtain ⟨q,rfl,hq,hf⟩:=hk.pos' (fq t)
  have cnt: ∀y,(∀ {k:Nat} (c:Int) (Y:Bool×Int->OS S),Fd k (ax y)->0<=c->c<4611686018427387904-> ∃w,jq k y c Y=Y (decide ((aL y:Int)-1<=c),w)/\((aL y:Int)-1<=c->w=c-((aL y:Int)-1)))->
    Fd q (ax y)->uC (S:=S) (jq q) q y:=by
   intro y hy hfy c g h0 h1
   simp only [sf,aJ,dz (show-9223372036854775808<=c-1 by omega) (by omega),bS]
   have:=uq y
   by_cases hc:c-1>=0
   ·rw [if_pos hc]
    obtain ⟨w,e,e'⟩:=hy (c-1) (fun r1=>g (r1.1,r1.2)) hfy (by omega) (by omega)
    grind
   ·rw [if_neg hc]
    exact ⟨c-1,by grind,fun h=>by omega⟩
  obtain ⟨w,e,e'⟩:=afN hq Y (fun y hy=>cnt y (fun c Y=>ih1 y hy (ht.ki hy) c Y) (hf _ (eN hy))) (fun b hb y hy=>cnt y (fun c Y=>ih2 b hb y hy ((ht.bi hb).2 y hy) c Y) (hf _ (eX hb hy))) ht t.kids [] q c h1 h2 rfl (by have:=ht.no.2.2.2.2.2.1;omega)
  grind [jq,Kg,I1]
theorem alk {t:Tm} (ht:OkT t) (hk:Fd k (ax t)) {most:Int} (h0:0<most) (h1:most<4611686018427387904) (Y:Bool->OS S):Bf k t most Y=Y (decide ((aL t:Int)<=most)):=by
 simp only [Bf,ap hk.fu,sf,aJ,dz (show-9223372036854775808<=most-1 by omega) (by omega),bS]
 rw [if_pos (by omega)]
 obtain ⟨w,e,_⟩:=aks t ht (most-1) (fun r1=>Y (r1.1,r1.2).1) hk (by omega) (by omega)
 grind
def VW (vars dims:Int) (n:Nat):Prop:= -9223372036854775808<=vars/\vars<9223372036854775808/\0<=dims/\dims+n<4611686018427387904
section
variable {hd:Tm->Int->Int->Bool->(Bool->OS S)->OS S} {vars dims:Int} {bd:Bool} {t:Tm}
theorem Tn (hv:VW vars dims 1) {v d:Int} (h1:0<=v/\v<=1) (h2:0<=d/\d<=1) (y:Tm) (g:Bool->OS S):wz hd k y v d vars dims bd g=hd y (ag .i64 (eH vars v)) (dims+d) bd g:=by
 obtain ⟨v1,v2,v3,v4⟩:=hv
 simp only [wz,aJ,bS,dz (show-9223372036854775808<=dims+d by omega) (by omega)]
 unfold eH
 split
 ·rw [Int.add_zero]
 ·rfl
theorem afM (hk:Fu k) (Y:Bool->OS S) (rec1:Int->Int->OS S) (hv:VW vars dims 1) {v more:Int} {x:Br Tm} (hm:more=aM t.kind) (hQ: ∀y∈x.kids,∀g,hd y vars (dims+more) bd g=g (cm bd vars (dims+more) y)) (hl:x.kids.length<1073741824):
  ∀ (r p:LT) (m:Nat),x.kids=p++r->r.length<m->oZ hd k Y rec1 vars dims bd t v x more m (p.length:Int)=if ep bd vars dims t.kind r then rec1 (ag .i64 (v+1)) more else Y false:=by
 subst hm
 intro r
 induction r with
 |nil=>
  intro p m h hm
  obtain ⟨m,rfl,hm'⟩:=aq hm
  simp only [oZ,z_,d2 h,al];rfl
 |cons y r ih=>
  intro p m h hm
  obtain ⟨m,rfl,hm'⟩:=aq hm
  obtain ⟨e1,e2,e3,e4⟩:=aK h (by omega)
  have hy:=hQ y (by grind)
  have h0:ag .i64 (eH vars 0)=vars:=by rw [show eH vars 0=vars by grind [eH]];exact dz hv.1 hv.2.1
  simp only [oZ,z_,e1,ao,e2,aI,ap hk,aJ,Tn hv (show (0:Int)<=0/\(0:Int)<=1 by omega) (iJ t.kind),h0,hy,e3,ih (p++[y]) m e4 hm',IY]
  rw [ep]
theorem afL (hk:Fu k) (Y:Bool->OS S) (hv:VW vars dims 1) {more:Int} (hm:more=aM t.kind) (hQ: ∀b∈t.sys,∀y∈b.kids,∀g,hd y vars (dims+more) bd g=g (cm bd vars (dims+more) y)) (hl:t.sys.length<1073741824) (hl': ∀b∈t.sys,b.kids.length<1073741824):
  ∀ (r p:LB) (m:Nat),t.sys=p++r->r.length<m->lw hd k Y vars dims bd t m (p.length:Int) more=Y (er bd vars dims t.kind r):=by
 intro r
 induction r with
 |nil=>
  grind [aq,lw,vw,al,er]
 |cons x r ih=>
  intro p m h hml
  obtain ⟨m,rfl,hm'⟩:=aq hml
  obtain ⟨e1,e2,e3,e4⟩:=aK h (by omega)
  have hx:x∈t.sys:=by grind
  have hlx:=hl' x hx
  have:=afM (t:=t) (bd:=bd) hk Y (lw hd k Y vars dims bd t m) hv (v:=(p.length:Int)) hm (hQ x hx) hlx x.kids [] k rfl (by omega)
  have this:oZ hd k Y (lw hd k Y vars dims bd t m) vars dims bd t (p.length:Int) x more k 0=_:=this
  simp only [lw,vw,e1,ao,e2,aI,this,e3,ih (p++[x]) m e4 hm']
  have ea:er bd vars dims t.kind (x::r)=(ep bd vars dims t.kind x.kids&&er bd vars dims t.kind r):=by cases x;rfl
  grind
theorem afK (hk:Fu k) (Y:Bool->OS S) (hv:VW vars dims 1) (hQ: ∀y∈t.kids,∀v d,0<=v/\v<=1->0<=d/\d<=1-> ∀g,hd y (ag .i64 (eH vars v)) (dims+d) bd g=g (cm bd (eH vars v) (dims+d) y)) (hQ': ∀b∈t.sys,∀y∈b.kids,∀g,hd y vars (dims+aM t.kind) bd g=g (cm bd vars (dims+aM t.kind) y)) (ht:OkT t):
  ∀ (r p:LT) (m:Nat),t.kids=p++r->r.length<m->qA hd k Y vars dims bd t m (p.length:Int)=Y (dL bd vars dims t.kind p.length r&&er bd vars dims t.kind t.sys):=by
 obtain ⟨o1,o2,o3,o4,o5,o6,o7⟩:=ht.no
 intro r
 induction r with
 |nil=>
  intro p m h hm
  obtain ⟨m,rfl,hm'⟩:=aq hm
  have hs:lw hd k Y vars dims bd t k 0 (aM t.kind)=_:=afL hk Y hv rfl hQ' o7 (fun b hb=>(ht.bi hb).1.2.2) t.sys [] k rfl (by omega)
  grind [qA,vv,dL,aM,eM]
 |cons y r ih=>
  intro p m h hm
  obtain ⟨m,rfl,hm'⟩:=aq hm
  obtain ⟨e1,e2,e3,e4⟩:=aK h (by omega)
  have b1:=vE t.kind p.length
  have b2:=mP t.kind p.length
  have hy:=hQ y (by grind) (fj t.kind p.length) (dR t.kind p.length) b1 b2
  simp only [qA,vv,e1,ao,e2,aI,ap hk,uk,aJ,Tn hv b1 b2,hy,e3,ih (p++[y]) m e4 hm',nN]
  grind [dL]
end
theorem yM (bd:Bool) (vars dims:Int) (t:Tm):cm bd vars dims t=(!(bd&&decide (dims>24))&&(fE vars dims t&&(dL bd vars dims t.kind 0 t.kids&&er bd vars dims t.kind t.sys))):=by cases t;rfl
theorem UC {vars v:Int} (h:0<=v/\v<=1):vars<=eH vars v/\eH vars v<=vars+1:=by grind [eH]
theorem Z9 {bd:Bool} (t:Tm):OkT t-> ∀ {V W D:Int},W<0->9223372036854775808<=V->cm bd W D t=cm bd V D t:=by
 induction t using mB with
 |h kd n nm r ks sys ih1 ih2=>
  intro ht V W D hW hV
  have ho:=ht
  rw [OkT] at ht
  obtain ⟨o1,o2,o3,o4,o5,o6,o7⟩:=ht.1
  have hk: ∀ {l:LT} {i:Nat},(∀x∈l,OkT x-> ∀ {V W D:Int},W<0->9223372036854775808<=V->cm bd W D x=cm bd V D x)->cR l->dL bd W D kd i l=dL bd V D kd i l:=by
   intro l
   induction l with
   |nil=>intro i _ _;rw [dL,dL]
   |cons t l ih=>
    intro i h hl
    rw [cR] at hl
    have hb:=vE kd i
    rw [dL,dL,ih (fun x hx=>h x (by simp [hx])) hl.2,h t (by simp) hl.1 (W:=eH W (fj kd i)) (V:=eH V (fj kd i)) (by unfold eH;split<;>omega) (by unfold eH;split<;>omega)]
  have hm: ∀ {l:LT},(∀x∈l,OkT x-> ∀ {V W D:Int},W<0->9223372036854775808<=V->cm bd W D x=cm bd V D x)->cR l->ep bd W D kd l=ep bd V D kd l:=by
   intro l
   induction l with
   |nil=>intro _ _;rw [ep,ep]
   |cons t l ih=>
    intro h hl
    rw [cR] at hl
    rw [ep,ep,ih (fun x hx=>h x (by simp [hx])) hl.2,h t (by simp) hl.1 hW hV]
  have hs: ∀ {l:LB},(∀b∈l,∀x∈b.kids,OkT x-> ∀ {V W D:Int},W<0->9223372036854775808<=V->cm bd W D x=cm bd V D x)->cG l->er bd W D kd l=er bd V D kd l:=by
   intro l
   induction l with
   |nil=>intro _ _;rw [er,er]
   |cons b l ih=>
    intro h hl
    obtain ⟨f,ks'⟩:=b
    rw [cG,kY] at hl
    rw [er,er,nU,nU,ih (fun b hb=>h b (by simp [hb])) hl.2,hm (l:=ks') (h ⟨f,ks'⟩ (by simp)) hl.1.2]
  have hw:fE W D (.mk kd n nm r ks sys)=fE V D (.mk kd n nm r ks sys):=by
   unfold fE
   have:decide (W<0\/n<W)=decide (V<0\/n<V):=by
    have hn:n<9223372036854775808:=by unfold aQ at o2;omega
    rw [decide_eq_true (.inl hW),decide_eq_true (.inr (by omega))]
   dsimp only
   rw [this]
  rw [cm,cm,hw,hk ih1 ht.2.1,hs ih2 ht.2.2]
theorem akm (t:Tm):OkT t-> ∀ {k:Nat} {vars dims:Int} {bd:Bool} (Y:Bool->OS S),Fd k (ax t)->VW vars dims (ax t)->kG k t vars dims bd Y=Y (cm bd vars dims t):=by
 induction t using il with
 |h t ih1 ih2=>
  intro ht k vars dims bd Y hk hv
  obtain ⟨q,rfl,hq,hf⟩:=hk.pos' (fq t)
  have hp:=fq t
  have hv':=hv
  unfold VW at hv'
  have hv1:VW vars dims 1:=by unfold VW;omega
  have hm:=iJ t.kind
  have hQ: ∀y∈t.kids,∀v d,0<=v/\v<=1->0<=d/\d<=1-> ∀g:Bool->OS S,kG q y (ag .i64 (eH vars v)) (dims+d) bd g=g (cm bd (eH vars v) (dims+d) y):=fun y hy v d h1 h2 g=>by
   have hd:=eN hy
   have hvb:=UC (vars:=vars) h1
   by_cases hlt:eH vars v<9223372036854775808
   ·rw [dz (by omega) hlt]
    exact ih1 y hy (ht.ki hy) g (hf _ (eN hy)) (by unfold VW;omega)
   ·have e:eH vars v=9223372036854775808:=by omega
    rw [e,show ag .i64 9223372036854775808= -9223372036854775808 from by decide,ih1 y hy (ht.ki hy) g (hf _ (eN hy)) (by unfold VW;omega),Z9 y (ht.ki hy) (by omega) (Int.le_refl _)]
  have hQ': ∀b∈t.sys,∀y∈b.kids,∀g:Bool->OS S,kG q y vars (dims+aM t.kind) bd g=g (cm bd vars (dims+aM t.kind) y):=fun b hb y hy g=>ih2 b hb y hy ((ht.bi hb).2 y hy) g (hf _ (eX hb hy)) (by
   have:=eX hb hy;unfold VW;omega)
  have:=afK (bd:=bd) hq Y hv1 hQ hQ' ht t.kids [] q rfl (by have:=ht.no.2.2.2.2.2.1;omega)
  have this:qA (kG q) q Y vars dims bd t q 0=_:=this
  simp only [kG,Uj,aJ,ap hq,akR hq ht (show 0<=dims by omega) (show dims<9223372036854775808 by omega),Bc,Kh,this]
  rw [yM]
  cases bd with
  |true=>
   rw [ao,bS,hX]
   by_cases h24:dims>24
   ·grind
   ·rw [if_neg h24,decide_eq_false h24]
    cases fE vars dims t<;>rfl
  |false=>
   rw [al]
   cases fE vars dims t<;>rfl
def VD (vars dims:Int) (n:Nat):Prop:= -4611686018427387904<=vars/\vars+n<4611686018427387904/\0<=dims/\dims+n<4611686018427387904
theorem akl (t:Tm) (ht:OkT t) {k:Nat} {vars dims:Int} {bd:Bool} (Y:Bool->OS S) (hk:Fd k (ax t)) (hv:VD vars dims (ax t)):kG k t vars dims bd Y=Y (cm bd vars dims t):=
 akm t ht Y hk (by obtain ⟨v1,v2,v3,v4⟩:=hv;exact ⟨by omega,by omega,v3,v4⟩)
theorem alj {t:Tm} (ht:OkT t) (hk:Fd k (ax t)) (Y:Int->OS S):Be k t Y=Y (if ax t>200 then 62 else if aL t>20000 then 221 else 0):=by
 simp only [Be,aJ,ali t ht _ hk (show (-4611686018427387904:Int)<=200 by omega) (show (200:Int)<4611686018427387904 by omega),ap hk.fu,alk ht hk (show (0:Int)<20000 by omega) (show (20000:Int)<4611686018427387904 by omega)]
 by_cases h1:ax t>200
 ·rw [if_pos h1,decide_eq_false (by omega)];rfl
 ·rw [if_neg h1,decide_eq_true (by omega),cF,al]
  by_cases h2:aL t>20000
  ·rw [if_pos h2,decide_eq_false (by omega)];rfl
  ·rw [if_neg h2,decide_eq_true (by omega)];rfl
theorem pk {t:Tm} (ht:OkT t) (hk:Fd k (ax t)) (hdep:ax t<1099511627776) (Y:Int->OS S):ld k t Y=Y (dn t):=by
 simp only [ld,aJ,ap hk.fu,alj ht hk,akl t ht _ hk (show VD (-1) 24 (ax t) by unfold VD;omega),dx]
 unfold dn
 by_cases h1:ax t>200
 ·rw [if_pos h1,if_pos h1];rfl
 ·rw [if_neg h1,if_neg h1]
  by_cases h2:aL t>20000
  ·rw [if_pos h2,if_pos h2];rfl
  ·rw [if_neg h2,if_neg h2,decide_eq_true rfl,cF,al]
   cases cm false (-1) 24 t<;>rfl
theorem LP: ∀ {l:LT},(∀x∈l,ax x<=aL x)->bu l<=aN l:=by
 intro l
 induction l<;>grind [bu,aN]
theorem aaY: ∀ {l:LB},(∀b∈l,∀x∈b.kids,ax x<=aL x)->bU l<=aS l:=by
 intro l
 induction l<;>grind [bU,aS,wE,uo,LP]
theorem Bg (t:Tm):ax t<=aL t:=by
 induction t using il<;>grind [wF,I1,LP,aaY]
section
variable {hd:Tm->(Int->OS S)->OS S} {t:Tm}
theorem agZ (hk:Fu k) (Y:Int->OS S) (rec1:Int->Int->OS S) {v:Int} {x:Br Tm} (hv:ak t.sys v=some x) (hQ: ∀y∈x.kids,∀g,hd y g=g ((aL y:Nat):Int)) (hl:x.kids.length<1073741824):
  ∀ (r p:LT) (m a:Nat),x.kids=p++r->r.length<m->a+aN r<4611686018427387904->qx hd k Y rec1 t v m (a:Int) (p.length:Int)=rec1 ((a+aN r:Nat):Int) (ag .i64 (v+1)):=by
 intro r
 induction r with
 |nil=>
  grind [aq,aN,qx,zO,al]
 |cons y r ih=>
  intro p m a h hm ha
  obtain ⟨m,rfl,hm'⟩:=aq hm
  obtain ⟨e1,e2,e3,e4⟩:=aK h (by omega)
  have hy:=hQ y (by grind)
  have hz:a+aN (y::r)=(a+aL y)+aN r:=by rw [aN];omega
  rw [hz] at ha ⊢
  have hw:ag .i64 ((a:Int)+((aL y:Nat):Int))=((a+aL y:Nat):Int):=by grind [dz]
  simp only [qx,zO,hv,e1,ao,e2,aI,aJ,hy,e3,hw,ih (p++[y]) m (a+aL y) e4 hm' ha]
theorem agY (hk:Fu k) (Y:Int->OS S) (hQ: ∀b∈t.sys,∀y∈b.kids,∀g,hd y g=g ((aL y:Nat):Int)) (hl:t.sys.length<1073741824) (hl': ∀b∈t.sys,b.kids.length<1073741824):
  ∀ (r p:LB) (m a:Nat),t.sys=p++r->r.length<m->a+aS r<4611686018427387904->nh hd k Y t m (a:Int) (p.length:Int)=Y ((a+aS r:Nat):Int):=by
 intro r
 induction r with
 |nil=>
  grind [aq,aS,nh,vk,al]
 |cons x r ih=>
  intro p m a h hm ha
  obtain ⟨m,rfl,hm'⟩:=aq hm
  obtain ⟨e1,e2,e3,e4⟩:=aK h (by omega)
  have hx:x∈t.sys:=by grind
  have hlx:=hl' x hx
  have hz:a+aS (x::r)=(a+aN x.kids)+aS r:=by rw [aS,uo];omega
  rw [hz] at ha ⊢
  have:=agZ (t:=t) hk Y (nh hd k Y t m) e2 (hQ x hx) hlx x.kids [] k a rfl (by omega) (by omega)
  simp only [nh,vk,e1,ao]
  refine aj this ?_
  rw [e3,ih (p++[x]) m (a+aN x.kids) e4 hm' ha]
theorem agX (hk:Fu k) (Y:Int->OS S) (hQ: ∀y∈t.kids,∀g,hd y g=g ((aL y:Nat):Int)) (hQ': ∀b∈t.sys,∀y∈b.kids,∀g,hd y g=g ((aL y:Nat):Int)) (ht:OkT t):
  ∀ (r p:LT) (m a:Nat),t.kids=p++r->r.length<m->a+aN r+aS t.sys<4611686018427387904->tq hd k Y t m (a:Int) (p.length:Int)=Y ((a+aN r+aS t.sys:Nat):Int):=by
 obtain ⟨o1,o2,o3,o4,o5,o6,o7⟩:=ht.no
 intro r
 induction r with
 |nil=>
  intro p m a h hm ha
  obtain ⟨m,rfl,hm'⟩:=aq hm
  have hz:a+aN []=a:=by rfl
  rw [hz] at ha ⊢
  have:=agY hk Y hQ' o7 (fun b hb=>(ht.bi hb).1.2.2) t.sys [] k a rfl (by omega) ha
  grind [tq,vj,al]
 |cons y r ih=>
  intro p m a h hm ha
  obtain ⟨m,rfl,hm'⟩:=aq hm
  obtain ⟨e1,e2,e3,e4⟩:=aK h (by omega)
  have hy:=hQ y (by grind)
  have hz:a+aN (y::r)=(a+aL y)+aN r:=by rw [aN];omega
  rw [hz] at ha ⊢
  have hw:ag .i64 ((a:Int)+((aL y:Nat):Int))=((a+aL y:Nat):Int):=by grind [dz]
  simp only [tq,vj,e1,ao,e2,aI,aJ,hy,e3,hw,ih (p++[y]) m (a+aL y) e4 hm' ha]
end
theorem alb (t:Tm):OkT t-> ∀ {k:Nat} (Y:Int->OS S),Fd k (ax t)->aL t<4611686018427387904->mc k t Y=Y ((aL t:Nat):Int):=by
 induction t using il with
 |h t ih1 ih2=>
  intro ht k Y hk hs
  obtain ⟨q,rfl,hq,hf⟩:=hk.pos' (fq t)
  have hz:=I1 t
  have:=agX hq Y (fun y hy g=>ih1 y hy (ht.ki hy) g (hf _ (eN hy)) (by have:=rg hy;omega)) (fun b hb y hy g=>ih2 b hb y hy ((ht.bi hb).2 y hy) g (hf _ (eX hb hy)) (by have:=rg hy;have:=Dr hb;omega)) ht t.kids [] q 1 rfl (by have:=ht.no.2.2.2.2.2.1;omega) (by omega)
  grind [mc,JU]
section
variable {hd:Tm->(Int->OS S)->OS S} {t:Tm}
theorem Pr (a b:Nat) {α:Type} (f:Int->α):ac (decide (((b:Nat):Int)>(a:Int))) (f (b:Int)) (f (a:Int))=f ((max a b:Nat):Int):=by
 grind [bS]
theorem agB (hk:Fu k) (Y:Int->OS S) (rec1:Int->Int->OS S) {v:Int} {x:Br Tm} (hv:ak t.sys v=some x) (hQ: ∀y∈x.kids,∀g,hd y g=g ((ax y:Nat):Int)) (hl:x.kids.length<1073741824):
  ∀ (r p:LT) (m a:Nat),x.kids=p++r->r.length<m->oV hd k Y rec1 t v m (a:Int) (p.length:Int)=rec1 ((max a (bu r):Nat):Int) (ag .i64 (v+1)):=by
 intro r
 induction r with
 |nil=>
  grind [aq,bu,oV,zM,al]
 |cons y r ih=>
  intro p m a h hm
  obtain ⟨m,rfl,hm'⟩:=aq hm
  obtain ⟨e1,e2,e3,e4⟩:=aK h (by omega)
  have hy:=hQ y (by grind)
  have hz:max a (bu (y::r))=max (max a (ax y)) (bu r):=by rw [bu];omega
  rw [hz]
  simp only [oV,zM,hv,e1,ao,e2,aI,aJ,hy,e3]
  rw [Pr a (ax y) (fun z=>oV hd k Y rec1 t v m z (((p++[y]).length:Nat):Int)),ih (p++[y]) m (max a (ax y)) e4 hm']
theorem agA (hk:Fu k) (Y:Int->OS S) (hQ: ∀b∈t.sys,∀y∈b.kids,∀g,hd y g=g ((ax y:Nat):Int)) (hl:t.sys.length<1073741824) (hl': ∀b∈t.sys,b.kids.length<1073741824):
  ∀ (r p:LB) (m a:Nat),t.sys=p++r->r.length<m->max a (bU r)<4611686018427387904->ng hd k Y t m (a:Int) (p.length:Int)=Y ((max a (bU r)+1:Nat):Int):=by
 intro r
 induction r with
 |nil=>
  intro p m a h hm ha
  obtain ⟨m,rfl,hm'⟩:=aq hm
  have hz:max a (bU [])=a:=by rw [bU];omega
  rw [hz] at ha ⊢
  have hw:ag .i64 ((a:Int)+1)=((a+1:Nat):Int):=by grind [dz]
  grind [ng,vi,al]
 |cons x r ih=>
  intro p m a h hm ha
  obtain ⟨m,rfl,hm'⟩:=aq hm
  obtain ⟨e1,e2,e3,e4⟩:=aK h (by omega)
  have hx:x∈t.sys:=by grind
  have hlx:=hl' x hx
  have hz:max a (bU (x::r))=max (max a (bu x.kids)) (bU r):=by rw [bU,wE];omega
  rw [hz] at ha ⊢
  have:=agB (t:=t) hk Y (ng hd k Y t m) e2 (hQ x hx) hlx x.kids [] k a rfl (by omega)
  simp only [ng,vi,e1,ao]
  refine aj this ?_
  rw [e3,ih (p++[x]) m (max a (bu x.kids)) e4 hm' ha]
theorem agz (hk:Fu k) (Y:Int->OS S) (hQ: ∀y∈t.kids,∀g,hd y g=g ((ax y:Nat):Int)) (hQ': ∀b∈t.sys,∀y∈b.kids,∀g,hd y g=g ((ax y:Nat):Int)) (ht:OkT t):
  ∀ (r p:LT) (m a:Nat),t.kids=p++r->r.length<m->max (max a (bu r)) (bU t.sys)<4611686018427387904->qw hd k Y t m (a:Int) (p.length:Int)=Y ((max (max a (bu r)) (bU t.sys)+1:Nat):Int):=by
 obtain ⟨o1,o2,o3,o4,o5,o6,o7⟩:=ht.no
 intro r
 induction r with
 |nil=>
  intro p m a h hm ha
  obtain ⟨m,rfl,hm'⟩:=aq hm
  have hz:max a (bu [])=a:=by rw [bu];omega
  rw [hz] at ha ⊢
  have:=agA hk Y hQ' o7 (fun b hb=>(ht.bi hb).1.2.2) t.sys [] k a rfl (by omega) ha
  grind [qw,vh,al]
 |cons y r ih=>
  intro p m a h hm ha
  obtain ⟨m,rfl,hm'⟩:=aq hm
  obtain ⟨e1,e2,e3,e4⟩:=aK h (by omega)
  have hy:=hQ y (by grind)
  have hz:max a (bu (y::r))=max (max a (ax y)) (bu r):=by rw [bu];omega
  rw [hz] at ha ⊢
  simp only [qw,vh,e1,ao,e2,aI,aJ,hy,e3]
  rw [Pr a (ax y) (fun z=>qw hd k Y t m z (((p++[y]).length:Nat):Int)),ih (p++[y]) m (max a (ax y)) e4 hm' ha]
end
theorem ak6 (t:Tm):OkT t-> ∀ {k:Nat} (Y:Int->OS S),Fd k (ax t)->ax t<4611686018427387904->mb k t Y=Y ((ax t:Nat):Int):=by
 induction t using il with
 |h t ih1 ih2=>
  intro ht k Y hk hs
  obtain ⟨q,rfl,hq,hf⟩:=hk.pos' (fq t)
  have hz:=wF t
  have:=agz hq Y (fun y hy g=>ih1 y hy (ht.ki hy) g (hf _ (eN hy)) (by have:=eN hy;omega)) (fun b hb y hy g=>ih2 b hb y hy ((ht.bi hb).2 y hy) g (hf _ (eX hb hy)) (by have:=eX hb hy;omega)) ht t.kids [] q 0 rfl (by have:=ht.no.2.2.2.2.2.1;omega) (by omega)
  grind [mb,JS]
section
variable {hd:Tm->Int->Int->Bool->(Bool->OS S)->OS S} {vars dims:Int} {bd:Bool} {t:Tm}
theorem agv (hk:Fu k) (Y:Bool->OS S) (rec5:Int->OS S) (hv:VD vars dims 1) {v:Int} {x:Br Tm} (hQ: ∀y∈x.kids,∀g,hd y vars (dims+aM t.kind) bd g=g (cm bd vars (dims+aM t.kind) y)) (hl:x.kids.length<1073741824):
  ∀ (r p:LT) (m:Nat),x.kids=p++r->r.length<m->oU hd k Y rec5 x t vars v dims bd m (p.length:Int)=if ep bd vars dims t.kind r then rec5 (ag .i64 (v+1)) else Y false:=by
 have hmo:=iJ t.kind
 unfold VD at hv
 intro r
 induction r with
 |nil=>
  intro p m h hm
  obtain ⟨m,rfl,hm'⟩:=aq hm
  simp only [oU,zI,d2 h,al];rfl
 |cons y r ih=>
  intro p m h hm
  obtain ⟨m,rfl,hm'⟩:=aq hm
  obtain ⟨e1,e2,e3,e4⟩:=aK h (by omega)
  have hy:=hQ y (by grind)
  simp only [oU,zI,e1,ao,e2,aI,ap hk,aJ,IT,dz (n:=dims+aM t.kind) (by omega) (by omega),hy,e3,ih (p++[y]) m e4 hm',IY]
  rw [ep]
theorem agu (hk:Fu k) (Y:Bool->OS S) (hv:VD vars dims 1) (hQ: ∀b∈t.sys,∀y∈b.kids,∀g,hd y vars (dims+aM t.kind) bd g=g (cm bd vars (dims+aM t.kind) y)) (ht:OkT t):
  ∀ (r p:LB) (m:Nat),t.sys=p++r->r.length<m->lq hd k Y t vars dims bd m (p.length:Int)=Y (r.all fun b=>dS t.kind dims b&&ep bd vars dims t.kind b.kids):=by
 obtain ⟨o1,o2,o3,o4,o5,o6,o7⟩:=ht.no
 have hv':=hv
 unfold VD at hv'
 intro r
 induction r with
 |nil=>
  grind [aq,lq,vc,al]
 |cons x r ih=>
  intro p m h hml
  obtain ⟨m,rfl,hm'⟩:=aq hml
  obtain ⟨e1,e2,e3,e4⟩:=aK h (by omega)
  have hx:x∈t.sys:=by grind
  have hb:=(ht.bi hx).1
  have:=agv (t:=t) (bd:=bd) hk Y (lq hd k Y t vars dims bd m) hv (v:=(p.length:Int)) (hQ x hx) hb.2.2 x.kids [] k rfl (by omega)
  have this:oU hd k Y (lq hd k Y t vars dims bd m) x t vars (p.length:Int) dims bd k 0=_:=this
  have hq:((x.kids.length:Int)==eB t.kind)=decide ((x.kids.length:Int)=eB t.kind):=by rfl
  simp only [lq,vc,e1,ao,e2,aI,ap hk,TQ,re hk hb.1 (show x.face.length<2147483648 by omega),TB hk hb.1 hb.2.1,this,e3,ih (p++[x]) m e4 hm',aeu,nN,hq]
  grind [dS,decide,eP]
theorem agt (hk:Fu k) (Y:Bool->OS S) (hv:VD vars dims 1) (hQ: ∀y∈t.kids,∀v d,0<=v/\v<=1->0<=d/\d<=1-> ∀g,hd y (eH vars v) (dims+d) bd g=g (cm bd (eH vars v) (dims+d) y)) (hQ': ∀b∈t.sys,∀y∈b.kids,∀g,hd y vars (dims+aM t.kind) bd g=g (cm bd vars (dims+aM t.kind) y)) (ht:OkT t):
  ∀ (r p:LT) (m:Nat),t.kids=p++r->r.length<m->nc hd k Y t vars dims bd m (p.length:Int)=Y (dL bd vars dims t.kind p.length r&&t.sys.all fun b=>dS t.kind dims b&&ep bd vars dims t.kind b.kids):=by
 obtain ⟨o1,o2,o3,o4,o5,o6,o7⟩:=ht.no
 have hv':=hv
 unfold VD at hv'
 intro r
 induction r with
 |nil=>
  intro p m h hm
  obtain ⟨m,rfl,hm'⟩:=aq hm
  have hs:lq hd k Y t vars dims bd k 0=_:=agu hk Y hv hQ' ht t.sys [] k rfl (by omega)
  grind [nc,va,al,dL]
 |cons y r ih=>
  intro p m h hm
  obtain ⟨m,rfl,hm'⟩:=aq hm
  obtain ⟨e1,e2,e3,e4⟩:=aK h (by omega)
  have b1:=vE t.kind p.length
  have b2:=mP t.kind p.length
  have hy:=hQ y (by grind) (fj t.kind p.length) (dR t.kind p.length) b1 b2
  simp only [nc,va,e1,ao,e2,aI,ap hk,IS hk,aJ,dz (n:=dims+dR t.kind p.length) (by omega) (by omega),dz (n:=vars+0) (by omega) (by omega),dz (n:=vars+fj t.kind p.length) (by omega) (by omega),e3,ih (p++[y]) m e4 hm']
  have hvb:ac (decide (vars<0)) (hd y (vars+0) (dims+dR t.kind p.length) bd fun r8=>ac (!r8) (Y false) (Y (dL bd vars dims t.kind (p++[y]).length r&&t.sys.all fun b=>dS t.kind dims b&&ep bd vars dims t.kind b.kids)))
    (hd y (vars+fj t.kind p.length) (dims+dR t.kind p.length) bd fun r10=>ac (!r10) (Y false) (Y (dL bd vars dims t.kind (p++[y]).length r&&t.sys.all fun b=>dS t.kind dims b&&ep bd vars dims t.kind b.kids)))
    =hd y (eH vars (fj t.kind p.length)) (dims+dR t.kind p.length) bd fun r8=>ac (!r8) (Y false) (Y (dL bd vars dims t.kind (p++[y]).length r&&t.sys.all fun b=>dS t.kind dims b&&ep bd vars dims t.kind b.kids)):=by
   grind [bS,eH]
  simp_all [nN,dL,Bool.and_assoc]
end
def nK (vars:Int) (t:Tm):Bool:=if t.kind=1 then decide (0<=t.n)&&decide (vars<0\/t.n<vars) else decide (t.n=0)
def tP (t:Tm):Bool:=if t.kind=2 then qJ t.name.data.toList else decide (t.name.size=0)
def rK (t:Tm):Bool:=if t.kind=13\/t.kind=21\/t.kind=26 then dj t.r else if t.kind=14 then eQ t.r else decide (t.r.length=0)
theorem He (d:Int) (l:LC) (h:l.length=0):eP l d=true:=by
 grind [eP,mem_bitsN,Bh,lP]
theorem Z_ {α:Type} (l:List α) (f g:α->Bool):(l.all fun x=>f x&&g x)=(l.all f&&l.all g):=by
 grind
theorem Z8 {bd:Bool} {vars dims kd:Int}: ∀ {l:LB},(l.all fun b=>ep bd vars dims kd b.kids)=er bd vars dims kd l:=by
 intro l
 induction l with
 |nil=>rfl
 |cons b l ih=>cases b<;>grind [er,nU]
theorem ajF (vars dims:Int) (t:Tm) (AK AS:Bool):
  (decide (gS t.kind=t.kids.length)&&(decide (0<t.sys.length->eB t.kind≠0)&&(nK vars t&&(tP t&&(rK t&&(eP t.r dims&&(AK&&(t.sys.all (dS t.kind dims)&&AS))))))))=(fE vars dims t&&(AK&&AS)):=by
 rw [PR]
 have hp:decide (0<t.sys.length->eB t.kind≠0)=decide (eB t.kind=0->t.sys.length=0):=dcg ⟨fun h h0=>by
  omega,fun h h0 h1=>by omega⟩
 rw [hp]
 cases decide (gS t.kind=t.kids.length) with
 |false=>rfl
 |true=>
  simp only [hX]
  by_cases hs:eB t.kind=0->t.sys.length=0
  ·rw [decide_eq_true hs]
   have nosys:eB t.kind=0->t.sys.all (dS t.kind dims)=true:=fun h=>by
    grind
   unfold nK tP rK qP
   by_cases c1:t.kind=1
   ·simp only [c1,if_true,show ((1:Int)=2)=False from by simp,show ((1:Int)=13)=False from by simp,show ((1:Int)=14)=False from by simp,show ((1:Int)=21)=False from by simp,show ((1:Int)=26)=False from by simp,or_self,if_false,true_or,decide_true,hX,false_or]
    rw [c1] at nosys
    rw [nosys (by decide)]
    grind [He]
   ·by_cases c2:t.kind=2
    ·simp only [c2,if_true,show ((2:Int)=1)=False from by simp,show ((2:Int)=13)=False from by simp,show ((2:Int)=14)=False from by simp,show ((2:Int)=21)=False from by simp,show ((2:Int)=26)=False from by simp,or_self,if_false,true_or,decide_true,hX,false_or]
     rw [c2] at nosys
     rw [nosys (by decide)]
     grind [He]
    ·simp only [c1,c2,if_false,false_or,hX]
     by_cases c3:t.kind=13\/t.kind=21\/t.kind=26
     ·rw [if_pos c3,if_pos c3,nosys (by rcases c3 with h|h|h<;>rw [h]<;>decide)]
      grind
     ·rw [if_neg c3,if_neg c3]
      by_cases c4:t.kind=14
      ·rw [if_pos c4,if_pos c4,nosys (by rw [c4];decide)]
       grind
      grind [He]
  grind
theorem ak3 (t:Tm):OkT t-> ∀ {k:Nat} {vars dims:Int} {bd:Bool} (Y:Bool->OS S),Fd k (ax t)->VD vars dims (ax t)->eW k t vars dims bd Y=Y (cm bd vars dims t):=by
 induction t using il with
 |h t ih1 ih2=>
  intro ht k vars dims bd Y hk hv
  obtain ⟨q,rfl,hq,hf⟩:=hk.pos' (fq t)
  have hp:=fq t
  have hv':=hv
  unfold VD at hv'
  have hv1:VD vars dims 1:=by unfold VD;omega
  have hm:=iJ t.kind
  obtain ⟨o1,o2,o3,o4,o5,o6,o7⟩:=ht.no
  have hQ: ∀y∈t.kids,∀v d,0<=v/\v<=1->0<=d/\d<=1-> ∀g:Bool->OS S,eW q y (eH vars v) (dims+d) bd g=g (cm bd (eH vars v) (dims+d) y):=fun y hy v d h1 h2 g=>ih1 y hy (ht.ki hy) g (hf _ (eN hy)) (by
   have:=eN hy;have:=UC (vars:=vars) h1;unfold VD;omega)
  have hQ': ∀b∈t.sys,∀y∈b.kids,∀g:Bool->OS S,eW q y vars (dims+aM t.kind) bd g=g (cm bd vars (dims+aM t.kind) y):=fun b hb y hy g=>ih2 b hb y hy ((ht.bi hb).2 y hy) g (hf _ (eX hb hy)) (by
   have:=eX hb hy;unfold VD;omega)
  have h4:nc (eW q) q Y t vars dims bd q 0=_:=agt (bd:=bd) hq Y hv1 hQ hQ' ht t.kids [] q rfl (by omega)
  rw [Z_,Z8] at h4
  have h4:nc (eW q) q Y t vars dims bd q 0=Y (dL bd vars dims t.kind 0 t.kids&&(t.sys.all (dS t.kind dims)&&er bd vars dims t.kind t.sys)):=h4
  generalize hAK:dL bd vars dims t.kind 0 t.kids=AK at h4
  generalize hAS:er bd vars dims t.kind t.sys=AS at h4
  generalize hw:(AK&&(t.sys.all (dS t.kind dims)&&AS))=W at h4
  obtain ⟨q',hq'⟩: ∃q',q=q'+1:=⟨q-1,by omega⟩
  have j3:tl (eW q) q Y t vars dims bd q=Y (eP t.r dims&&W):=by
   simp_all [tl,zH,nN,ap,TB]
  have j2:tk (eW q) q Y t vars dims bd q=Y (rK t&&(eP t.r dims&&W)):=by
   have: ∀j,j=q'+1->tk (eW q) q Y t vars dims bd j=u_ (eW q) q Y t vars dims bd (tl (eW q) q Y t vars dims bd q):=by rintro j rfl;rfl
   rw [this q hq',j3]
   simp only [u_,ap hq,kQ hq o4 (show t.r.length<2147483648 by omega),re hq o4 (show t.r.length<2147483648 by omega),nN]
   have hr0:ac (decide (((t.r.length:Nat):Int)>0)) (Y false) (Y (eP t.r dims&&W))=Y (decide (t.r.length=0)&&(eP t.r dims&&W)):=by
    grind [bS,decide_eq_false]
   grind [eM,rK]
  have j1:xb (eW q) q Y t vars dims bd q=Y (tP t&&(rK t&&(eP t.r dims&&W))):=by
   have: ∀j,j=q'+1->xb (eW q) q Y t vars dims bd j=u9 (eW q) q Y t vars dims bd (tk (eW q) q Y t vars dims bd q):=by rintro j rfl;rfl
   rw [this q hq',j2]
   simp only [u9,ap hq,alf hq (show t.name.size<2147483648 by omega),HA,nN]
   unfold tP
   by_cases c:t.kind=2
   ·simp_all [ao,al,nN]
   grind [al,ao]
  have j0:B3 (eW q) q Y t vars dims bd q=Y (nK vars t&&(tP t&&(rK t&&(eP t.r dims&&W)))):=by
   grind [B3,zG,nK,bS,decide_eq_false]
  simp only [eW,JO,aJ,ap hq,TM,TQ,j0]
  have hkk:(gS t.kind==(t.kids.length:Int))=decide (gS t.kind=t.kids.length):=by rfl
  generalize hZ:(nK vars t&&(tP t&&(rK t&&(eP t.r dims&&W))))=Z
  have hsy:ac (decide (((t.sys.length:Nat):Int)>0)) (ac (eB t.kind==0) (Y false) (Y Z)) (Y Z)=Y (decide (0<t.sys.length->eB t.kind≠0)&&Z):=by
   grind [eM]
  rw [hsy,nN,hkk]
  have hfin:=ajF vars dims t AK AS
  rw [hw,hZ] at hfin
  rw [hfin,yM,hAK,hAS]
  cases bd<;>grind [bS,al]
theorem alc {t:Tm} (ht:OkT t) (hk:Fd k (ax t)) (hs:aL t<1099511627776) (Y:Int->OS S):A1 k t Y=Y (if ax t>200 then 62 else if aL t>20000 then 221 else 0):=by
 grind [Bg,A1,aJ,bS,ak6,alb]
theorem Dl {t:Tm} (ht:OkT t) (hk:Fd k (ax t)) (hs:aL t<1099511627776) (Y:Int->OS S):pW k t Y=Y (dn t):=by
 have:=Bg t
 simp only [pW,aJ,ap hk.fu,alc ht hk hs,ak3 t ht _ hk (show VD (-1) 24 (ax t) by unfold VD;omega),dx]
 unfold dn
 by_cases h1:ax t>200
 ·rw [if_pos h1,if_pos h1];rfl
 ·rw [if_neg h1,if_neg h1]
  by_cases h2:aL t>20000
  ·rw [if_pos h2,if_pos h2];rfl
  ·rw [if_neg h2,if_neg h2,decide_eq_true rfl,ao]
   cases cm false (-1) 24 t<;>rfl
theorem ag0 (hk:Fu k) (Y:Bool->OS S) {l:LC} (hlen:l.length<2147483648):
  ∀ (r p:LC) (m:Nat),l=p++r->r.length<m->na k Y l l m (p.length:Int)=Y true:=by
 intro r
 induction r with
 |nil=>
  grind [aq,na,rx,al]
 |cons x r ih=>
  intro p m h hm
  obtain ⟨m,rfl,hm'⟩:=aq hm
  obtain ⟨e1,e2,e3,e4⟩:=aK h (by omega)
  grind [na,rx,ao,al]
theorem TU (hk:Fu k) {l:LC} (hlen:l.length<2147483648) (Y:Bool->OS S):og k l l Y=Y true:=by
 simp only [og,DA,beq_self_eq_true,cF,al]
 exact ag0 hk Y hlen l [] k rfl (by omega)
section
variable {hd:Tm->Tm->(Bool->OS S)->OS S}
theorem agb (hk:Fu k) (Y:Bool->OS S) {l:LT} (hlen:l.length<2147483648) (hQ: ∀y∈l,∀g,hd y y g=g true):
  ∀ (r p:LT) (m:Nat),l=p++r->r.length<m->tr hd k Y l l m (p.length:Int)=Y true:=by
 intro r
 induction r with
 |nil=>
  grind [aq,tr,zP,al]
 |cons x r ih=>
  intro p m h hm
  obtain ⟨m,rfl,hm'⟩:=aq hm
  obtain ⟨e1,e2,e3,e4⟩:=aK h (by omega)
  grind [tr,zP,ao,aJ,al]
theorem Tz (hk:Fu k) (Y:Bool->OS S) {l:LT} (hlen:l.length<2147483648) (hQ: ∀y∈l,∀g,hd y y g=g true):wl hd k l l Y=Y true:=by
 simp only [wl,JV,beq_self_eq_true,cF,al]
 exact agb hk Y hlen hQ l [] k rfl (by omega)
theorem ags (hk:Fu k) (Y:Bool->OS S) {t:Tm} (ht:OkT t) (hQ: ∀b∈t.sys,∀y∈b.kids,∀g,hd y y g=g true):
  ∀ (r p:LB) (m:Nat),t.sys=p++r->r.length<m->tp hd k Y t t m (p.length:Int)=Y true:=by
 obtain ⟨o1,o2,o3,o4,o5,o6,o7⟩:=ht.no
 intro r
 induction r with
 |nil=>
  grind [aq,tp,zN,al]
 |cons x r ih=>
  intro p m h hm
  obtain ⟨m,rfl,hm'⟩:=aq hm
  obtain ⟨e1,e2,e3,e4⟩:=aK h (by omega)
  have hx:x∈t.sys:=by grind
  have hb:=(ht.bi hx).1
  simp only [tp,zN,e1,ao,e2,aI,ap hk,TU hk (show x.face.length<2147483648 by omega),Tz hk _ (show x.kids.length<2147483648 by omega) (hQ x hx),e3,ih (p++[x]) m e4 hm',cF,al]
end
theorem TS (t:Tm):OkT t-> ∀ {k:Nat} (Y:Bool->OS S),Fd k (ax t)->ie k t t Y=Y true:=by
 induction t using il with
 |h t ih1 ih2=>
  intro ht k Y hk
  obtain ⟨q,rfl,hq,hf⟩:=hk.pos' (fq t)
  obtain ⟨o1,o2,o3,o4,o5,o6,o7⟩:=ht.no
  have hQ: ∀y∈t.kids,∀g:Bool->OS S,ie q y y g=g true:=fun y hy g=>ih1 y hy (ht.ki hy) g (hf _ (eN hy))
  have hQ': ∀b∈t.sys,∀y∈b.kids,∀g:Bool->OS S,ie q y y g=g true:=fun b hb y hy g=>ih2 b hb y hy ((ht.bi hb).2 y hy) g (hf _ (eX hb hy))
  have:=ags hq Y ht hQ' t.sys [] q rfl (by omega)
  grind [ie,KS,JT,al,ap,TU,Tz]
section
variable {hd:Tm->Int->(Int->OS S)->OS S} {t:Tm}
theorem afD (hk:Fu k) (Y:Int->OS S) (rec1:Int->Int->OS S) {v most:Int} {x:Br Tm} (hv:ak t.sys v=some x) (hQ: ∀y∈x.kids,∀n g,∃w,hd y n g=g w) (hl:x.kids.length<1073741824):
  ∀ (r p:LT) (m:Nat) (a:Int),x.kids=p++r->r.length<m-> ∃w,nd hd k Y rec1 t most v m a (p.length:Int)=rec1 w (ag .i64 (v+1)):=by
 intro r
 induction r with
 |nil=>
  intro p m a h hm
  obtain ⟨m,rfl,hm'⟩:=aq hm
  exact ⟨a,by grind [nd,zK,al]⟩
 |cons y r ih=>
  intro p m a h hm
  obtain ⟨m,rfl,hm'⟩:=aq hm
  obtain ⟨e1,e2,e3,e4⟩:=aK h (by omega)
  simp only [nd,zK,hv,e1,ao,e2,aI,aJ,e3]
  cases decide (a<=most) with
  |false=>exact ⟨a,rfl⟩
  |true=>
   rw [ao]
   obtain ⟨w,hw⟩:=hQ y (by grind) (ag .i64 (most-a)) (fun r8=>nd hd k Y rec1 t most v m (ag .i64 (a+r8)) (((p++[y]).length:Nat):Int))
   rw [hw]
   exact ih (p++[y]) m _ e4 hm'
theorem afC (hk:Fu k) (Y:Int->OS S) {most:Int} (hQ: ∀b∈t.sys,∀y∈b.kids,∀n g,∃w,hd y n g=g w) (ht:OkT t):
  ∀ (r p:LB) (m:Nat) (a:Int),t.sys=p++r->r.length<m-> ∃w,mm hd k Y t most m a (p.length:Int)=Y w:=by
 obtain ⟨o1,o2,o3,o4,o5,o6,o7⟩:=ht.no
 intro r
 induction r with
 |nil=>
  intro p m a h hm
  obtain ⟨m,rfl,hm'⟩:=aq hm
  exact ⟨a,by grind [mm,ve,al]⟩
 |cons x r ih=>
  intro p m a h hm
  obtain ⟨m,rfl,hm'⟩:=aq hm
  obtain ⟨e1,e2,e3,e4⟩:=aK h (by omega)
  have hx:x∈t.sys:=by grind
  have hb:=(ht.bi hx).1
  simp only [mm,ve,e1,ao,e2,aI,e3]
  cases decide (a<=most) with
  |false=>exact ⟨a,rfl⟩
  |true=>
   rw [ao]
   cases decide (((x.face.length:Nat):Int)>most) with
   |true=>exact ⟨_,rfl⟩
   |false=>
    rw [al]
    obtain ⟨w,hw⟩:=afD (t:=t) (most:=most) hk Y (mm hd k Y t most m) e2 (hQ x hx) hb.2.2 x.kids [] k (ag .i64 (ag .i64 (a+1)+((x.face.length:Nat):Int))) rfl (by omega)
    have hw:nd hd k Y (mm hd k Y t most m) t most (p.length:Int) k (ag .i64 (ag .i64 (a+1)+((x.face.length:Nat):Int))) 0=_:=hw
    rw [hw,e3]
    exact ih (p++[x]) m w e4 hm'
theorem afB (hk:Fu k) (Y:Int->OS S) {most:Int} (hQ: ∀y∈t.kids,∀n g,∃w,hd y n g=g w) (hQ': ∀b∈t.sys,∀y∈b.kids,∀n g,∃w,hd y n g=g w) (ht:OkT t):
  ∀ (r p:LT) (m:Nat) (a:Int),t.kids=p++r->r.length<m-> ∃w,qu hd k Y t most m a (p.length:Int)=Y w:=by
 obtain ⟨o1,o2,o3,o4,o5,o6,o7⟩:=ht.no
 intro r
 have hs:=fun a=>afC (most:=most) hk Y hQ' ht t.sys [] k a rfl (by omega)
 induction r with
 |nil=>
  intro p m a h hm
  obtain ⟨m,rfl,hm'⟩:=aq hm
  simp_all [qu,vd,al]
 |cons y r ih=>
  intro p m a h hm
  obtain ⟨m,rfl,hm'⟩:=aq hm
  obtain ⟨e1,e2,e3,e4⟩:=aK h (by omega)
  simp only [qu,vd,e1,ao,e2,aI,aJ,e3]
  cases decide (a<=most) with
  |false=>exact hs a
  |true=>
   rw [ao]
   obtain ⟨w,hw⟩:=hQ y (by grind) (ag .i64 (most-a)) (fun r2=>qu hd k Y t most m (ag .i64 (a+r2)) (((p++[y]).length:Nat):Int))
   rw [hw]
   exact ih (p++[y]) m _ e4 hm'
end
theorem ak4 (t:Tm):OkT t-> ∀ {k:Nat} (most:Int) (Y:Int->OS S),Fd k (ax t)-> ∃w,kE k t most Y=Y w:=by
 induction t using il with
 |h t ih1 ih2=>
  intro ht k most Y hk
  obtain ⟨q,rfl,hq,hf⟩:=hk.pos' (fq t)
  obtain ⟨o1,o2,o3,o4,o5,o6,o7⟩:=ht.no
  have hQ: ∀y∈t.kids,∀n (g:Int->OS S),∃w,kE q y n g=g w:=fun y hy n g=>ih1 y hy (ht.ki hy) n g (hf _ (eN hy))
  have hQ': ∀b∈t.sys,∀y∈b.kids,∀n (g:Int->OS S),∃w,kE q y n g=g w:=fun b hb y hy n g=>ih2 b hb y hy ((ht.bi hb).2 y hy) n g (hf _ (eX hb hy))
  simp only [kE,JQ]
  cases decide (((t.r.length:Nat):Int)>most) with
  |true=>exact ⟨_,rfl⟩
  |false=>
   rw [al]
   cases decide (((t.name.size:Nat):Int)>most) with
   |true=>exact ⟨_,rfl⟩
   |false=>
    rw [al]
    exact afB hq Y hQ hQ' ht t.kids [] q _ rfl (by omega)
end Go.Proofs.YtgajalidbabccaaGreatDoor
