/- hypercubelaw21.StepMains returns true for every term: which kid of a node is the main one is as the document has it; the card with an upper bound of the input's bulk. -/
import Derived.Test.YtfkkpkhfjpaafaaGreatDoorX4
import Derived.KernelRfl
namespace Go.Proofs.YtfkkpkhfjpaafaaGreatDoor
open Go PI
set_option linter.unusedVariables false
set_option maxRecDepth 100000
noncomputable section
def oy {S:Type} (k:Nat):Rw S:=aj adD cu fun a_e c0 κ=>aa k (iZ k a_e c0) (ahY κ)
def Wd {S:Type} (k:Nat):Fx S:=fp 13 [] [] k Tryz.f140 1
theorem pM {S:Type} (o:Obj) (ho:ai o) (k:Nat):Tl o 140 (oy k:Rw S):=ak (Wd k) trivial Tryz.func140 (by kernel_rfl) fun a_e c0 κ x h=>Eq.trans (by kernel_rfl) (al h)
def GK {S:Type} (k:Nat):Rw S:=aj EW xn fun l κ=>aa k (m9 k l) (AO κ)
def CZ {S:Type} (k:Nat):Fx S:=fp 22 [(21,iJ k),(140,oy k)] [(3,aS [3,8,9,10] [(7,1)],ap 5 11)] k Tryz.f80 0
def Nd (l:List Tm) (b7_0 v10:Int):St UU:=⟨[(3,(pt 7)),(8,(sT l)),(9,(.int .i64 (l.length:Int))),(10,(iI v10))],[(7,bI b7_0)],[],[]⟩
section
variable {S:Type} (k:Nat) (l:List Tm) (κ:Out UU→Option S)
theorem YX: ∀n b7_0 v10,(CZ k).lp κ 3 [] n (Nd l b7_0 v10)=pY k (AO κ) l n b7_0 v10:=aL (wL k (AO κ) l) rfl (fun _=>rfl) fun r b7_0 v10=>by kernel_rfl
end
theorem Kp {S:Type} (o:Obj) (ho:ai o) (k:Nat):Tl o 80 (GK k:Rw S):=ak (CZ k) ⟨jh o ho k,pM o ho k,trivial⟩ Tryz.func80 (by kernel_rfl) fun l κ x h=>Eq.trans (b:=Hs k (AO κ) (fun b7_0 v10=>(CZ k).lp κ 3 [] k (Nd l b7_0 v10)) l) (by kernel_rfl) (Eq.trans (by simp only [YX];rfl) (al h))
def my {S:Type} (k:Nat):Rw S:=aj EX cu fun c0 κ=>aa k (de k c0) (eJ c0 κ)
def We {S:Type} (k:Nat):Fx S:=fp 8 [] [] k Tryz.f84 1
theorem nq {S:Type} (o:Obj) (ho:ai o) (k:Nat):Tl o 84 (my k:Rw S):=ak (We k) trivial Tryz.func84 (by kernel_rfl) fun c0 κ x h=>Eq.trans (by kernel_rfl) (al h)
def Bd {S:Type} (k:Nat):Rw S:=aj adE xn fun l κ=>aa k (pi k l) (aE κ)
def C0 {S:Type} (k:Nat):Fx S:=fp 15 [(120,ow k)] [(2,aS [5,6,7] [],ap 4 5)] k Tryz.f124 0
def Nf (l:List (List Cl)) (v7:Int):St UU:=⟨[(5,(Hm l .none)),(6,(.int .i64 (l.length:Int))),(7,(iI v7))],[],[],[]⟩
section
variable {S:Type} (k:Nat) (l:List (List Cl)) (κ:Out UU→Option S)
theorem YY: ∀n v7,(C0 k).lp κ 2 [] n (Nf l v7)=qi k (aE κ) l n v7:=cF (w9 k (aE κ) l) rfl (fun _=>rfl) fun r v7=>by kernel_rfl
end
theorem Ei {S:Type} (o:Obj) (ho:ai o) (k:Nat):Tl o 124 (Bd k:Rw S):=ak (C0 k) ⟨pL o ho k,trivial⟩ Tryz.func124 (by kernel_rfl) fun l κ x h=>Eq.trans (b:=HT k (aE κ) (fun v7=>(C0 k).lp κ 2 [] k (Nf l v7)) l) (by kernel_rfl) (Eq.trans (by simp only [YY];rfl) (al h))
def GL {S:Type} (k:Nat):Rw S:=aj cn xn fun κ=>aa k (tK k) (ahZ κ)
def Wf {S:Type} (k:Nat):Fx S:=fx 1 (fun _=>[]) (fun _=>false) [] [] k Tryz.f126 false [true] 0
theorem Kq {S:Type} (o:Obj) (ho:ai o) (k:Nat):Tl o 126 (GL k:Rw S):=ak (Wf k) trivial Tryz.func126 (by kernel_rfl) fun κ x h=>Eq.trans (by kernel_rfl) (al h)
def GM {S:Type} (k:Nat):Rw S:=aj fU xn fun i κ=>aa k (pn k i) (b_ κ)
def Wg {S:Type} (k:Nat):Fx S:=fp 9 [] [] k Tryz.f230 0
theorem Kr {S:Type} (o:Obj) (ho:ai o) (k:Nat):Tl o 230 (GM k:Rw S):=ak (Wg k) trivial Tryz.func230 (by kernel_rfl) fun i κ x h=>Eq.trans (by kernel_rfl) (al h)
def PO {S:Type} (k:Nat):Rw S:=aj Li xn fun s a_from a_by κ=>aa k (lx k s a_from a_by) (vA κ)
def Wi {S:Type} (k:Nat):Fx S:=fp 46 [(230,GM k)] [] k Tryz.f166 0
theorem ab0 {S:Type} (o:Obj) (ho:ai o) (k:Nat):Tl o 166 (PO k:Rw S):=ak (Wi k) ⟨Kr o ho k,trivial⟩ Tryz.func166 (by kernel_rfl) fun s a_from a_by κ x h=>Eq.trans (by kernel_rfl) (al h)
def PP {S:Type} (k:Nat):Rw S:=aj Lj xn fun c a_from a_by κ=>aa k (yD k c a_from a_by) (N8 κ)
def Wj {S:Type} (k:Nat):Fx S:=fp 42 [(165,Gn k),(166,PO k)] [] k Tryz.f128 0
theorem ab1 {S:Type} (o:Obj) (ho:ai o) (k:Nat):Tl o 128 (PP k:Rw S):=ak (Wj k) ⟨J7 o ho k,ab0 o ho k,trivial⟩ Tryz.func128 (by kernel_rfl) fun c a_from a_by κ x h=>Eq.trans (by kernel_rfl) (al h)
def PQ {S:Type} (k:Nat):Rw S:=aj adF B9 fun a_have c c0 c1 κ=>aa k (DN k a_have c c0 c1) (ah0 c0 c1 κ)
def Wl {S:Type} (k:Nat):Fx S:=fx 22 (fun _=>[]) (fun _=>false) [(128,PP k)] [] k Tryz.f127 false [true,false] 2
theorem ab2 {S:Type} (o:Obj) (ho:ai o) (k:Nat):Tl o 127 (PQ k:Rw S):=ak (Wl k) ⟨ab1 o ho k,trivial⟩ Tryz.func127 (by kernel_rfl) fun a_have c c0 c1 κ x h=>Eq.trans (by kernel_rfl) (al h)
def PR {S:Type} (k:Nat):Rw S:=aj adG B9 fun l a_from c0 c1 κ=>aa k (yT k l a_from c0 c1) (AP c0 c1 κ)
def C1 {S:Type} (k:Nat):Fx S:=fx 33 (fun|23=>[true,false]|_=>[]) (fun _=>false) [(127,PQ k)] [(2,⟨[(1,some (100001,true)),(2,.none),(13,.none),(14,.none),(15,.none)],[(1000000,[.none]),(1000001,[.none])]⟩,ap 4 5)] k Tryz.f125 false [] 2
def Ng (c0 c1:Int) (l:List Cl) (v1:List Cl) (v15:Int):St UU:=⟨[(1,(.own 100001 0)),(2,(.func 127 [] [(pt 1000000),(pt 1000001)])),(13,(sC l)),(14,(.int .i64 (l.length:Int))),(15,(iI v15))],[(1000000,bI c0),(1000001,bI c1)],[(100001,⟨0,ET.C,v1⟩)],[(100001,.wr)]⟩
section
variable {S:Type} (k:Nat) (l a_from:List Cl) (c0 c1:Int) (κ:Out UU→Option S)
theorem YZ: ∀n v1 v15,(C1 k).lp κ 2 [] n (Ng c0 c1 l v1 v15)=qf k (AP c0 c1 κ) c0 c1 l n v1 v15:=aL (w6 k (AP c0 c1 κ) c0 c1 l) rfl (fun _=>rfl) fun r v1 v15=>by kernel_rfl
end
theorem ab3 {S:Type} (o:Obj) (ho:ai o) (k:Nat):Tl o 125 (PR k:Rw S):=ak (C1 k) ⟨ab2 o ho k,trivial⟩ Tryz.func125 (by kernel_rfl) fun l a_from c0 c1 κ x h=>Eq.trans (b:=HQ k (AP c0 c1 κ) (fun v1 v15=>(C1 k).lp κ 2 [] k (Ng c0 c1 l v1 v15)) l a_from c0 c1) (by kernel_rfl) (Eq.trans (by simp only [YZ];rfl) (al h))
def oz {S:Type} (k:Nat):Rw S:=aj EY xn fun f a_from a_by κ=>aa k (jV k f a_from a_by) (az κ)
def Wm {S:Type} (k:Nat):Fx S:=fx 31 (fun|21=>[false,true,false]|_=>[]) (fun _=>false) [(124,Bd k),(125,PR k),(126,GL k),(129,jz k)] [] k Tryz.f75 false [] 0
theorem pN {S:Type} (o:Obj) (ho:ai o) (k:Nat):Tl o 75 (oz k:Rw S):=ak (Wm k) ⟨Ei o ho k,ab3 o ho k,Kq o ho k,j_ o ho k,trivial⟩ Tryz.func75 (by kernel_rfl) fun f a_from a_by κ x h=>Eq.trans (by kernel_rfl) (al h)
def PS {S:Type} (k:Nat):Rw S:=aj adH xn fun l_0 l_1 f a_from κ=>aa k (tN k l_0 l_1 f a_from) (ah1 κ)
def Wn {S:Type} (k:Nat):Fx S:=fp 31 [(75,oz k)] [] k Tryz.f142 0
theorem ab4 {S:Type} (o:Obj) (ho:ai o) (k:Nat):Tl o 142 (PS k:Rw S):=ak (Wn k) ⟨pN o ho k,trivial⟩ Tryz.func142 (by kernel_rfl) fun l_0 l_1 f a_from κ x h=>Eq.trans (by kernel_rfl) (al h)
def vO {S:Type} (hd:fJ S):Rw S:=aj adI xn fun l_0 l_1 t v d κ=>hd l_0 l_1 t v d (ah κ)
def jQ {S:Type} (hd:fJ S) (k:Nat):Fx S:=fp 128 [(36,jA k),(90,vO hd),(142,PS k)] [(1000006,⟨[(2,.none),(3,.none),(4,.none),(5,.none),(8,.none),(9,.none)],[(4,[.none,.none]),(5,[.none,.none,.none,.none,.none,.none]),(8,[.none,.none,.none,some (200515,true),some (200516,true),some (200517,true)]),(9,[.none,.none,.none,.none,some (200580,true),some (200581,true)])]⟩,ap 3 7),(7,⟨[(2,.none),(3,.none),(4,.none),(5,.none),(8,.none),(9,.none),(55,.none),(56,.none),(57,.none)],[(4,[.none,.none]),(5,[.none,.none,.none,.none,.none,.none]),(8,[.none,.none,.none,some (200515,true),some (200516,true),some (200517,true)]),(9,[.none,.none,.none,.none,some (200580,true),some (200581,true)])]⟩,ap 6 23),(16,⟨[(2,.none),(3,.none),(4,.none),(8,.none),(9,.none),(14,.none),(88,.none),(89,.none),(90,.none)],[(4,[.none,.none]),(8,[.none,.none,.none,some (200515,true),some (200516,true),some (200517,true)]),(9,[.none,.none,.none,.none,some (200580,true),some (200581,true)])]⟩,ap 9 191),(20,⟨[(2,.none),(3,.none),(4,.none),(8,.none),(9,.none),(14,.none),(17,.none),(88,.none),(89,.none),(90,.none),(101,.none),(102,.none),(103,.none)],[(4,[.none,.none]),(8,[.none,.none,.none,some (200515,true),some (200516,true),some (200517,true)]),(9,[.none,.none,.none,.none,some (200580,true),some (200581,true)]),(17,[.none,some (201089,true)])]⟩,ap 19 183487)] k Tryz.f90 0
def Nh (l_0 l_1:Int) (t:Tm) (r2:List Cl) (v d:Int) (b9_1:Int):St UU:=⟨[(2,(iI v)),(3,(iI d)),(4,(pt 4)),(5,(pt 5)),(8,(pt 8)),(9,(pt 9))],[(4,.cells [(iI l_0),(iI l_1)]),(5,bT t),(8,.cells [(iI 0),(iI 0),(.str ByteArray.empty),(.own 200515 0),(.own 200516 0),(.own 200517 0)]),(9,.cells [(iI t.kind),(iI b9_1),(.str t.name),(sC r2),(.own 200580 0),(.own 200581 0)])],[(200581,⟨0,ET.B,([]:List (Br Tm))⟩),(200580,⟨0,ET.T,([]:List Tm)⟩),(200517,⟨0,ET.B,([]:List (Br Tm))⟩),(200516,⟨0,ET.T,([]:List Tm)⟩),(200515,⟨0,ET.C,([]:List Cl)⟩)],[(200581,.wr),(200580,.wr),(200517,.wr),(200516,.wr),(200515,.wr)]⟩
def FI (l_0 l_1:Int) (t:Tm) (b9_1:Int) (r2:List Cl) (v d:Int) (b9_4:List Tm) (v57:Int):St UU:=⟨[(2,(iI v)),(3,(iI d)),(4,(pt 4)),(5,(pt 5)),(8,(pt 8)),(9,(pt 9)),(55,(sT t.kids)),(56,(.int .i64 (t.kids.length:Int))),(57,(iI v57))],[(4,.cells [(iI l_0),(iI l_1)]),(5,bT t),(8,.cells [(iI 0),(iI 0),(.str ByteArray.empty),(.own 200515 0),(.own 200516 0),(.own 200517 0)]),(9,.cells [(iI t.kind),(iI b9_1),(.str t.name),(sC r2),(.own 200580 0),(.own 200581 0)])],[(200581,⟨0,ET.B,([]:List (Br Tm))⟩),(200580,⟨0,ET.T,b9_4⟩),(200517,⟨0,ET.B,([]:List (Br Tm))⟩),(200516,⟨0,ET.T,([]:List Tm)⟩),(200515,⟨0,ET.C,([]:List Cl)⟩)],[(200581,.wr),(200580,.wr),(200517,.wr),(200516,.wr),(200515,.wr)]⟩
def vj (l_0 l_1:Int) (t:Tm) (b9_1:Int) (r2:List Cl) (b9_4:List Tm) (v d:Int) (b9_5:List (Br Tm)) (more14 v90:Int):St UU:=⟨[(2,(iI v)),(3,(iI d)),(4,(pt 4)),(8,(pt 8)),(9,(pt 9)),(14,(iI more14)),(88,(sB t.sys)),(89,(.int .i64 (t.sys.length:Int))),(90,(iI v90))],[(4,.cells [(iI l_0),(iI l_1)]),(8,.cells [(iI 0),(iI 0),(.str ByteArray.empty),(.own 200515 0),(.own 200516 0),(.own 200517 0)]),(9,.cells [(iI t.kind),(iI b9_1),(.str t.name),(sC r2),(.own 200580 0),(.own 200581 0)])],[(200581,⟨0,ET.B,b9_5⟩),(200580,⟨0,ET.T,b9_4⟩),(200517,⟨0,ET.B,([]:List (Br Tm))⟩),(200516,⟨0,ET.T,([]:List Tm)⟩),(200515,⟨0,ET.C,([]:List Cl)⟩)],[(200581,.wr),(200580,.wr),(200517,.wr),(200516,.wr),(200515,.wr)]⟩
def Ni (r12:List Cl) (l_0 l_1:Int) (t:Tm) (b9_1:Int) (r2:List Cl) (b9_4:List Tm) (b9_5:List (Br Tm)) (x10:(Br Tm)) (more14 v d v90:Int) (b17_1:List Tm) (v103:Int):St UU:=⟨[(2,(iI v)),(3,(iI d)),(4,(pt 4)),(8,(pt 8)),(9,(pt 9)),(14,(iI more14)),(17,(pt 17)),(88,(sB t.sys)),(89,(.int .i64 (t.sys.length:Int))),(90,(iI v90)),(101,(sT x10.kids)),(102,(.int .i64 (x10.kids.length:Int))),(103,(iI v103))],[(4,.cells [(iI l_0),(iI l_1)]),(8,.cells [(iI 0),(iI 0),(.str ByteArray.empty),(.own 200515 0),(.own 200516 0),(.own 200517 0)]),(9,.cells [(iI t.kind),(iI b9_1),(.str t.name),(sC r2),(.own 200580 0),(.own 200581 0)]),(17,.cells [(sC r12),(.own 201089 0)])],[(201089,⟨0,ET.T,b17_1⟩),(200581,⟨0,ET.B,b9_5⟩),(200580,⟨0,ET.T,b9_4⟩),(200517,⟨0,ET.B,([]:List (Br Tm))⟩),(200516,⟨0,ET.T,([]:List Tm)⟩),(200515,⟨0,ET.C,([]:List Cl)⟩)],[(201089,.wr),(200581,.wr),(200580,.wr),(200517,.wr),(200516,.wr),(200515,.wr)]⟩
section
variable {S:Type} (hd:fJ S) (k:Nat) (l_0 l_1:Int) (t:Tm) (v d:Int) (κ:Out UU→Option S)
theorem Y3 (r12 b9_1 r2 b9_4 b9_5 x10 more14 v90 κ2): ∀n b17_1 v103,(jQ hd k).lp κ 20 [κ2] n (Ni r12 l_0 l_1 t b9_1 r2 b9_4 b9_5 x10 more14 v d v90 b17_1 v103)=l7 hd k (ah κ) (fun b9_5 more14 v90=>κ2 (vj l_0 l_1 t b9_1 r2 b9_4 v d b9_5 more14 v90)) r12 l_0 l_1 t b9_1 r2 b9_4 b9_5 x10 more14 v d v90 n b17_1 v103:=aL (xe hd k (ah κ) r12 l_0 l_1 t b9_1 r2 b9_4 b9_5 x10 more14 v d v90 (fun b9_5 more14 v90=>κ2 (vj l_0 l_1 t b9_1 r2 b9_4 v d b9_5 more14 v90))) rfl (fun _=>rfl) fun r b17_1 v103=>by kernel_rfl
theorem Y2 (b9_1 r2 b9_4): ∀n b9_5 more14 v90,(jQ hd k).lp κ 16 [] n (vj l_0 l_1 t b9_1 r2 b9_4 v d b9_5 more14 v90)=it hd k (ah κ) l_0 l_1 t b9_1 r2 b9_4 v d n b9_5 more14 v90:=eW (fun own=>sA hd k (ah κ) l_0 l_1 t b9_1 r2 b9_4 v d (fun r12 b9_5 x10 more14 v90 b17_1 v103=>l7 hd k (ah κ) own r12 l_0 l_1 t b9_1 r2 b9_4 b9_5 x10 more14 v d v90 k b17_1 v103) own) rfl (fun _=>rfl) fun r b9_5 more14 v90=>Eq.trans (b:=sA hd k (ah κ) l_0 l_1 t b9_1 r2 b9_4 v d (fun r12 b9_5 x10 more14 v90 b17_1 v103=>(jQ hd k).lp κ 20 [r] k (Ni r12 l_0 l_1 t b9_1 r2 b9_4 b9_5 x10 more14 v d v90 b17_1 v103)) (fun b9_5 more14 v90=>r (vj l_0 l_1 t b9_1 r2 b9_4 v d b9_5 more14 v90)) b9_5 more14 v90) (by kernel_rfl) (by simp only [Y3])
theorem Y1 (b9_1 r2): ∀n b9_4 v57,(jQ hd k).lp κ 7 [] n (FI l_0 l_1 t b9_1 r2 v d b9_4 v57)=kr hd k (ah κ) l_0 l_1 t b9_1 r2 v d n b9_4 v57:=aL (fun own=>sz hd k (ah κ) l_0 l_1 t b9_1 r2 v d (fun b9_4 b9_5 more14 v90=>it hd k (ah κ) l_0 l_1 t b9_1 r2 b9_4 v d k b9_5 more14 v90) own) rfl (fun _=>rfl) fun r b9_4 v57=>Eq.trans (b:=sz hd k (ah κ) l_0 l_1 t b9_1 r2 v d (fun b9_4 b9_5 more14 v90=>(jQ hd k).lp κ 16 [] k (vj l_0 l_1 t b9_1 r2 b9_4 v d b9_5 more14 v90)) (fun b9_4 v57=>r (FI l_0 l_1 t b9_1 r2 v d b9_4 v57)) b9_4 v57) (by kernel_rfl) (by simp only [Y2])
theorem Y0 (r2): ∀n b9_1,(jQ hd k).jn κ 1000006 [] n (Nh l_0 l_1 t r2 v d b9_1)=uJ hd k (ah κ) l_0 l_1 t r2 v d n b9_1:=nx (Da hd k (ah κ) l_0 l_1 t r2 v d (fun b9_1 b9_4 v57=>kr hd k (ah κ) l_0 l_1 t b9_1 r2 v d k b9_4 v57)) rfl (fun _=>rfl) (fun b9_1=>Eq.trans (b:=Da hd k (ah κ) l_0 l_1 t r2 v d (fun b9_1 b9_4 v57=>(jQ hd k).lp κ 7 [] k (FI l_0 l_1 t b9_1 r2 v d b9_4 v57)) b9_1) (by kernel_rfl) (by simp only [Y1]))
end
theorem Ab {S:Type} (o:Obj) (ho:ai o): ∀k:Nat,Tl o 90 (vO (dk k:fJ S))
 |0=>dz fun l_0 l_1 t v d κ x h=>by cases h
 |k+1=>ak (jQ (dk k) k) ⟨kc o ho k,Ab o ho k,ab4 o ho k,trivial⟩ Tryz.func90 (by kernel_rfl) fun l_0 l_1 t v d κ x h=>Eq.trans (b:=HY (dk k) k (ah κ) (fun r2 b9_1=>(jQ (dk k) k).jn κ 1000006 [] k (Nh l_0 l_1 t r2 v d b9_1)) l_0 l_1 t v d) (by kernel_rfl) (Eq.trans (by simp only [Y0];rfl) h)
def PT {S:Type} (k:Nat):Rw S:=aj EZ Uu fun c0 c1 c2 κ=>aa k (yW k c0 c1 c2) (ah2 c0 c1 c2 κ)
def Wo {S:Type} (k:Nat):Fx S:=fp 11 [(90,vO (dk k))] [] k Tryz.f97 3
theorem ab5 {S:Type} (o:Obj) (ho:ai o) (k:Nat):Tl o 97 (PT k:Rw S):=ak (Wo k) ⟨Ab o ho k,trivial⟩ Tryz.func97 (by kernel_rfl) fun c0 c1 c2 κ x h=>Eq.trans (by kernel_rfl) (al h)
def PW {S:Type} (k:Nat):Rw S:=aj adJ Uu fun t numbers c0 c1 c2 κ=>aa k (y7 k t numbers c0 c1 c2) (AQ c0 c1 c2 κ)
def C2 {S:Type} (k:Nat):Fx S:=⟨⟨30,(fun _=>[]),(fun _=>false),.none,fun|6=>true|7=>true|_=>false⟩,[(21,iJ k),(97,PT k)],[(5,⟨[(2,.none),(6,.none),(7,.none),(17,.none),(18,.none),(19,.none)],[(1000000,[.none]),(1000001,[.none]),(1000002,[.none,.none,.none,.none,.none,.none]),(5000006,[.none,.none,.none,some (320200387,true),some (320200388,true),some (320200389,true)]),(5000007,[.none])]⟩,ap 5 11)],k,Tryz.f88,false,[],3,some (o9 16 141 Tryz.f141 k)⟩
def Nj (c0 c1:Int) (c2:Tm) (numbers:List Int) (v19:Int):St UU:=⟨[(2,(.func 97 [] [(pt 1000000),(pt 1000001),(pt 1000002)])),(6,(pt 5000006)),(7,(pt 5000007)),(17,(la numbers .none)),(18,(.int .i64 (numbers.length:Int))),(19,(iI v19))],[(1000000,bI c0),(1000001,bI c1),(1000002,bT c2),(5000006,.cells [(iI 0),(iI 0),(.str ByteArray.empty),(.own 320200387 0),(.own 320200388 0),(.own 320200389 0)]),(5000007,bI 0)],[(320200389,⟨0,ET.B,([]:List (Br Tm))⟩),(320200388,⟨0,ET.T,([]:List Tm)⟩),(320200387,⟨0,ET.C,([]:List Cl)⟩)],[(320200389,.wr),(320200388,.wr),(320200387,.wr)]⟩
section
variable {S:Type} (k:Nat) (t:Tm) (numbers:List Int) (c0 c1:Int) (c2:Tm) (κ:Out UU→Option S)
theorem Y4: ∀n v19,(C2 k).lp κ 5 [] n (Nj c0 c1 c2 numbers v19)=nE k (AQ c0 c1 c2 κ) c0 c1 c2 numbers n v19:=cF (xd k (AQ c0 c1 c2 κ) c0 c1 c2 numbers) rfl (fun _=>rfl) fun r v19=>by kernel_rfl
end
theorem ab6 {S:Type} (o:Obj) (ho:ai o) (k:Nat):Tl o 88 (PW k:Rw S):=BZ (C2 k) rfl (yn o Tryz.func141 (by kernel_rfl)) ⟨jh o ho k,ab5 o ho k,trivial⟩ Tryz.func88 (by kernel_rfl) fun t numbers c0 c1 c2 κ x h=>Eq.trans (b:=BS k (AQ c0 c1 c2 κ) (fun v19=>(C2 k).lp κ 5 [] k (Nj c0 c1 c2 numbers v19)) t numbers c0 c1 c2) (by kernel_rfl) (Eq.trans (by simp only [Y4];rfl) (al h))
def Be {S:Type} (k:Nat):Rw S:=aj jd xn fun t vars dims κ=>aa k (lu k t vars dims) (cM κ)
def Wp {S:Type} (k:Nat):Fx S:=fp 18 [(88,PW k)] [] k Tryz.f56 0
theorem Ej {S:Type} (o:Obj) (ho:ai o) (k:Nat):Tl o 56 (Be k:Rw S):=ak (Wp k) ⟨ab6 o ho k,trivial⟩ Tryz.func56 (by kernel_rfl) fun t vars dims κ x h=>Eq.trans (by kernel_rfl) (al h)
def PY {S:Type} (k:Nat):Rw S:=aj E0 cu fun t vars dims c0 κ=>aa k (hU k t vars dims c0) (gR κ)
def Wq {S:Type} (k:Nat):Fx S:=fp 30 [(56,Be k),(84,my k),(140,oy k)] [] k Tryz.f83 1
theorem ab8 {S:Type} (o:Obj) (ho:ai o) (k:Nat):Tl o 83 (PY k:Rw S):=ak (Wq k) ⟨Ej o ho k,nq o ho k,pM o ho k,trivial⟩ Tryz.func83 (by kernel_rfl) fun t vars dims c0 κ x h=>Eq.trans (by kernel_rfl) (al h)
def GN {S:Type} (k:Nat):Rw S:=aj Ai cu fun t c0 κ=>aa k (eQ k t c0) (ah3 κ)
def Wr {S:Type} (k:Nat):Fx S:=fp 28 [(21,iJ k),(84,my k),(140,oy k)] [] k Tryz.f87 1
theorem Ks {S:Type} (o:Obj) (ho:ai o) (k:Nat):Tl o 87 (GN k:Rw S):=ak (Wr k) ⟨jh o ho k,nq o ho k,pM o ho k,trivial⟩ Tryz.func87 (by kernel_rfl) fun t c0 κ x h=>Eq.trans (by kernel_rfl) (al h)
def PZ {S:Type} (k:Nat):Rw S:=aj adK cu fun f c0 κ=>aa k (tA k f c0) (N9 κ)
def Ws {S:Type} (k:Nat):Fx S:=fp 23 [(75,oz k),(84,my k),(140,oy k)] [] k Tryz.f85 1
theorem ab9 {S:Type} (o:Obj) (ho:ai o) (k:Nat):Tl o 85 (PZ k:Rw S):=ak (Ws k) ⟨pN o ho k,nq o ho k,pM o ho k,trivial⟩ Tryz.func85 (by kernel_rfl) fun f c0 κ x h=>Eq.trans (by kernel_rfl) (al h)
def P0 {S:Type} (k:Nat):Rw S:=aj EZ B_ fun c0 c1 c2 κ=>aa k (yX k c0 c1 c2) (N_ c0 c1 c2 κ)
def Wt {S:Type} (k:Nat):Fx S:=fp 10 [(90,vO (dk k))] [] k Tryz.f91 3
theorem ab_ {S:Type} (o:Obj) (ho:ai o) (k:Nat):Tl o 91 (P0 k:Rw S):=ak (Wt k) ⟨Ab o ho k,trivial⟩ Tryz.func91 (by kernel_rfl) fun c0 c1 c2 κ x h=>Eq.trans (by kernel_rfl) (al h)
def P1 {S:Type} (k:Nat):Rw S:=aj adL B_ fun t numbers c0 c1 c2 κ=>aa k (yZ k t numbers c0 c1 c2) (mt c0 c1 c2 κ)
def C3 {S:Type} (k:Nat):Fx S:=⟨⟨30,(fun _=>[]),(fun _=>false),.none,fun|6=>true|7=>true|_=>false⟩,[(21,iJ k),(91,P0 k)],[(5,⟨[(2,.none),(6,.none),(7,.none),(17,.none),(18,.none),(19,.none)],[(1000000,[.none]),(1000001,[.none,.none,.none,.none,.none,.none]),(1000002,[.none]),(5000006,[.none,.none,.none,some (320200387,true),some (320200388,true),some (320200389,true)]),(5000007,[.none])]⟩,ap 5 11)],k,Tryz.f88,false,[],3,some (o9 16 141 Tryz.f141 k)⟩
def Nk (c0:Int) (c1:Tm) (c2:Int) (numbers:List Int) (v19:Int):St UU:=⟨[(2,(.func 91 [] [(pt 1000000),(pt 1000001),(pt 1000002)])),(6,(pt 5000006)),(7,(pt 5000007)),(17,(la numbers .none)),(18,(.int .i64 (numbers.length:Int))),(19,(iI v19))],[(1000000,bI c0),(1000001,bT c1),(1000002,bI c2),(5000006,.cells [(iI 0),(iI 0),(.str ByteArray.empty),(.own 320200387 0),(.own 320200388 0),(.own 320200389 0)]),(5000007,bI 0)],[(320200389,⟨0,ET.B,([]:List (Br Tm))⟩),(320200388,⟨0,ET.T,([]:List Tm)⟩),(320200387,⟨0,ET.C,([]:List Cl)⟩)],[(320200389,.wr),(320200388,.wr),(320200387,.wr)]⟩
section
variable {S:Type} (k:Nat) (t:Tm) (numbers:List Int) (c0:Int) (c1:Tm) (c2:Int) (κ:Out UU→Option S)
theorem Y5: ∀n v19,(C3 k).lp κ 5 [] n (Nk c0 c1 c2 numbers v19)=nC k (mt c0 c1 c2 κ) c0 c1 c2 numbers n v19:=cF (xa k (mt c0 c1 c2 κ) c0 c1 c2 numbers) rfl (fun _=>rfl) fun r v19=>by kernel_rfl
end
theorem aca {S:Type} (o:Obj) (ho:ai o) (k:Nat):Tl o 88 (P1 k:Rw S):=BZ (C3 k) rfl (yn o Tryz.func141 (by kernel_rfl)) ⟨jh o ho k,ab_ o ho k,trivial⟩ Tryz.func88 (by kernel_rfl) fun t numbers c0 c1 c2 κ x h=>Eq.trans (b:=BQ k (mt c0 c1 c2 κ) (fun v19=>(C3 k).lp κ 5 [] k (Nk c0 c1 c2 numbers v19)) t numbers c0 c1 c2) (by kernel_rfl) (Eq.trans (by simp only [Y5];rfl) (al h))
def Bf {S:Type} (k:Nat):Rw S:=aj jd xn fun t a_from a_by κ=>aa k (lv k t a_from a_by) (cM κ)
def Wu {S:Type} (k:Nat):Fx S:=fp 16 [(88,P1 k)] [] k Tryz.f54 0
theorem Ek {S:Type} (o:Obj) (ho:ai o) (k:Nat):Tl o 54 (Bf k:Rw S):=ak (Wu k) ⟨aca o ho k,trivial⟩ Tryz.func54 (by kernel_rfl) fun t a_from a_by κ x h=>Eq.trans (by kernel_rfl) (al h)
def vP {S:Type} (k:Nat):Rw S:=aj lS xn fun s i κ=>aa k (i_ k s i) (b_ κ)
def Wv {S:Type} (k:Nat):Fx S:=fp 16 [(257,vL k)] [] k Tryz.f259 0
theorem zO {S:Type} (o:Obj) (ho:ai o) (k:Nat):Tl o 259 (vP k:Rw S):=ak (Wv k) ⟨zN o ho k,trivial⟩ Tryz.func259 (by kernel_rfl) fun s i κ x h=>Eq.trans (by kernel_rfl) (al h)
def P2 {S:Type} (k:Nat):Rw S:=aj uG xn fun a_x κ=>aa k (JH k a_x) (aE κ)
def Ww {S:Type} (k:Nat):Fx S:=fp 21 [] [] k Tryz.f291 0
theorem acb {S:Type} (o:Obj) (ho:ai o) (k:Nat):Tl o 291 (P2 k:Rw S):=ak (Ww k) trivial Tryz.func291 (by kernel_rfl) fun a_x κ x h=>Eq.trans (by kernel_rfl) (al h)
def Bg {S:Type} (k:Nat):Rw S:=aj uG xn fun s κ=>aa k (lw k s) (aE κ)
def Wx {S:Type} (k:Nat):Fx S:=fp 6 [(291,P2 k)] [] k Tryz.f258 0
theorem Em {S:Type} (o:Obj) (ho:ai o) (k:Nat):Tl o 258 (Bg k:Rw S):=ak (Wx k) ⟨acb o ho k,trivial⟩ Tryz.func258 (by kernel_rfl) fun s κ x h=>Eq.trans (by kernel_rfl) (al h)
def P3 {S:Type} (k:Nat):Rw S:=aj fU xn fun i κ=>aa k (yE k i) (aA κ)
def Wy {S:Type} (k:Nat):Fx S:=fp 7 [(258,Bg k),(259,vP k)] [] k Tryz.f216 0
theorem acd {S:Type} (o:Obj) (ho:ai o) (k:Nat):Tl o 216 (P3 k:Rw S):=ak (Wy k) ⟨Em o ho k,zO o ho k,trivial⟩ Tryz.func216 (by kernel_rfl) fun i κ x h=>Eq.trans (by kernel_rfl) (al h)
def P4 {S:Type} (k:Nat):Rw S:=aj E1 xn fun t i a_r κ=>aa k (DM k t i a_r) (aE κ)
def Wz {S:Type} (k:Nat):Fx S:=fp 21 [(21,iJ k),(120,ow k),(216,P3 k)] [] k Tryz.f161 0
theorem ace {S:Type} (o:Obj) (ho:ai o) (k:Nat):Tl o 161 (P4 k:Rw S):=ak (Wz k) ⟨jh o ho k,pL o ho k,acd o ho k,trivial⟩ Tryz.func161 (by kernel_rfl) fun t i a_r κ x h=>Eq.trans (by kernel_rfl) (al h)
def P5 {S:Type} (k:Nat):Rw S:=aj Lk wD fun c0 c1 κ=>aa k (DG k c0 c1) (ah4 c0 c1 κ)
def WA {S:Type} (k:Nat):Fx S:=fp 6 [] [] k Tryz.f217 2
theorem acf {S:Type} (o:Obj) (ho:ai o) (k:Nat):Tl o 217 (P5 k:Rw S):=ak (WA k) trivial Tryz.func217 (by kernel_rfl) fun c0 c1 κ x h=>Eq.trans (by kernel_rfl) (al h)
def P6 {S:Type} (k:Nat):Rw S:=aj adM wD fun c0 c1 κ=>aa k (DH k c0 c1) (ah5 c0 c1 κ)
def WB {S:Type} (k:Nat):Fx S:=fp 6 [] [] k Tryz.f217 2
theorem acg {S:Type} (o:Obj) (ho:ai o) (k:Nat):Tl o 217 (P6 k:Rw S):=ak (WB k) trivial Tryz.func217 (by kernel_rfl) fun c0 c1 κ x h=>Eq.trans (by kernel_rfl) (al h)
def P7 {S:Type} (k:Nat):Rw S:=aj adN xn fun i a_r κ=>aa k (DF k i a_r) (ah6 κ)
def WC {S:Type} (k:Nat):Fx S:=fp 12 [(217,ol (uy Lk wD) (P5 k) (P6 k))] [] k Tryz.f162 0
theorem ach {S:Type} (o:Obj) (ho:ai o) (k:Nat):Tl o 162 (P7 k:Rw S):=ak (WC k) ⟨vw (acf o ho k) (acg o ho k),trivial⟩ Tryz.func162 (by kernel_rfl) fun i a_r κ x h=>Eq.trans (by kernel_rfl) (al h)
def vQ {S:Type} (k:Nat):Rw S:=aj lS xn fun s i κ=>aa k (aD k s i) (aA κ)
def WD {S:Type} (k:Nat):Fx S:=fp 15 [(257,vL k)] [] k Tryz.f219 0
theorem zP {S:Type} (o:Obj) (ho:ai o) (k:Nat):Tl o 219 (vQ k:Rw S):=ak (WD k) ⟨zN o ho k,trivial⟩ Tryz.func219 (by kernel_rfl) fun s i κ x h=>Eq.trans (by kernel_rfl) (al h)
def GO {S:Type} (k:Nat):Rw S:=aj eo xn fun f κ=>aa k (tD k f) (fB κ)
def WE {S:Type} (k:Nat):Fx S:=fp 5 [] [] k Tryz.f220 0
theorem Kt {S:Type} (o:Obj) (ho:ai o) (k:Nat):Tl o 220 (GO k:Rw S):=ak (WE k) trivial Tryz.func220 (by kernel_rfl) fun f κ x h=>Eq.trans (by kernel_rfl) (al h)
def P8 {S:Type} (k:Nat):Rw S:=aj fU xn fun i κ=>aa k (yK k i) (aA κ)
def WF {S:Type} (k:Nat):Fx S:=fp 7 [(258,Bg k),(259,vP k)] [] k Tryz.f265 0
theorem aci {S:Type} (o:Obj) (ho:ai o) (k:Nat):Tl o 265 (P8 k:Rw S):=ak (WF k) ⟨Em o ho k,zO o ho k,trivial⟩ Tryz.func265 (by kernel_rfl) fun i κ x h=>Eq.trans (by kernel_rfl) (al h)
def GP {S:Type} (k:Nat):Rw S:=aj ny xn fun c κ=>aa k (tJ k c) (ah7 κ)
def WG {S:Type} (k:Nat):Fx S:=fp 8 [(160,GH k)] [] k Tryz.f295 0
theorem Ku {S:Type} (o:Obj) (ho:ai o) (k:Nat):Tl o 295 (GP k:Rw S):=ak (WG k) ⟨Kl o ho k,trivial⟩ Tryz.func295 (by kernel_rfl) fun c κ x h=>Eq.trans (by kernel_rfl) (al h)
def P9 {S:Type} (k:Nat):Rw S:=aj adO xn fun l κ=>aa k (yN k l) (fB κ)
def C4 {S:Type} (k:Nat):Fx S:=fp 29 [(295,GP k)] [(3,⟨[(1,.none),(5,some (100005,true)),(10,.none),(11,.none),(12,.none)],[]⟩,ap 5 11)] k Tryz.f294 0
def Nm (l:List Cl) (v12:Int) (out5:List Cl):St UU:=⟨[(1,(.func 295 [] [])),(5,(.own 100005 0)),(10,(sC l)),(11,(.int .i64 (l.length:Int))),(12,(iI v12))],[],[(100005,⟨0,ET.C,out5⟩)],[(100005,.wr)]⟩
section
variable {S:Type} (k:Nat) (l:List Cl) (κ:Out UU→Option S)
theorem Y9: ∀n v12 out5,(C4 k).lp κ 3 [] n (Nm l v12 out5)=p9 k (fB κ) l n v12 out5:=aL (wW k (fB κ) l) rfl (fun _=>rfl) fun r v12 out5=>by kernel_rfl
end
theorem acj {S:Type} (o:Obj) (ho:ai o) (k:Nat):Tl o 294 (P9 k:Rw S):=ak (C4 k) ⟨Ku o ho k,trivial⟩ Tryz.func294 (by kernel_rfl) fun l κ x h=>Eq.trans (b:=HJ k (fB κ) (fun v12 out5=>(C4 k).lp κ 3 [] k (Nm l v12 out5)) l) (by kernel_rfl) (Eq.trans (by simp only [Y9];rfl) (al h))
def GQ {S:Type} (k:Nat):Rw S:=aj eo xn fun f κ=>aa k (tI k f) (az κ)
def WH {S:Type} (k:Nat):Fx S:=fp 12 [(120,ow k),(129,jz k),(294,P9 k)] [] k Tryz.f266 0
theorem Kv {S:Type} (o:Obj) (ho:ai o) (k:Nat):Tl o 266 (GQ k:Rw S):=ak (WH k) ⟨pL o ho k,j_ o ho k,acj o ho k,trivial⟩ Tryz.func266 (by kernel_rfl) fun f κ x h=>Eq.trans (by kernel_rfl) (al h)
def P_ {S:Type} (k:Nat):Rw S:=aj EU wC fun b c0 κ=>aa k (yO k b c0) (ah8 c0 κ)
def WJ {S:Type} (k:Nat):Fx S:=fp 11 [(231,A7 k),(295,GP k)] [] k Tryz.f296 1
theorem ack {S:Type} (o:Obj) (ho:ai o) (k:Nat):Tl o 296 (P_ k:Rw S):=ak (WJ k) ⟨Eb o ho k,Ku o ho k,trivial⟩ Tryz.func296 (by kernel_rfl) fun b c0 κ x h=>Eq.trans (by kernel_rfl) (al h)
def Qa {S:Type} (k:Nat):Rw S:=aj adP wC fun l c0 κ=>aa k (yM k l c0) (AR c0 κ)
def C5 {S:Type} (k:Nat):Fx S:=fp 29 [(296,P_ k)] [(3,⟨[(1,.none),(5,some (100005,true)),(10,.none),(11,.none),(12,.none)],[(1000000,[.none,.none])]⟩,ap 5 11)] k Tryz.f294 1
def Np (c0:Cl) (l:List Cl) (v12:Int) (out5:List Cl):St UU:=⟨[(1,(.func 296 [] [(pt 1000000)])),(5,(.own 100005 0)),(10,(sC l)),(11,(.int .i64 (l.length:Int))),(12,(iI v12))],[(1000000,bC c0)],[(100005,⟨0,ET.C,out5⟩)],[(100005,.wr)]⟩
section
variable {S:Type} (k:Nat) (l:List Cl) (c0:Cl) (κ:Out UU→Option S)
theorem Zc: ∀n v12 out5,(C5 k).lp κ 3 [] n (Np c0 l v12 out5)=p8 k (AR c0 κ) c0 l n v12 out5:=aL (wV k (AR c0 κ) c0 l) rfl (fun _=>rfl) fun r v12 out5=>by kernel_rfl
end
theorem acl {S:Type} (o:Obj) (ho:ai o) (k:Nat):Tl o 294 (Qa k:Rw S):=ak (C5 k) ⟨ack o ho k,trivial⟩ Tryz.func294 (by kernel_rfl) fun l c0 κ x h=>Eq.trans (b:=HI k (AR c0 κ) (fun v12 out5=>(C5 k).lp κ 3 [] k (Np c0 l v12 out5)) l c0) (by kernel_rfl) (Eq.trans (by simp only [Zc];rfl) (al h))
def Qb {S:Type} (k:Nat):Rw S:=aj jk xn fun f g κ=>aa k (pe k f g) (az κ)
def C6 {S:Type} (k:Nat):Fx S:=fp 25 [(129,jz k),(294,Qa k)] [(3,⟨[(1,.none),(6,some (100006,true)),(9,.none),(10,.none),(11,.none)],[]⟩,ap 5 11)] k Tryz.f267 0
def Nq (g f:List Cl) (v11:Int) (out6:List Cl):St UU:=⟨[(1,(sC g)),(6,(.own 100006 0)),(9,(sC f)),(10,(.int .i64 (f.length:Int))),(11,(iI v11))],[],[(100006,⟨0,ET.C,out6⟩)],[(100006,.wr)]⟩
section
variable {S:Type} (k:Nat) (f g:List Cl) (κ:Out UU→Option S)
theorem Zd: ∀n v11 out6,(C6 k).lp κ 3 [] n (Nq g f v11 out6)=p_ k (az κ) g f n v11 out6:=aL (wX k (az κ) g f) rfl (fun _=>rfl) fun r v11 out6=>by kernel_rfl
end
theorem acm {S:Type} (o:Obj) (ho:ai o) (k:Nat):Tl o 267 (Qb k:Rw S):=ak (C6 k) ⟨j_ o ho k,acl o ho k,trivial⟩ Tryz.func267 (by kernel_rfl) fun f g κ x h=>Eq.trans (b:=HK k (az κ) (fun v11 out6=>(C6 k).lp κ 3 [] k (Nq g f v11 out6)) f g) (by kernel_rfl) (Eq.trans (by simp only [Zd];rfl) (al h))
def Qc {S:Type} (k:Nat):Rw S:=aj jk xn fun f g κ=>aa k (yL k f g) (az κ)
def WK {S:Type} (k:Nat):Fx S:=fp 14 [(129,jz k)] [] k Tryz.f269 0
theorem acn {S:Type} (o:Obj) (ho:ai o) (k:Nat):Tl o 269 (Qc k:Rw S):=ak (WK k) ⟨j_ o ho k,trivial⟩ Tryz.func269 (by kernel_rfl) fun f g κ x h=>Eq.trans (by kernel_rfl) (al h)
def Bj {S:Type} (k:Nat):Rw S:=aj cn xn fun κ=>aa k (pg k) (fB κ)
def WL {S:Type} (k:Nat):Fx S:=fp 3 [] [] k Tryz.f74 0
theorem Eo {S:Type} (o:Obj) (ho:ai o) (k:Nat):Tl o 74 (Bj k:Rw S):=ak (WL k) trivial Tryz.func74 (by kernel_rfl) fun κ x h=>Eq.trans (by kernel_rfl) (al h)
def Qd {S:Type} (k:Nat):Rw S:=aj ny xn fun c κ=>aa k (yV k c) (az κ)
def jZ {S:Type} (k:Nat):Fx S:=fp 43 [(129,jz k),(259,vP k),(313,GZ)] [(3,⟨[(1,.none),(4,some (100004,true)),(11,.none),(12,.none),(13,.none)],[(1,[.none,.none])]⟩,ap 5 11),(8,⟨[(4,some (100004,true)),(26,.none),(27,.none),(28,.none)],[]⟩,ap 6 23)] k Tryz.f293 0
def FL (c:Cl) (r1:List Int) (v13:Int) (out4:List Cl):St UU:=⟨[(1,(pt 1)),(4,(.own 100004 0)),(11,(la r1 .none)),(12,(.int .i64 (r1.length:Int))),(13,(iI v13))],[(1,bC c)],[(100004,⟨0,ET.C,out4⟩)],[(100004,.wr)]⟩
def Nr (r5:List Int) (v28:Int) (out4':List Cl):St UU:=⟨[(4,(.own 100004 0)),(26,(la r5 .none)),(27,(.int .i64 (r5.length:Int))),(28,(iI v28))],[],[(100004,⟨0,ET.C,out4'⟩)],[(100004,.wr)]⟩
section
variable {S:Type} (k:Nat) (c:Cl) (κ:Out UU→Option S)
theorem Zf (r5): ∀n v28 out4',(jZ k).lp κ 8 [] n (Nr r5 v28 out4')=nB k (az κ) r5 n v28 out4':=aL (w8 k (az κ) r5) rfl (fun _=>rfl) fun r v28 out4'=>by kernel_rfl
theorem Ze (r1): ∀n v13 out4,(jZ k).lp κ 3 [] n (FL c r1 v13 out4)=qh k (az κ) c r1 n v13 out4:=aL (fun own=>j3 k (az κ) c r1 (fun r5 v28 out4'=>nB k (az κ) r5 k v28 out4') own) rfl (fun _=>rfl) fun r v13 out4=>Eq.trans (b:=j3 k (az κ) c r1 (fun r5 v28 out4'=>(jZ k).lp κ 8 [] k (Nr r5 v28 out4')) (fun v13 out4=>r (FL c r1 v13 out4)) v13 out4) (by kernel_rfl) (by simp only [Zf])
end
theorem aco {S:Type} (o:Obj) (ho:ai o) (k:Nat):Tl o 293 (Qd k:Rw S):=ak (jZ k) ⟨j_ o ho k,zO o ho k,akR o ho,trivial⟩ Tryz.func293 (by kernel_rfl) fun c κ x h=>Eq.trans (b:=HS k (az κ) (fun r1 v13 out4=>(jZ k).lp κ 3 [] k (FL c r1 v13 out4)) c) (by kernel_rfl) (Eq.trans (by simp only [Ze];rfl) (al h))
def GS {S:Type} (k:Nat):Rw S:=aj jk xn fun f g κ=>aa k (jW k f g) (az κ)
def sg {S:Type} (k:Nat):Fx S:=fp 35 [(129,jz k),(231,A7 k)] [(3,⟨[(1,.none),(6,some (100006,true)),(11,.none),(12,.none),(13,.none)],[]⟩,ap 5 11),(6,⟨[(1,.none),(6,some (100006,true)),(8,.none),(11,.none),(12,.none),(13,.none),(17,.none),(18,.none),(19,.none)],[(8,[.none,.none])]⟩,ap 13 3275)] k Tryz.f262 0
def vm (g f:List Cl) (v13:Int) (out6:List Cl):St UU:=⟨[(1,(sC g)),(6,(.own 100006 0)),(11,(sC f)),(12,(.int .i64 (f.length:Int))),(13,(iI v13))],[],[(100006,⟨0,ET.C,out6⟩)],[(100006,.wr)]⟩
def Ns (x1:Cl) (g f:List Cl) (v13:Int) (v19:Int) (out6':List Cl):St UU:=⟨[(1,(sC g)),(6,(.own 100006 0)),(8,(pt 8)),(11,(sC f)),(12,(.int .i64 (f.length:Int))),(13,(iI v13)),(17,(sC g)),(18,(.int .i64 (g.length:Int))),(19,(iI v19))],[(8,bC x1)],[(100006,⟨0,ET.C,out6'⟩)],[(100006,.wr)]⟩
section
variable {S:Type} (k:Nat) (f g:List Cl) (κ:Out UU→Option S)
theorem Zh (x1 v13 κ0): ∀n v19 out6',(sg k).lp κ 6 [κ0] n (Ns x1 g f v13 v19 out6')=nA k (az κ) (fun v13 out6=>κ0 (vm g f v13 out6)) x1 g f v13 n v19 out6':=aL (w7 k (az κ) x1 g f v13 (fun v13 out6=>κ0 (vm g f v13 out6))) rfl (fun _=>rfl) fun r v19 out6'=>by kernel_rfl
theorem Zg: ∀n v13 out6,(sg k).lp κ 3 [] n (vm g f v13 out6)=lZ k (az κ) g f n v13 out6:=aL (fun own=>j1 k (az κ) g f (fun x1 v13 v19 out6'=>nA k (az κ) own x1 g f v13 k v19 out6') own) rfl (fun _=>rfl) fun r v13 out6=>Eq.trans (b:=j1 k (az κ) g f (fun x1 v13 v19 out6'=>(sg k).lp κ 6 [r] k (Ns x1 g f v13 v19 out6')) (fun v13 out6=>r (vm g f v13 out6)) v13 out6) (by kernel_rfl) (by simp only [Zh])
end
theorem Kx {S:Type} (o:Obj) (ho:ai o) (k:Nat):Tl o 262 (GS k:Rw S):=ak (sg k) ⟨j_ o ho k,Eb o ho k,trivial⟩ Tryz.func262 (by kernel_rfl) fun f g κ x h=>Eq.trans (b:=HR k (az κ) (fun v13 out6=>(sg k).lp κ 3 [] k (vm g f v13 out6)) f g) (by kernel_rfl) (Eq.trans (by simp only [Zg];rfl) (al h))
def Qe {S:Type} (k:Nat):Rw S:=aj Ll xn fun a_have c κ=>aa k (yU k a_have c) (az κ)
def WM {S:Type} (k:Nat):Fx S:=fp 21 [(262,GS k),(293,Qd k)] [] k Tryz.f292 0
theorem acp {S:Type} (o:Obj) (ho:ai o) (k:Nat):Tl o 292 (Qe k:Rw S):=ak (WM k) ⟨Kx o ho k,aco o ho k,trivial⟩ Tryz.func292 (by kernel_rfl) fun a_have c κ x h=>Eq.trans (by kernel_rfl) (al h)
def Qf {S:Type} (k:Nat):Rw S:=aj adQ xn fun l a_from κ=>aa k (DP k l a_from) (az κ)
def C7 {S:Type} (k:Nat):Fx S:=fp 33 [(292,Qe k)] [(2,aS [1,2,13,14,15] [],ap 4 5)] k Tryz.f125 0
def Nt (l:List Cl) (v1:List Cl) (v15:Int):St UU:=⟨[(1,(sC v1)),(2,(.func 292 [] [])),(13,(sC l)),(14,(.int .i64 (l.length:Int))),(15,(iI v15))],[],[],[]⟩
section
variable {S:Type} (k:Nat) (l a_from:List Cl) (κ:Out UU→Option S)
theorem Zi: ∀n v1 v15,(C7 k).lp κ 2 [] n (Nt l v1 v15)=qe k (az κ) l n v1 v15:=aL (w5 k (az κ) l) rfl (fun _=>rfl) fun r v1 v15=>by kernel_rfl
end
theorem acq {S:Type} (o:Obj) (ho:ai o) (k:Nat):Tl o 125 (Qf k:Rw S):=ak (C7 k) ⟨acp o ho k,trivial⟩ Tryz.func125 (by kernel_rfl) fun l a_from κ x h=>Eq.trans (b:=HP k (az κ) (fun v1 v15=>(C7 k).lp κ 2 [] k (Nt l v1 v15)) l a_from) (by kernel_rfl) (Eq.trans (by simp only [Zi];rfl) (al h))
end
end Go.Proofs.YtfkkpkhfjpaafaaGreatDoor
namespace Go.Proofs.YtfkkpkhfjpaafaaGreatDoor
open Go PI
set_option linter.unusedVariables false
set_option maxRecDepth 100000
noncomputable section
def GT {S:Type} (k:Nat):Rw S:=aj eo xn fun f κ=>aa k (ph k f) (az κ)
def WN {S:Type} (k:Nat):Fx S:=fp 9 [(74,Bj k),(125,Qf k)] [] k Tryz.f263 0
theorem Ky {S:Type} (o:Obj) (ho:ai o) (k:Nat):Tl o 263 (GT k:Rw S):=ak (WN k) ⟨Eo o ho k,acq o ho k,trivial⟩ Tryz.func263 (by kernel_rfl) fun f κ x h=>Eq.trans (by kernel_rfl) (al h)
def Qh {S:Type} (k:Nat):Rw S:=aj eo xn fun f κ=>aa k (yQ k f) (az κ)
def WP {S:Type} (k:Nat):Fx S:=fp 15 [(124,Bd k),(263,GT k)] [] k Tryz.f297 0
theorem acs {S:Type} (o:Obj) (ho:ai o) (k:Nat):Tl o 297 (Qh k:Rw S):=ak (WP k) ⟨Ei o ho k,Ky o ho k,trivial⟩ Tryz.func297 (by kernel_rfl) fun f κ x h=>Eq.trans (by kernel_rfl) (al h)
def Qi {S:Type} (k:Nat):Rw S:=aj eo xn fun f κ=>aa k (yI k f) (az κ)
def WQ {S:Type} (k:Nat):Fx S:=fp 18 [(266,GQ k),(297,Qh k)] [] k Tryz.f268 0
theorem act {S:Type} (o:Obj) (ho:ai o) (k:Nat):Tl o 268 (Qi k:Rw S):=ak (WQ k) ⟨Kv o ho k,acs o ho k,trivial⟩ Tryz.func268 (by kernel_rfl) fun f κ x h=>Eq.trans (by kernel_rfl) (al h)
def Qj {S:Type} (k:Nat):Rw S:=aj Aj xn fun f i a_r κ=>aa k (yJ k f i a_r) (az κ)
def sh {S:Type} (k:Nat):Fx S:=fp 92 [(120,ow k),(122,GI k),(214,Ba k),(219,vQ k),(265,P8 k),(266,GQ k),(267,Qb k),(268,Qi k),(269,Qc k)] [(5,aS [1,2,8,27,28,29] [],ap 6 23),(1000018,aS [1,2,8,11,13,27,28,29] [],ap 16 63895)] k Tryz.f222 0
def vn (i:Int) (a_r f:List Cl) (v29:Int) (v8:List Cl):St UU:=⟨[(1,(iI i)),(2,(sC a_r)),(8,(sC v8)),(27,(sC f)),(28,(.int .i64 (f.length:Int))),(29,(iI v29))],[],[],[]⟩
def Nu (i:Int) (a_r f:List Cl) (v29:Int) (v8:List Cl) (g11:List Cl) (v13:Int):St UU:=⟨[(1,(iI i)),(2,(sC a_r)),(8,(sC v8)),(11,(sC g11)),(13,(iI v13)),(27,(sC f)),(28,(.int .i64 (f.length:Int))),(29,(iI v29))],[],[],[]⟩
section
variable {S:Type} (k:Nat) (f:List Cl) (i:Int) (a_r:List Cl) (κ:Out UU→Option S)
theorem Zk (v29 v8 κ0): ∀n g11 v13,(sh k).jn κ 1000018 [κ0] n (Nu i a_r f v29 v8 g11 v13)=p7 k (az κ) (fun v29 v8=>κ0 (vn i a_r f v29 v8)) i a_r f v29 v8 n g11 v13:=Lb (wU k (az κ) i a_r f v29 v8 (fun v29 v8=>κ0 (vn i a_r f v29 v8))) rfl (fun _=>rfl) (fun g11 v13=>by kernel_rfl)
theorem Zj: ∀n v29 v8,(sh k).lp κ 5 [] n (vn i a_r f v29 v8)=lY k (az κ) i a_r f n v29 v8:=aL (fun own=>sr k (az κ) i a_r f (fun v29 v8 g11 v13=>p7 k (az κ) own i a_r f v29 v8 k g11 v13) own) rfl (fun _=>rfl) fun r v29 v8=>Eq.trans (b:=sr k (az κ) i a_r f (fun v29 v8 g11 v13=>(sh k).jn κ 1000018 [r] k (Nu i a_r f v29 v8 g11 v13)) (fun v29 v8=>r (vn i a_r f v29 v8)) v29 v8) (by kernel_rfl) (by simp only [Zk])
end
theorem acu {S:Type} (o:Obj) (ho:ai o) (k:Nat):Tl o 222 (Qj k:Rw S):=ak (sh k) ⟨pL o ho k,Km o ho k,Ef o ho k,zP o ho k,aci o ho k,Kv o ho k,acm o ho k,act o ho k,acn o ho k,trivial⟩ Tryz.func222 (by kernel_rfl) fun f i a_r κ x h=>Eq.trans (b:=HH k (az κ) (fun v29 v8=>(sh k).lp κ 5 [] k (vn i a_r f v29 v8)) f i a_r) (by kernel_rfl) (Eq.trans (by simp only [Zj];rfl) (al h))
def GU {S:Type} (k:Nat):Rw S:=aj E2 alu fun f depth c0 c1 κ=>aa k (tF k f depth c0 c1) (ah9 c0 c1 κ)
def WR {S:Type} (k:Nat):Fx S:=fp 38 [(75,oz k),(158,Bb k),(219,vQ k),(220,GO k),(222,Qj k)] [] k Tryz.f218 3
theorem Kz {S:Type} (o:Obj) (ho:ai o) (k:Nat):Tl o 218 (GU k:Rw S):=ak (WR k) ⟨pN o ho k,Eg o ho k,zP o ho k,Kt o ho k,acu o ho k,trivial⟩ Tryz.func218 (by kernel_rfl) fun f depth c0 c1 κ x h=>Eq.trans (by kernel_rfl) (al h)
def Qk {S:Type} (k:Nat):Rw S:=aj fU xn fun i κ=>aa k (yP k i) (az κ)
def WS {S:Type} (k:Nat):Fx S:=fp 12 [(258,Bg k),(259,vP k)] [] k Tryz.f260 0
theorem acv {S:Type} (o:Obj) (ho:ai o) (k:Nat):Tl o 260 (Qk k:Rw S):=ak (WS k) ⟨Em o ho k,zO o ho k,trivial⟩ Tryz.func260 (by kernel_rfl) fun i κ x h=>Eq.trans (by kernel_rfl) (al h)
def Ql {S:Type} (k:Nat):Rw S:=aj jk xn fun f g κ=>aa k (na k f g) (az κ)
def WT {S:Type} (k:Nat):Fx S:=fp 14 [(129,jz k)] [] k Tryz.f264 0
theorem acw {S:Type} (o:Obj) (ho:ai o) (k:Nat):Tl o 264 (Ql k:Rw S):=ak (WT k) ⟨j_ o ho k,trivial⟩ Tryz.func264 (by kernel_rfl) fun f g κ x h=>Eq.trans (by kernel_rfl) (al h)
def Qm {S:Type} (k:Nat):Rw S:=aj adS wD fun a_have c c0 c1 κ=>aa k (yS k a_have c c0 c1) (vB c0 c1 κ)
def WU {S:Type} (k:Nat):Fx S:=fp 63 [(214,Ba k),(219,vQ k),(262,GS k),(263,GT k),(264,Ql k)] [] k Tryz.f261 2
theorem acx {S:Type} (o:Obj) (ho:ai o) (k:Nat):Tl o 261 (Qm k:Rw S):=ak (WU k) ⟨Ef o ho k,zP o ho k,Kx o ho k,Ky o ho k,acw o ho k,trivial⟩ Tryz.func261 (by kernel_rfl) fun a_have c c0 c1 κ x h=>Eq.trans (by kernel_rfl) (al h)
def Qn {S:Type} (k:Nat):Rw S:=aj adT wD fun l a_from c0 c1 κ=>aa k (DO k l a_from c0 c1) (vB c0 c1 κ)
def C8 {S:Type} (k:Nat):Fx S:=fp 33 [(261,Qm k)] [(2,aS [1,2,13,14,15] [(1000000,1),(1000001,1)],ap 4 5)] k Tryz.f125 2
def Nv (c0:Int) (c1 l:List Cl) (v1:List Cl) (v15:Int):St UU:=⟨[(1,(sC v1)),(2,(.func 261 [] [(pt 1000000),(pt 1000001)])),(13,(sC l)),(14,(.int .i64 (l.length:Int))),(15,(iI v15))],[(1000000,bI c0),(1000001,.cells [(sC c1)])],[],[]⟩
section
variable {S:Type} (k:Nat) (l a_from:List Cl) (c0:Int) (c1:List Cl) (κ:Out UU→Option S)
theorem Zl: ∀n v1 v15,(C8 k).lp κ 2 [] n (Nv c0 c1 l v1 v15)=qc k (vB c0 c1 κ) c0 c1 l n v1 v15:=aL (wZ k (vB c0 c1 κ) c0 c1 l) rfl (fun _=>rfl) fun r v1 v15=>by kernel_rfl
end
theorem acy {S:Type} (o:Obj) (ho:ai o) (k:Nat):Tl o 125 (Qn k:Rw S):=ak (C8 k) ⟨acx o ho k,trivial⟩ Tryz.func125 (by kernel_rfl) fun l a_from c0 c1 κ x h=>Eq.trans (b:=HO k (vB c0 c1 κ) (fun v1 v15=>(C8 k).lp κ 2 [] k (Nv c0 c1 l v1 v15)) l a_from c0 c1) (by kernel_rfl) (Eq.trans (by simp only [Zl];rfl) (al h))
def Qo {S:Type} (k:Nat):Rw S:=aj Aj xn fun f i a_r κ=>aa k (yR k f i a_r) (az κ)
def WV {S:Type} (k:Nat):Fx S:=fp 32 [(124,Bd k),(125,Qn k),(126,GL k),(260,Qk k)] [] k Tryz.f221 0
theorem acz {S:Type} (o:Obj) (ho:ai o) (k:Nat):Tl o 221 (Qo k:Rw S):=ak (WV k) ⟨Ei o ho k,acy o ho k,Kq o ho k,acv o ho k,trivial⟩ Tryz.func221 (by kernel_rfl) fun f i a_r κ x h=>Eq.trans (by kernel_rfl) (al h)
def Qp {S:Type} (k:Nat):Rw S:=aj E2 Uv fun f depth c0 c1 κ=>aa k (yF k f depth c0 c1) (ah_ c0 c1 κ)
def WW {S:Type} (k:Nat):Fx S:=fp 38 [(75,oz k),(158,Bb k),(219,vQ k),(220,GO k),(221,Qo k)] [] k Tryz.f218 3
theorem acA {S:Type} (o:Obj) (ho:ai o) (k:Nat):Tl o 218 (Qp k:Rw S):=ak (WW k) ⟨pN o ho k,Eg o ho k,zP o ho k,Kt o ho k,acz o ho k,trivial⟩ Tryz.func218 (by kernel_rfl) fun f depth c0 c1 κ x h=>Eq.trans (by kernel_rfl) (al h)
def Of {S:Type} (k:Nat):Rw S:=aj E3 Je fun t depth c0 c1 κ=>aa k (yG k t depth c0 c1) (aia c0 c1 κ)
def UC {S:Type} (k:Nat):Fx S:=fp 27 [(218,ol (uy E2 Uv) (Qp k) (GU k))] [] k Tryz.f223 4
theorem aau {S:Type} (o:Obj) (ho:ai o) (k:Nat):Tl o 223 (Of k:Rw S):=ak (UC k) ⟨vw (acA o ho k) (Kz o ho k),trivial⟩ Tryz.func223 (by kernel_rfl) fun t depth c0 c1 κ x h=>Eq.trans (by kernel_rfl) (al h)
def Ga {S:Type} (k:Nat):Rw S:=aj Lm alv fun i c0 κ=>aa k (tG k i c0) (aib c0 κ)
def UD {S:Type} (k:Nat):Fx S:=fp 14 [(36,jA k)] [] k Tryz.f225 1
theorem JS {S:Type} (o:Obj) (ho:ai o) (k:Nat):Tl o 225 (Ga k:Rw S):=ak (UD k) ⟨kc o ho k,trivial⟩ Tryz.func225 (by kernel_rfl) fun i c0 κ x h=>Eq.trans (by kernel_rfl) (al h)
def Gb {S:Type} (k:Nat):Rw S:=aj Lm cu fun p c0 κ=>aa k (tH k p c0) (aic c0 κ)
def UE {S:Type} (k:Nat):Fx S:=fp 5 [] [] k Tryz.f226 1
theorem JT {S:Type} (o:Obj) (ho:ai o) (k:Nat):Tl o 226 (Gb k:Rw S):=ak (UE k) trivial Tryz.func226 (by kernel_rfl) fun p c0 κ x h=>Eq.trans (by kernel_rfl) (al h)
def rn {S:Type} (hd:c8 S):Rw S:=aj E3 Je fun t depth c0 c1 κ=>hd t depth c0 c1 (AT c0 c1 κ)
def Og {S:Type} (hd:c8 S) (k:Nat):Rw S:=aj Ln Uw fun l depth c0 c1 c4 κ=>aa k (DK hd k l depth c0 c1 c4) (AU c0 c1 c4 κ)
def Cf {S:Type} (hd:c8 S) (k:Nat):Fx S:=fp 42 [(163,rn hd),(226,Gb k)] [(3,⟨[(2,.none),(3,.none),(4,.none),(10,some (100010,true)),(15,.none),(16,.none),(17,.none)],[(4,[.none,.none]),(1000000,[.none]),(1000001,[.none]),(1000002,[.none]),(1000003,[.none]),(1000004,[.none])]⟩,ap 5 11)] k Tryz.f224 5
def LS (c0:Int) (c1:List Cl) (c4:Int) (l:List Tm) (depth:Int) (out10:List Tm) (v17:Int):St UU:=⟨[(2,(iI depth)),(3,(.func 226 [] [(pt 1000004)])),(4,(pt 4)),(10,(.own 100010 0)),(15,(sT l)),(16,(.int .i64 (l.length:Int))),(17,(iI v17))],[(4,.cells [(.func 218 [] [(pt 1000000),(pt 1000001),(pt 1000002)]),(.func 218 [] [(pt 1000000),(pt 1000001),(pt 1000003)])]),(1000000,bI c0),(1000001,.cells [(sC c1)]),(1000002,.cells [(.func 221 [] [])]),(1000003,.cells [(.func 222 [] [])]),(1000004,bI c4)],[(100010,⟨0,ET.T,out10⟩)],[(100010,.wr)]⟩
section
variable {S:Type} (hd:c8 S) (k:Nat) (l:List Tm) (depth c0:Int) (c1:List Cl) (c4:Int) (κ:Out UU→Option S)
theorem W6: ∀n out10 v17,(Cf hd k).lp κ 3 [] n (LS c0 c1 c4 l depth out10 v17)=lW hd k (AU c0 c1 c4 κ) c0 c1 c4 l depth n out10 v17:=aL (wQ hd k (AU c0 c1 c4 κ) c0 c1 c4 l depth) rfl (fun _=>rfl) fun r out10 v17=>by kernel_rfl
end
theorem aav {S:Type} (o:Obj) (ho:ai o) (hd:c8 S) (Hd:Tl o 163 (rn hd)) (k:Nat):Tl o 224 (Og hd k:Rw S):=ak (Cf hd k) ⟨Hd,JT o ho k,trivial⟩ Tryz.func224 (by kernel_rfl) fun l depth c0 c1 c4 κ x h=>Eq.trans (b:=HB hd k (AU c0 c1 c4 κ) (fun out10 v17=>(Cf hd k).lp κ 3 [] k (LS c0 c1 c4 l depth out10 v17)) l depth c0 c1 c4) (by kernel_rfl) (Eq.trans (by simp only [W6];rfl) (al h))
def Oh {S:Type} (hd:c8 S) (k:Nat):Rw S:=aj adV alw fun l depth c0 c1 c4 κ=>aa k (DL hd k l depth c0 c1 c4) (AV c0 c1 c4 κ)
def Cg {S:Type} (hd:c8 S) (k:Nat):Fx S:=fp 42 [(163,rn hd),(225,Ga k)] [(3,⟨[(2,.none),(3,.none),(4,.none),(10,some (100010,true)),(15,.none),(16,.none),(17,.none)],[(4,[.none,.none]),(1000000,[.none]),(1000001,[.none]),(1000002,[.none]),(1000003,[.none]),(1000004,[.none,.none,.none,.none,.none,.none])]⟩,ap 5 11)] k Tryz.f224 5
def LU (c0:Int) (c1:List Cl) (c4:Tm) (l:List Tm) (depth:Int) (out10:List Tm) (v17:Int):St UU:=⟨[(2,(iI depth)),(3,(.func 225 [] [(pt 1000004)])),(4,(pt 4)),(10,(.own 100010 0)),(15,(sT l)),(16,(.int .i64 (l.length:Int))),(17,(iI v17))],[(4,.cells [(.func 218 [] [(pt 1000000),(pt 1000001),(pt 1000002)]),(.func 218 [] [(pt 1000000),(pt 1000001),(pt 1000003)])]),(1000000,bI c0),(1000001,.cells [(sC c1)]),(1000002,.cells [(.func 221 [] [])]),(1000003,.cells [(.func 222 [] [])]),(1000004,bT c4)],[(100010,⟨0,ET.T,out10⟩)],[(100010,.wr)]⟩
section
variable {S:Type} (hd:c8 S) (k:Nat) (l:List Tm) (depth c0:Int) (c1:List Cl) (c4:Tm) (κ:Out UU→Option S)
theorem W7: ∀n out10 v17,(Cg hd k).lp κ 3 [] n (LU c0 c1 c4 l depth out10 v17)=lX hd k (AV c0 c1 c4 κ) c0 c1 c4 l depth n out10 v17:=aL (wR hd k (AV c0 c1 c4 κ) c0 c1 c4 l depth) rfl (fun _=>rfl) fun r out10 v17=>by kernel_rfl
end
theorem aaw {S:Type} (o:Obj) (ho:ai o) (hd:c8 S) (Hd:Tl o 163 (rn hd)) (k:Nat):Tl o 224 (Oh hd k:Rw S):=ak (Cg hd k) ⟨Hd,JS o ho k,trivial⟩ Tryz.func224 (by kernel_rfl) fun l depth c0 c1 c4 κ x h=>Eq.trans (b:=HC hd k (AV c0 c1 c4 κ) (fun out10 v17=>(Cg hd k).lp κ 3 [] k (LU c0 c1 c4 l depth out10 v17)) l depth c0 c1 c4) (by kernel_rfl) (Eq.trans (by simp only [W7];rfl) (al h))
def Ce {S:Type} (hd:c8 S) (k:Nat):Fx S:=fp 98 [(218,GU k),(223,Of k),(224,ol (uy Ln Uw) (Og hd k) (Oh hd k))] [(13,⟨[(2,.none),(3,.none),(6,.none),(8,.none),(10,.none),(53,.none),(54,.none),(55,.none)],[(3,[.none,.none]),(6,[.none,.none,.none,some (200387,true),some (200388,true),some (200389,true)]),(8,[.none,.none,.none,.none,.none,some (200517,true)]),(10,[.none]),(1000000,[.none]),(1000001,[.none]),(1000002,[.none]),(1000003,[.none])]⟩,ap 11 767)] k Tryz.f163 4
def LR (c0:Int) (c1:List Cl) (t:Tm) (r1:List Cl×Int) (r2:List Tm×Int) (depth:Int) (b10_0:Int) (b8_5:List (Br Tm)) (v55:Int):St UU:=⟨[(2,(iI depth)),(3,(pt 3)),(6,(pt 6)),(8,(pt 8)),(10,(pt 10)),(53,(sB t.sys)),(54,(.int .i64 (t.sys.length:Int))),(55,(iI v55))],[(3,.cells [(.func 218 [] [(pt 1000000),(pt 1000001),(pt 1000002)]),(.func 218 [] [(pt 1000000),(pt 1000001),(pt 1000003)])]),(6,.cells [(iI 0),(iI 0),(.str ByteArray.empty),(.own 200387 0),(.own 200388 0),(.own 200389 0)]),(8,.cells [(iI t.kind),(iI t.n),(.str t.name),(sC r1.1),(sT r2.1),(.own 200517 0)]),(10,bI b10_0),(1000000,bI c0),(1000001,.cells [(sC c1)]),(1000002,.cells [(.func 221 [] [])]),(1000003,.cells [(.func 222 [] [])])],[(200517,⟨0,ET.B,b8_5⟩),(200389,⟨0,ET.B,([]:List (Br Tm))⟩),(200388,⟨0,ET.T,([]:List Tm)⟩),(200387,⟨0,ET.C,([]:List Cl)⟩)],[(200517,.wr),(200389,.wr),(200388,.wr),(200387,.wr)]⟩
section
variable {S:Type} (hd:c8 S) (k:Nat) (t:Tm) (depth c0:Int) (c1:List Cl) (κ:Out UU→Option S)
theorem W5 (r1 r2): ∀n b10_0 b8_5 v55,(Ce hd k).lp κ 13 [] n (LR c0 c1 t r1 r2 depth b10_0 b8_5 v55)=fV hd k (AT c0 c1 κ) c0 c1 t r1 r2 depth n b10_0 b8_5 v55:=eW (wS hd k (AT c0 c1 κ) c0 c1 t r1 r2 depth) rfl (fun _=>rfl) fun r b10_0 b8_5 v55=>by kernel_rfl
end
theorem EF {S:Type} (o:Obj) (ho:ai o): ∀k:Nat,Tl o 163 (rn (d7 k:c8 S))
 |0=>dz fun t depth c0 c1 κ x h=>by cases h
 |k+1=>ak (Ce (d7 k) k) ⟨Kz o ho k,aau o ho k,vw (aav o ho (d7 k) (EF o ho k) k) (aaw o ho (d7 k) (EF o ho k) k),trivial⟩ Tryz.func163 (by kernel_rfl) fun t depth c0 c1 κ x h=>Eq.trans (b:=HF (d7 k) k (AT c0 c1 κ) (fun r1 r2 b10_0 b8_5 v55=>(Ce (d7 k) k).lp κ 13 [] k (LR c0 c1 t r1 r2 depth b10_0 b8_5 v55)) t depth c0 c1) (by kernel_rfl) (Eq.trans (by simp only [W5];rfl) h)
def Oi {S:Type} (k:Nat):Rw S:=aj fU xn fun i κ=>aa k (DE k i) (aid κ)
def UF {S:Type} (k:Nat):Fx S:=fp 8 [] [] k Tryz.f164 0
theorem aax {S:Type} (o:Obj) (ho:ai o) (k:Nat):Tl o 164 (Oi k:Rw S):=ak (UF k) trivial Tryz.func164 (by kernel_rfl) fun i κ x h=>Eq.trans (by kernel_rfl) (al h)
def Oj {S:Type} (k:Nat):Rw S:=aj lS xn fun s i κ=>aa k (pk k s i) (b_ κ)
def UG {S:Type} (k:Nat):Fx S:=fp 24 [(230,GM k),(257,vL k)] [] k Tryz.f228 0
theorem aay {S:Type} (o:Obj) (ho:ai o) (k:Nat):Tl o 228 (Oj k:Rw S):=ak (UG k) ⟨Kr o ho k,zN o ho k,trivial⟩ Tryz.func228 (by kernel_rfl) fun s i κ x h=>Eq.trans (by kernel_rfl) (al h)
def Gc {S:Type} (k:Nat):Rw S:=aj adW cu fun f depth c0 κ=>aa k (pc k f depth c0) (vC c0 κ)
def Ch {S:Type} (k:Nat):Fx S:=fp 37 [(129,jz k),(228,Oj k)] [(3,⟨[(1,.none),(2,.none),(7,some (100007,true)),(10,.none),(11,.none),(12,.none)],[(1000000,[.none])]⟩,ap 5 11)] k Tryz.f227 1
def LV (c0 depth:Int) (f:List Cl) (v12:Int) (out7:List Cl):St UU:=⟨[(1,(iI depth)),(2,(pt 1000000)),(7,(.own 100007 0)),(10,(sC f)),(11,(.int .i64 (f.length:Int))),(12,(iI v12))],[(1000000,bI c0)],[(100007,⟨0,ET.C,out7⟩)],[(100007,.wr)]⟩
section
variable {S:Type} (k:Nat) (f:List Cl) (depth c0:Int) (κ:Out UU→Option S)
theorem W8: ∀n v12 out7,(Ch k).lp κ 3 [] n (LV c0 depth f v12 out7)=p6 k (vC c0 κ) c0 depth f n v12 out7:=aL (wN k (vC c0 κ) c0 depth f) rfl (fun _=>rfl) fun r v12 out7=>by kernel_rfl
end
theorem JU {S:Type} (o:Obj) (ho:ai o) (k:Nat):Tl o 227 (Gc k:Rw S):=ak (Ch k) ⟨j_ o ho k,aay o ho k,trivial⟩ Tryz.func227 (by kernel_rfl) fun f depth c0 κ x h=>Eq.trans (b:=Hx k (vC c0 κ) (fun v12 out7=>(Ch k).lp κ 3 [] k (LV c0 depth f v12 out7)) f depth c0) (by kernel_rfl) (Eq.trans (by simp only [W8];rfl) (al h))
def Ok {S:Type} (k:Nat):Rw S:=aj Lo cu fun t depth c0 κ=>aa k (yH k t depth c0) (vC c0 κ)
def UH {S:Type} (k:Nat):Fx S:=fp 27 [(227,Gc k)] [] k Tryz.f223 1
theorem aaz {S:Type} (o:Obj) (ho:ai o) (k:Nat):Tl o 223 (Ok k:Rw S):=ak (UH k) ⟨JU o ho k,trivial⟩ Tryz.func223 (by kernel_rfl) fun t depth c0 κ x h=>Eq.trans (by kernel_rfl) (al h)
def rp {S:Type} (hd:c_ S):Rw S:=aj Lo cu fun t depth c0 κ=>hd t depth c0 (AW c0 κ)
def Om {S:Type} (hd:c_ S) (k:Nat):Rw S:=aj Lp B9 fun l depth c0 c1 κ=>aa k (DI hd k l depth c0 c1) (AX c0 c1 κ)
def Cj {S:Type} (hd:c_ S) (k:Nat):Fx S:=fp 42 [(163,rp hd),(226,Gb k)] [(3,⟨[(2,.none),(3,.none),(4,.none),(10,some (100010,true)),(15,.none),(16,.none),(17,.none)],[(4,[.none,.none]),(1000000,[.none]),(1000001,[.none])]⟩,ap 5 11)] k Tryz.f224 2
def LX (c0 c1:Int) (l:List Tm) (depth:Int) (out10:List Tm) (v17:Int):St UU:=⟨[(2,(iI depth)),(3,(.func 226 [] [(pt 1000001)])),(4,(pt 4)),(10,(.own 100010 0)),(15,(sT l)),(16,(.int .i64 (l.length:Int))),(17,(iI v17))],[(4,.cells [(.func 227 [] [(pt 1000000)]),(.func 227 [] [(pt 1000000)])]),(1000000,bI c0),(1000001,bI c1)],[(100010,⟨0,ET.T,out10⟩)],[(100010,.wr)]⟩
section
variable {S:Type} (hd:c_ S) (k:Nat) (l:List Tm) (depth c0 c1:Int) (κ:Out UU→Option S)
theorem W_: ∀n out10 v17,(Cj hd k).lp κ 3 [] n (LX c0 c1 l depth out10 v17)=lU hd k (AX c0 c1 κ) c0 c1 l depth n out10 v17:=aL (wO hd k (AX c0 c1 κ) c0 c1 l depth) rfl (fun _=>rfl) fun r out10 v17=>by kernel_rfl
end
theorem aaB {S:Type} (o:Obj) (ho:ai o) (hd:c_ S) (Hd:Tl o 163 (rp hd)) (k:Nat):Tl o 224 (Om hd k:Rw S):=ak (Cj hd k) ⟨Hd,JT o ho k,trivial⟩ Tryz.func224 (by kernel_rfl) fun l depth c0 c1 κ x h=>Eq.trans (b:=Hz hd k (AX c0 c1 κ) (fun out10 v17=>(Cj hd k).lp κ 3 [] k (LX c0 c1 l depth out10 v17)) l depth c0 c1) (by kernel_rfl) (Eq.trans (by simp only [W_];rfl) (al h))
def On {S:Type} (hd:c_ S) (k:Nat):Rw S:=aj adX alx fun l depth c0 c1 κ=>aa k (DJ hd k l depth c0 c1) (AY c0 c1 κ)
def Ck {S:Type} (hd:c_ S) (k:Nat):Fx S:=fp 42 [(163,rp hd),(225,Ga k)] [(3,⟨[(2,.none),(3,.none),(4,.none),(10,some (100010,true)),(15,.none),(16,.none),(17,.none)],[(4,[.none,.none]),(1000000,[.none]),(1000001,[.none,.none,.none,.none,.none,.none])]⟩,ap 5 11)] k Tryz.f224 2
def LY (c0:Int) (c1:Tm) (l:List Tm) (depth:Int) (out10:List Tm) (v17:Int):St UU:=⟨[(2,(iI depth)),(3,(.func 225 [] [(pt 1000001)])),(4,(pt 4)),(10,(.own 100010 0)),(15,(sT l)),(16,(.int .i64 (l.length:Int))),(17,(iI v17))],[(4,.cells [(.func 227 [] [(pt 1000000)]),(.func 227 [] [(pt 1000000)])]),(1000000,bI c0),(1000001,bT c1)],[(100010,⟨0,ET.T,out10⟩)],[(100010,.wr)]⟩
section
variable {S:Type} (hd:c_ S) (k:Nat) (l:List Tm) (depth c0:Int) (c1:Tm) (κ:Out UU→Option S)
theorem Xa: ∀n out10 v17,(Ck hd k).lp κ 3 [] n (LY c0 c1 l depth out10 v17)=lV hd k (AY c0 c1 κ) c0 c1 l depth n out10 v17:=aL (wP hd k (AY c0 c1 κ) c0 c1 l depth) rfl (fun _=>rfl) fun r out10 v17=>by kernel_rfl
end
theorem aaC {S:Type} (o:Obj) (ho:ai o) (hd:c_ S) (Hd:Tl o 163 (rp hd)) (k:Nat):Tl o 224 (On hd k:Rw S):=ak (Ck hd k) ⟨Hd,JS o ho k,trivial⟩ Tryz.func224 (by kernel_rfl) fun l depth c0 c1 κ x h=>Eq.trans (b:=HA hd k (AY c0 c1 κ) (fun out10 v17=>(Ck hd k).lp κ 3 [] k (LY c0 c1 l depth out10 v17)) l depth c0 c1) (by kernel_rfl) (Eq.trans (by simp only [Xa];rfl) (al h))
def Ci {S:Type} (hd:c_ S) (k:Nat):Fx S:=fp 98 [(223,Ok k),(224,ol (uy Lp B9) (Om hd k) (On hd k)),(227,Gc k)] [(13,⟨[(2,.none),(3,.none),(6,.none),(8,.none),(10,.none),(53,.none),(54,.none),(55,.none)],[(3,[.none,.none]),(6,[.none,.none,.none,some (200387,true),some (200388,true),some (200389,true)]),(8,[.none,.none,.none,.none,.none,some (200517,true)]),(10,[.none]),(1000000,[.none])]⟩,ap 11 767)] k Tryz.f163 1
def LW (c0:Int) (t:Tm) (r1:List Cl×Int) (r2:List Tm×Int) (depth:Int) (b10_0:Int) (b8_5:List (Br Tm)) (v55:Int):St UU:=⟨[(2,(iI depth)),(3,(pt 3)),(6,(pt 6)),(8,(pt 8)),(10,(pt 10)),(53,(sB t.sys)),(54,(.int .i64 (t.sys.length:Int))),(55,(iI v55))],[(3,.cells [(.func 227 [] [(pt 1000000)]),(.func 227 [] [(pt 1000000)])]),(6,.cells [(iI 0),(iI 0),(.str ByteArray.empty),(.own 200387 0),(.own 200388 0),(.own 200389 0)]),(8,.cells [(iI t.kind),(iI t.n),(.str t.name),(sC r1.1),(sT r2.1),(.own 200517 0)]),(10,bI b10_0),(1000000,bI c0)],[(200517,⟨0,ET.B,b8_5⟩),(200389,⟨0,ET.B,([]:List (Br Tm))⟩),(200388,⟨0,ET.T,([]:List Tm)⟩),(200387,⟨0,ET.C,([]:List Cl)⟩)],[(200517,.wr),(200389,.wr),(200388,.wr),(200387,.wr)]⟩
section
variable {S:Type} (hd:c_ S) (k:Nat) (t:Tm) (depth c0:Int) (κ:Out UU→Option S)
theorem W9 (r1 r2): ∀n b10_0 b8_5 v55,(Ci hd k).lp κ 13 [] n (LW c0 t r1 r2 depth b10_0 b8_5 v55)=fW hd k (AW c0 κ) c0 t r1 r2 depth n b10_0 b8_5 v55:=eW (wT hd k (AW c0 κ) c0 t r1 r2 depth) rfl (fun _=>rfl) fun r b10_0 b8_5 v55=>by kernel_rfl
end
theorem EG {S:Type} (o:Obj) (ho:ai o): ∀k:Nat,Tl o 163 (rp (dT k:c_ S))
 |0=>dz fun t depth c0 κ x h=>by cases h
 |k+1=>ak (Ci (dT k) k) ⟨aaz o ho k,vw (aaB o ho (dT k) (EG o ho k) k) (aaC o ho (dT k) (EG o ho k) k),JU o ho k,trivial⟩ Tryz.func163 (by kernel_rfl) fun t depth c0 κ x h=>Eq.trans (b:=HG (dT k) k (AW c0 κ) (fun r1 r2 b10_0 b8_5 v55=>(Ci (dT k) k).lp κ 13 [] k (LW c0 t r1 r2 depth b10_0 b8_5 v55)) t depth c0) (by kernel_rfl) (Eq.trans (by simp only [W9];rfl) h)
def A2 {S:Type} (k:Nat):Rw S:=aj E1 xn fun t i a_r κ=>aa k (m_ k t i a_r) (cM κ)
def UJ {S:Type} (k:Nat):Fx S:=fp 48 [(75,oz k),(161,P4 k),(162,P7 k),(163,ol (uy E3 Je) (rn (d7 k)) (rp (dT k))),(164,Oi k)] [] k Tryz.f123 0
theorem D9 {S:Type} (o:Obj) (ho:ai o) (k:Nat):Tl o 123 (A2 k:Rw S):=ak (UJ k) ⟨pN o ho k,ace o ho k,ach o ho k,vw (EF o ho k) (EG o ho k),aax o ho k,trivial⟩ Tryz.func123 (by kernel_rfl) fun t i a_r κ x h=>Eq.trans (by kernel_rfl) (al h)
def Ge {S:Type} (k:Nat):Rw S:=aj Lq cu fun line a_r c0 κ=>aa k (lr k line a_r c0) (gR κ)
def UK {S:Type} (k:Nat):Fx S:=fp 44 [(54,Bf k),(84,my k),(123,A2 k),(140,oy k)] [] k Tryz.f86 1
theorem JV {S:Type} (o:Obj) (ho:ai o) (k:Nat):Tl o 86 (Ge k:Rw S):=ak (UK k) ⟨Ek o ho k,nq o ho k,D9 o ho k,pM o ho k,trivial⟩ Tryz.func86 (by kernel_rfl) fun line a_r c0 κ x h=>Eq.trans (by kernel_rfl) (al h)
def Oo {S:Type} (k:Nat):Rw S:=aj pX xn fun t a sys κ=>aa k (yy k t a sys) (cM κ)
def Cm {S:Type} (k:Nat):Fx S:=fp 76 [(80,GK k),(81,GJ k),(82,Bc k),(83,PY k),(84,my k),(85,PZ k),(86,Ge k),(87,GN k)] [(4,⟨[(4,.none),(6,.none),(8,.none),(9,.none),(27,.none),(28,.none),(29,.none)],[(4,[.none,.none,.none,.none,.none,.none]),(6,[.none,.none,.none,some (200387,true),some (200388,true),some (200389,true)]),(9,[.none,.none,.none,some (200579,true),.none,some (200581,true)]),(19000,[.none])]⟩,ap 6 23)] k Tryz.f52 0
def LZ (a:Tm) (r5:Int×Int×ByteArray×List Tm) (sys:List (Br Tm)) (b19000_0:Int) (b9_5:List (Br Tm)) (v29:Int):St UU:=⟨[(4,(pt 4)),(6,(pt 6)),(8,(pt 19000)),(9,(pt 9)),(27,(sB sys)),(28,(.int .i64 (sys.length:Int))),(29,(iI v29))],[(4,bT a),(6,.cells [(iI 0),(iI 0),(.str ByteArray.empty),(.own 200387 0),(.own 200388 0),(.own 200389 0)]),(9,.cells [(iI r5.1),(iI r5.2.1),(.str r5.2.2.1),(.own 200579 0),(sT r5.2.2.2),(.own 200581 0)]),(19000,bI b19000_0)],[(200581,⟨0,ET.B,b9_5⟩),(200579,⟨0,ET.C,([]:List Cl)⟩),(200389,⟨0,ET.B,([]:List (Br Tm))⟩),(200388,⟨0,ET.T,([]:List Tm)⟩),(200387,⟨0,ET.C,([]:List Cl)⟩)],[(200581,.wr),(200579,.wr),(200389,.wr),(200388,.wr),(200387,.wr)]⟩
section
variable {S:Type} (k:Nat) (t a:Tm) (sys:List (Br Tm)) (κ:Out UU→Option S)
theorem Xb (r5): ∀n b19000_0 b9_5 v29,(Cm k).lp κ 4 [] n (LZ a r5 sys b19000_0 b9_5 v29)=gM k (cM κ) a r5 sys n b19000_0 b9_5 v29:=eW (oQ k (cM κ) a r5 sys) rfl (fun _=>rfl) fun r b19000_0 b9_5 v29=>by kernel_rfl
end
theorem aaD {S:Type} (o:Obj) (ho:ai o) (k:Nat):Tl o 52 (Oo k:Rw S):=ak (Cm k) ⟨Kp o ho k,Ko o ho k,Eh o ho k,ab8 o ho k,nq o ho k,ab9 o ho k,JV o ho k,Ks o ho k,trivial⟩ Tryz.func52 (by kernel_rfl) fun t a sys κ x h=>Eq.trans (b:=Hr k (cM κ) (fun r5 b19000_0 b9_5 v29=>(Cm k).lp κ 4 [] k (LZ a r5 sys b19000_0 b9_5 v29)) t a sys) (by kernel_rfl) (Eq.trans (by simp only [Xb];rfl) (al h))
def jx {S:Type} (k:Nat):Rw S:=aj Lr cu fun t a_e c0 κ=>aa k (fP k t a_e c0) (gR κ)
def UL {S:Type} (k:Nat):Fx S:=fp 23 [] [] k Tryz.f51 1
theorem j8 {S:Type} (o:Obj) (ho:ai o) (k:Nat):Tl o 51 (jx k:Rw S):=ak (UL k) trivial Tryz.func51 (by kernel_rfl) fun t a_e c0 κ x h=>Eq.trans (by kernel_rfl) (al h)
def Oq {S:Type} (k:Nat):Rw S:=aj Ls cu fun t a sys c0 κ=>aa k (y_ k t a sys c0) (gR κ)
def UM {S:Type} (k:Nat):Fx S:=fp 21 [(50,jB k),(51,jx k),(52,Oo k)] [] k Tryz.f23 1
theorem aaE {S:Type} (o:Obj) (ho:ai o) (k:Nat):Tl o 23 (Oq k:Rw S):=ak (UM k) ⟨ke o ho k,j8 o ho k,aaD o ho k,trivial⟩ Tryz.func23 (by kernel_rfl) fun t a sys c0 κ x h=>Eq.trans (by kernel_rfl) (al h)
def Ot {S:Type} (k:Nat):Rw S:=aj EZ B_ fun c0 c1 c2 κ=>aa k (yY k c0 c1 c2) (N_ c0 c1 c2 κ)
def UN {S:Type} (k:Nat):Fx S:=fp 10 [(90,vO (dk k))] [] k Tryz.f89 3
theorem aaF {S:Type} (o:Obj) (ho:ai o) (k:Nat):Tl o 89 (Ot k:Rw S):=ak (UN k) ⟨Ab o ho k,trivial⟩ Tryz.func89 (by kernel_rfl) fun c0 c1 c2 κ x h=>Eq.trans (by kernel_rfl) (al h)
def Ou {S:Type} (k:Nat):Rw S:=aj adY B_ fun t numbers c0 c1 c2 κ=>aa k (y6 k t numbers c0 c1 c2) (mt c0 c1 c2 κ)
def Cn {S:Type} (k:Nat):Fx S:=⟨⟨30,(fun _=>[]),(fun _=>false),.none,fun|6=>true|7=>true|_=>false⟩,[(21,iJ k),(89,Ot k)],[(5,⟨[(2,.none),(6,.none),(7,.none),(17,.none),(18,.none),(19,.none)],[(1000000,[.none]),(1000001,[.none,.none,.none,.none,.none,.none]),(1000002,[.none]),(5000006,[.none,.none,.none,some (320200387,true),some (320200388,true),some (320200389,true)]),(5000007,[.none])]⟩,ap 5 11)],k,Tryz.f88,false,[],3,some (o9 16 141 Tryz.f141 k)⟩
def L0 (c0:Int) (c1:Tm) (c2:Int) (numbers:List Int) (v19:Int):St UU:=⟨[(2,(.func 89 [] [(pt 1000000),(pt 1000001),(pt 1000002)])),(6,(pt 5000006)),(7,(pt 5000007)),(17,(la numbers .none)),(18,(.int .i64 (numbers.length:Int))),(19,(iI v19))],[(1000000,bI c0),(1000001,bT c1),(1000002,bI c2),(5000006,.cells [(iI 0),(iI 0),(.str ByteArray.empty),(.own 320200387 0),(.own 320200388 0),(.own 320200389 0)]),(5000007,bI 0)],[(320200389,⟨0,ET.B,([]:List (Br Tm))⟩),(320200388,⟨0,ET.T,([]:List Tm)⟩),(320200387,⟨0,ET.C,([]:List Cl)⟩)],[(320200389,.wr),(320200388,.wr),(320200387,.wr)]⟩
section
variable {S:Type} (k:Nat) (t:Tm) (numbers:List Int) (c0:Int) (c1:Tm) (c2:Int) (κ:Out UU→Option S)
theorem Xc: ∀n v19,(Cn k).lp κ 5 [] n (L0 c0 c1 c2 numbers v19)=nD k (mt c0 c1 c2 κ) c0 c1 c2 numbers n v19:=cF (xb k (mt c0 c1 c2 κ) c0 c1 c2 numbers) rfl (fun _=>rfl) fun r v19=>by kernel_rfl
end
theorem aaG {S:Type} (o:Obj) (ho:ai o) (k:Nat):Tl o 88 (Ou k:Rw S):=BZ (Cn k) rfl (yn o Tryz.func141 (by kernel_rfl)) ⟨jh o ho k,aaF o ho k,trivial⟩ Tryz.func88 (by kernel_rfl) fun t numbers c0 c1 c2 κ x h=>Eq.trans (b:=BR k (mt c0 c1 c2 κ) (fun v19=>(Cn k).lp κ 5 [] k (L0 c0 c1 c2 numbers v19)) t numbers c0 c1 c2) (by kernel_rfl) (Eq.trans (by simp only [Xc];rfl) (al h))
def Ow {S:Type} (k:Nat):Rw S:=aj jd xn fun t a_from a_by κ=>aa k (pj k t a_from a_by) (cM κ)
def UP {S:Type} (k:Nat):Fx S:=fp 18 [(88,Ou k)] [] k Tryz.f53 0
theorem aaI {S:Type} (o:Obj) (ho:ai o) (k:Nat):Tl o 53 (Ow k:Rw S):=ak (UP k) ⟨aaG o ho k,trivial⟩ Tryz.func53 (by kernel_rfl) fun t a_from a_by κ x h=>Eq.trans (by kernel_rfl) (al h)
def Ox {S:Type} (k:Nat):Rw S:=aj E0 cu fun t vars dims c0 κ=>aa k (y8 k t vars dims c0) (gR κ)
def UQ {S:Type} (k:Nat):Fx S:=fp 32 [(50,jB k),(51,jx k),(53,Ow k),(54,Bf k)] [] k Tryz.f24 1
theorem aaJ {S:Type} (o:Obj) (ho:ai o) (k:Nat):Tl o 24 (Ox k:Rw S):=ak (UQ k) ⟨ke o ho k,j8 o ho k,aaI o ho k,Ek o ho k,trivial⟩ Tryz.func24 (by kernel_rfl) fun t vars dims c0 κ x h=>Eq.trans (by kernel_rfl) (al h)
def vD {S:Type} (hd:dq S):Rw S:=aj dV xn fun t κ=>hd t (aE κ)
def Oy {S:Type} (hd:dq S) (k:Nat):Rw S:=aj Ah cu fun a_k p p' c0 κ=>aa k (ug hd k a_k p p' c0) (cO κ)
def US {S:Type} (hd:dq S) (k:Nat):Fx S:=fp 12 [(92,vD hd)] [] k Tryz.f143 1
theorem aaK {S:Type} (o:Obj) (ho:ai o) (hd:dq S) (Hd:Tl o 92 (vD hd)) (k:Nat):Tl o 143 (Oy hd k:Rw S):=ak (US hd k) ⟨Hd,trivial⟩ Tryz.func143 (by kernel_rfl) fun a_k p p' c0 κ x h=>Eq.trans (by kernel_rfl) (al h)
def Oz {S:Type} (hd:dq S) (k:Nat):Rw S:=aj adZ cu fun t c0 κ=>aa k (DY hd k t c0) (cO κ)
def mI {S:Type} (hd:dq S) (k:Nat):Fx S:=fp 60 [(36,jA k),(143,Oy hd k)] [(2,aS [1,2,15,16,17] [(2,6),(1000000,1)],ap 4 5),(12,aS [1,9,40,41,42] [(1000000,1)],ap 7 47),(15,aS [1,9,40,41,42,47,48,49] [(1000000,1)],ap 15 13103)] k Tryz.f71 1
def Fr (t:Tm) (e0_0 v17:Int):St UU:=⟨[(1,(.func 143 [] [(pt 1000000)])),(2,(pt 2)),(15,(sT t.kids)),(16,(.int .i64 (t.kids.length:Int))),(17,(iI v17))],[(2,bT t),(1000000,bI e0_0)],[],[]⟩
def uU (t:Tm) (e0_0' v42 more9:Int):St UU:=⟨[(1,(.func 143 [] [(pt 1000000)])),(9,(iI more9)),(40,(sB t.sys)),(41,(.int .i64 (t.sys.length:Int))),(42,(iI v42))],[(1000000,bI e0_0')],[],[]⟩
def L3 (t:Tm) (v42:Int) (x4:(Br Tm)) (more9:Int) (e0_0'' v49:Int):St UU:=⟨[(1,(.func 143 [] [(pt 1000000)])),(9,(iI more9)),(40,(sB t.sys)),(41,(.int .i64 (t.sys.length:Int))),(42,(iI v42)),(47,(sT x4.kids)),(48,(.int .i64 (x4.kids.length:Int))),(49,(iI v49))],[(1000000,bI e0_0'')],[],[]⟩
section
variable {S:Type} (hd:dq S) (k:Nat) (t:Tm) (c0:Int) (κ:Out UU→Option S)
theorem Xf (v42 x4 more9 κ1): ∀n e0_0'' v49,(mI hd k).lp κ 15 [κ1] n (L3 t v42 x4 more9 e0_0'' v49)=n4 hd k (cO κ) (fun e0_0' v42 more9=>κ1 (uU t e0_0' v42 more9)) t v42 x4 more9 n e0_0'' v49:=aL (yj hd k (cO κ) t v42 x4 more9 (fun e0_0' v42 more9=>κ1 (uU t e0_0' v42 more9))) rfl (fun _=>rfl) fun r e0_0'' v49=>by kernel_rfl
theorem Xe: ∀n e0_0' v42 more9,(mI hd k).lp κ 12 [] n (uU t e0_0' v42 more9)=kM hd k (cO κ) t n e0_0' v42 more9:=eW (fun own=>tr hd k (cO κ) t (fun v42 x4 more9 e0_0'' v49=>n4 hd k (cO κ) own t v42 x4 more9 k e0_0'' v49) own) rfl (fun _=>rfl) fun r e0_0' v42 more9=>Eq.trans (b:=tr hd k (cO κ) t (fun v42 x4 more9 e0_0'' v49=>(mI hd k).lp κ 15 [r] k (L3 t v42 x4 more9 e0_0'' v49)) (fun e0_0' v42 more9=>r (uU t e0_0' v42 more9)) e0_0' v42 more9) (by kernel_rfl) (by simp only [Xf])
theorem Xd: ∀n e0_0 v17,(mI hd k).lp κ 2 [] n (Fr t e0_0 v17)=qT hd k (cO κ) t n e0_0 v17:=aL (fun own=>tq hd k (cO κ) t (fun e0_0' v42 more9=>kM hd k (cO κ) t k e0_0' v42 more9) own) rfl (fun _=>rfl) fun r e0_0 v17=>Eq.trans (b:=tq hd k (cO κ) t (fun e0_0' v42 more9=>(mI hd k).lp κ 12 [] k (uU t e0_0' v42 more9)) (fun e0_0 v17=>r (Fr t e0_0 v17)) e0_0 v17) (by kernel_rfl) (by simp only [Xe])
end
theorem aaL {S:Type} (o:Obj) (ho:ai o) (hd:dq S) (Hd:Tl o 92 (vD hd)) (k:Nat):Tl o 71 (Oz hd k:Rw S):=ak (mI hd k) ⟨kc o ho k,aaK o ho hd Hd k,trivial⟩ Tryz.func71 (by kernel_rfl) fun t c0 κ x h=>Eq.trans (b:=IW hd k (cO κ) (fun e0_0 v17=>(mI hd k).lp κ 2 [] k (Fr t e0_0 v17)) t c0) (by kernel_rfl) (Eq.trans (by simp only [Xd];rfl) (al h))
def UR {S:Type} (hd:dq S) (k:Nat):Fx S:=fp 8 [(71,Oz hd k)] [] k Tryz.f92 0
theorem KU {S:Type} (o:Obj) (ho:ai o): ∀k:Nat,Tl o 92 (vD (j6 k:dq S))
 |0=>dz fun t κ x h=>by cases h
 |k+1=>ak (UR (j6 k) k) ⟨aaL o ho (j6 k) (KU o ho k) k,trivial⟩ Tryz.func92 (by kernel_rfl) fun t κ x h=>Eq.trans (by kernel_rfl) h
end
end Go.Proofs.YtfkkpkhfjpaafaaGreatDoor
namespace Go.Proofs.YtfkkpkhfjpaafaaGreatDoor
open Go PI
set_option linter.unusedVariables false
set_option maxRecDepth 100000
noncomputable section
def Gf {S:Type} (hd:fK S):Rw S:=aj pW xn fun t a_n κ=>hd t a_n (aE κ)
def jN {S:Type} (hd:fK S) (k:Nat):Fx S:=fp 68 [(36,jA k),(93,Gf hd)] [(1000003,aS [1,2] [(2,6)],ap 2 3),(5,aS [1,2,5,24,25,26] [(2,6)],ap 6 23),(11,aS [1,5,47,48,49] [],ap 7 47),(14,aS [1,5,47,48,49,54,55,56] [],ap 15 13103)] k Tryz.f93 0
def L4 (t:Tm) (a_n:Int):St UU:=⟨[(1,(iI a_n)),(2,(pt 2))],[(2,bT t)],[],[]⟩
def Fs (t:Tm) (a_n:Int) (v26 sum5:Int):St UU:=⟨[(1,(iI a_n)),(2,(pt 2)),(5,(iI sum5)),(24,(sT t.kids)),(25,(.int .i64 (t.kids.length:Int))),(26,(iI v26))],[(2,bT t)],[],[]⟩
def uV (a_n:Int) (t:Tm) (v49 sum5':Int):St UU:=⟨[(1,(iI a_n)),(5,(iI sum5')),(47,(sB t.sys)),(48,(.int .i64 (t.sys.length:Int))),(49,(iI v49))],[],[],[]⟩
def L5 (a_n:Int) (t:Tm) (v49:Int) (x4:(Br Tm)) (sum5'' v56:Int):St UU:=⟨[(1,(iI a_n)),(5,(iI sum5'')),(47,(sB t.sys)),(48,(.int .i64 (t.sys.length:Int))),(49,(iI v49)),(54,(sT x4.kids)),(55,(.int .i64 (x4.kids.length:Int))),(56,(iI v56))],[],[],[]⟩
section
variable {S:Type} (hd:fK S) (k:Nat) (t:Tm) (a_n:Int) (κ:Out UU→Option S)
theorem Xj (v49 x4 κ2): ∀n sum5'' v56,(jN hd k).lp κ 14 [κ2] n (L5 a_n t v49 x4 sum5'' v56)=nG hd k (aE κ) (fun v49 sum5'=>κ2 (uV a_n t v49 sum5')) a_n t v49 x4 n sum5'' v56:=aL (xh hd k (aE κ) a_n t v49 x4 (fun v49 sum5'=>κ2 (uV a_n t v49 sum5'))) rfl (fun _=>rfl) fun r sum5'' v56=>by kernel_rfl
theorem Xi: ∀n v49 sum5',(jN hd k).lp κ 11 [] n (uV a_n t v49 sum5')=ku hd k (aE κ) a_n t n v49 sum5':=aL (fun own=>sE hd k (aE κ) a_n t (fun v49 x4 sum5'' v56=>nG hd k (aE κ) own a_n t v49 x4 k sum5'' v56) own) rfl (fun _=>rfl) fun r v49 sum5'=>Eq.trans (b:=sE hd k (aE κ) a_n t (fun v49 x4 sum5'' v56=>(jN hd k).lp κ 14 [r] k (L5 a_n t v49 x4 sum5'' v56)) (fun v49 sum5'=>r (uV a_n t v49 sum5')) v49 sum5') (by kernel_rfl) (by simp only [Xj])
theorem Xh: ∀n v26 sum5,(jN hd k).lp κ 5 [] n (Fs t a_n v26 sum5)=nF hd k (aE κ) t a_n n v26 sum5:=aL (fun own=>sD hd k (aE κ) t a_n (fun v49 sum5'=>ku hd k (aE κ) a_n t k v49 sum5') own) rfl (fun _=>rfl) fun r v26 sum5=>Eq.trans (b:=sD hd k (aE κ) t a_n (fun v49 sum5'=>(jN hd k).lp κ 11 [] k (uV a_n t v49 sum5')) (fun v26 sum5=>r (Fs t a_n v26 sum5)) v26 sum5) (by kernel_rfl) (by simp only [Xi])
theorem Xg: ∀n,(jN hd k).jn κ 1000003 [] n (L4 t a_n)=Ak hd k (aE κ) t a_n n:=gL (xg hd k (aE κ) t a_n (fun v26 sum5=>nF hd k (aE κ) t a_n k v26 sum5)) rfl (fun _=>rfl) (Eq.trans (b:=xg hd k (aE κ) t a_n (fun v26 sum5=>(jN hd k).lp κ 5 [] k (Fs t a_n v26 sum5))) (by kernel_rfl) (by simp only [Xh]))
end
theorem KV {S:Type} (o:Obj) (ho:ai o): ∀k:Nat,Tl o 93 (Gf (gz k:fK S))
 |0=>dz fun t a_n κ x h=>by cases h
 |k+1=>ak (jN (gz k) k) ⟨kc o ho k,KV o ho k,trivial⟩ Tryz.func93 (by kernel_rfl) fun t a_n κ x h=>Eq.trans (b:=BU (gz k) k (aE κ) ((jN (gz k) k).jn κ 1000003 [] k (L4 t a_n)) t a_n) (by kernel_rfl) (Eq.trans (by simp only [Xg];rfl) h)
def OA {S:Type} (k:Nat):Rw S:=aj dV xn fun t κ=>aa k (ze k t) (aE κ)
def UT {S:Type} (k:Nat):Fx S:=fp 6 [] [] k Tryz.f144 0
theorem aaM {S:Type} (o:Obj) (ho:ai o) (k:Nat):Tl o 144 (OA k:Rw S):=ak (UT k) trivial Tryz.func144 (by kernel_rfl) fun t κ x h=>Eq.trans (by kernel_rfl) (al h)
def Gg {S:Type} (hd:gX S):Rw S:=aj Lt xn fun t a_n u vars dims κ=>hd t a_n u vars dims (ah κ)
def mJ {S:Type} (hd:gX S) (k:Nat):Fx S:=fp 137 [(36,jA k),(56,Be k),(95,Gg hd),(144,OA k)] [(12,⟨[(1,.none),(3,.none),(4,.none),(5,.none),(7,.none),(10,.none),(13,.none),(66,.none),(67,.none),(68,.none)],[(5,[.none,.none,.none,.none,.none,.none]),(7,[.none,.none,.none,.none,.none,.none]),(10,[.none,.none,.none,some (200643,true),some (200644,true),some (200645,true)]),(13,[.none,.none,.none,some (200835,true),some (200836,true),some (200837,true)])]⟩,ap 6 23),(18,⟨[(1,.none),(3,.none),(4,.none),(5,.none),(7,.none),(10,.none),(13,.none),(97,.none),(98,.none),(99,.none)],[(5,[.none,.none,.none,.none,.none,.none]),(7,[.none,.none,.none,.none,.none,.none]),(10,[.none,.none,.none,some (200643,true),some (200644,true),some (200645,true)]),(13,[.none,.none,.none,some (200835,true),some (200836,true),some (200837,true)])]⟩,ap 7 47),(22,⟨[(1,.none),(3,.none),(4,.none),(5,.none),(7,.none),(10,.none),(13,.none),(20,.none),(97,.none),(98,.none),(99,.none),(108,.none),(109,.none),(110,.none)],[(5,[.none,.none,.none,.none,.none,.none]),(7,[.none,.none,.none,.none,.none,.none]),(10,[.none,.none,.none,some (200643,true),some (200644,true),some (200645,true)]),(13,[.none,.none,.none,some (200835,true),some (200836,true),some (200837,true)]),(20,[some (201280,true),some (201281,true)])]⟩,ap 17 45871)] k Tryz.f95 0
def Ft (t u:Tm) (a_n vars dims:Int) (b13_4:List Tm) (v68:Int):St UU:=⟨[(1,(iI a_n)),(3,(iI vars)),(4,(iI dims)),(5,(pt 5)),(7,(pt 7)),(10,(pt 10)),(13,(pt 13)),(66,(sT t.kids)),(67,(.int .i64 (t.kids.length:Int))),(68,(iI v68))],[(5,bT t),(7,bT u),(10,.cells [(iI 0),(iI 0),(.str ByteArray.empty),(.own 200643 0),(.own 200644 0),(.own 200645 0)]),(13,.cells [(iI t.kind),(iI 0),(.str t.name),(.own 200835 0),(.own 200836 0),(.own 200837 0)])],[(200837,⟨0,ET.B,([]:List (Br Tm))⟩),(200836,⟨0,ET.T,b13_4⟩),(200835,⟨0,ET.C,t.r⟩),(200645,⟨0,ET.B,([]:List (Br Tm))⟩),(200644,⟨0,ET.T,([]:List Tm)⟩),(200643,⟨0,ET.C,([]:List Cl)⟩)],[(200837,.wr),(200836,.wr),(200835,.wr),(200645,.wr),(200644,.wr),(200643,.wr)]⟩
def uW (t:Tm) (b13_4:List Tm) (u:Tm) (a_n vars dims:Int) (b13_5:List (Br Tm)) (v99:Int):St UU:=⟨[(1,(iI a_n)),(3,(iI vars)),(4,(iI dims)),(5,(pt 5)),(7,(pt 7)),(10,(pt 10)),(13,(pt 13)),(97,(sB t.sys)),(98,(.int .i64 (t.sys.length:Int))),(99,(iI v99))],[(5,bT t),(7,bT u),(10,.cells [(iI 0),(iI 0),(.str ByteArray.empty),(.own 200643 0),(.own 200644 0),(.own 200645 0)]),(13,.cells [(iI t.kind),(iI 0),(.str t.name),(.own 200835 0),(.own 200836 0),(.own 200837 0)])],[(200837,⟨0,ET.B,b13_5⟩),(200836,⟨0,ET.T,b13_4⟩),(200835,⟨0,ET.C,t.r⟩),(200645,⟨0,ET.B,([]:List (Br Tm))⟩),(200644,⟨0,ET.T,([]:List Tm)⟩),(200643,⟨0,ET.C,([]:List Cl)⟩)],[(200837,.wr),(200836,.wr),(200835,.wr),(200645,.wr),(200644,.wr),(200643,.wr)]⟩
def L6 (t:Tm) (b13_4:List Tm) (b13_5:List (Br Tm)) (x9:(Br Tm)) (u:Tm) (a_n vars dims v99:Int) (b20_1:List Tm) (v110:Int):St UU:=⟨[(1,(iI a_n)),(3,(iI vars)),(4,(iI dims)),(5,(pt 5)),(7,(pt 7)),(10,(pt 10)),(13,(pt 13)),(20,(pt 20)),(97,(sB t.sys)),(98,(.int .i64 (t.sys.length:Int))),(99,(iI v99)),(108,(sT x9.kids)),(109,(.int .i64 (x9.kids.length:Int))),(110,(iI v110))],[(5,bT t),(7,bT u),(10,.cells [(iI 0),(iI 0),(.str ByteArray.empty),(.own 200643 0),(.own 200644 0),(.own 200645 0)]),(13,.cells [(iI t.kind),(iI 0),(.str t.name),(.own 200835 0),(.own 200836 0),(.own 200837 0)]),(20,.cells [(.own 201280 0),(.own 201281 0)])],[(201281,⟨0,ET.T,b20_1⟩),(201280,⟨0,ET.C,x9.face⟩),(200837,⟨0,ET.B,b13_5⟩),(200836,⟨0,ET.T,b13_4⟩),(200835,⟨0,ET.C,t.r⟩),(200645,⟨0,ET.B,([]:List (Br Tm))⟩),(200644,⟨0,ET.T,([]:List Tm)⟩),(200643,⟨0,ET.C,([]:List Cl)⟩)],[(201281,.wr),(201280,.wr),(200837,.wr),(200836,.wr),(200835,.wr),(200645,.wr),(200644,.wr),(200643,.wr)]⟩
section
variable {S:Type} (hd:gX S) (k:Nat) (t:Tm) (a_n:Int) (u:Tm) (vars dims:Int) (κ:Out UU→Option S)
theorem Xm (b13_4 b13_5 x9 v99 κ1): ∀n b20_1 v110,(mJ hd k).lp κ 22 [κ1] n (L6 t b13_4 b13_5 x9 u a_n vars dims v99 b20_1 v110)=nH hd k (ah κ) (fun b13_5 v99=>κ1 (uW t b13_4 u a_n vars dims b13_5 v99)) t b13_4 b13_5 x9 u a_n vars dims v99 n b20_1 v110:=aL (xj hd k (ah κ) t b13_4 b13_5 x9 u a_n vars dims v99 (fun b13_5 v99=>κ1 (uW t b13_4 u a_n vars dims b13_5 v99))) rfl (fun _=>rfl) fun r b20_1 v110=>by kernel_rfl
theorem Xl (b13_4): ∀n b13_5 v99,(mJ hd k).lp κ 18 [] n (uW t b13_4 u a_n vars dims b13_5 v99)=kw hd k (ah κ) t b13_4 u a_n vars dims n b13_5 v99:=aL (fun own=>sG hd k (ah κ) t b13_4 u a_n vars dims (fun b13_5 x9 v99 b20_1 v110=>nH hd k (ah κ) own t b13_4 b13_5 x9 u a_n vars dims v99 k b20_1 v110) own) rfl (fun _=>rfl) fun r b13_5 v99=>Eq.trans (b:=sG hd k (ah κ) t b13_4 u a_n vars dims (fun b13_5 x9 v99 b20_1 v110=>(mJ hd k).lp κ 22 [r] k (L6 t b13_4 b13_5 x9 u a_n vars dims v99 b20_1 v110)) (fun b13_5 v99=>r (uW t b13_4 u a_n vars dims b13_5 v99)) b13_5 v99) (by kernel_rfl) (by simp only [Xm])
theorem Xk: ∀n b13_4 v68,(mJ hd k).lp κ 12 [] n (Ft t u a_n vars dims b13_4 v68)=qj hd k (ah κ) t u a_n vars dims n b13_4 v68:=aL (fun own=>sF hd k (ah κ) t u a_n vars dims (fun b13_4 b13_5 v99=>kw hd k (ah κ) t b13_4 u a_n vars dims k b13_5 v99) own) rfl (fun _=>rfl) fun r b13_4 v68=>Eq.trans (b:=sF hd k (ah κ) t u a_n vars dims (fun b13_4 b13_5 v99=>(mJ hd k).lp κ 18 [] k (uW t b13_4 u a_n vars dims b13_5 v99)) (fun b13_4 v68=>r (Ft t u a_n vars dims b13_4 v68)) b13_4 v68) (by kernel_rfl) (by simp only [Xl])
end
theorem KW {S:Type} (o:Obj) (ho:ai o): ∀k:Nat,Tl o 95 (Gg (gA k:gX S))
 |0=>dz fun t a_n u vars dims κ x h=>by cases h
 |k+1=>ak (mJ (gA k) k) ⟨kc o ho k,Ej o ho k,KW o ho k,aaM o ho k,trivial⟩ Tryz.func95 (by kernel_rfl) fun t a_n u vars dims κ x h=>Eq.trans (b:=H2 (gA k) k (ah κ) (fun b13_4 v68=>(mJ (gA k) k).lp κ 12 [] k (Ft t u a_n vars dims b13_4 v68)) t a_n u vars dims) (by kernel_rfl) (Eq.trans (by simp only [Xk];rfl) h)
def vE {S:Type} (hd:dp S):Rw S:=aj dV xn fun t κ=>hd t (aE κ)
def OB {S:Type} (hd:dp S) (k:Nat):Rw S:=aj Ah cu fun a_k p p' c0 κ=>aa k (uf hd k a_k p p' c0) (cO κ)
def UW {S:Type} (hd:dp S) (k:Nat):Fx S:=fp 12 [(96,vE hd)] [] k Tryz.f145 1
theorem aaN {S:Type} (o:Obj) (ho:ai o) (hd:dp S) (Hd:Tl o 96 (vE hd)) (k:Nat):Tl o 145 (OB hd k:Rw S):=ak (UW hd k) ⟨Hd,trivial⟩ Tryz.func145 (by kernel_rfl) fun a_k p p' c0 κ x h=>Eq.trans (by kernel_rfl) (al h)
def OD {S:Type} (hd:dp S) (k:Nat):Rw S:=aj ad0 cu fun t c0 κ=>aa k (DZ hd k t c0) (cO κ)
def mK {S:Type} (hd:dp S) (k:Nat):Fx S:=fp 60 [(36,jA k),(145,OB hd k)] [(2,aS [1,2,15,16,17] [(2,6),(1000000,1)],ap 4 5),(12,aS [1,9,40,41,42] [(1000000,1)],ap 7 47),(15,aS [1,9,40,41,42,47,48,49] [(1000000,1)],ap 15 13103)] k Tryz.f71 1
def Fv (t:Tm) (e0_0 v17:Int):St UU:=⟨[(1,(.func 145 [] [(pt 1000000)])),(2,(pt 2)),(15,(sT t.kids)),(16,(.int .i64 (t.kids.length:Int))),(17,(iI v17))],[(2,bT t),(1000000,bI e0_0)],[],[]⟩
def uX (t:Tm) (e0_0' v42 more9:Int):St UU:=⟨[(1,(.func 145 [] [(pt 1000000)])),(9,(iI more9)),(40,(sB t.sys)),(41,(.int .i64 (t.sys.length:Int))),(42,(iI v42))],[(1000000,bI e0_0')],[],[]⟩
def L7 (t:Tm) (v42:Int) (x4:(Br Tm)) (more9:Int) (e0_0'' v49:Int):St UU:=⟨[(1,(.func 145 [] [(pt 1000000)])),(9,(iI more9)),(40,(sB t.sys)),(41,(.int .i64 (t.sys.length:Int))),(42,(iI v42)),(47,(sT x4.kids)),(48,(.int .i64 (x4.kids.length:Int))),(49,(iI v49))],[(1000000,bI e0_0'')],[],[]⟩
section
variable {S:Type} (hd:dp S) (k:Nat) (t:Tm) (c0:Int) (κ:Out UU→Option S)
theorem Xp (v42 x4 more9 κ1): ∀n e0_0'' v49,(mK hd k).lp κ 15 [κ1] n (L7 t v42 x4 more9 e0_0'' v49)=n5 hd k (cO κ) (fun e0_0' v42 more9=>κ1 (uX t e0_0' v42 more9)) t v42 x4 more9 n e0_0'' v49:=aL (yk hd k (cO κ) t v42 x4 more9 (fun e0_0' v42 more9=>κ1 (uX t e0_0' v42 more9))) rfl (fun _=>rfl) fun r e0_0'' v49=>by kernel_rfl
theorem Xo: ∀n e0_0' v42 more9,(mK hd k).lp κ 12 [] n (uX t e0_0' v42 more9)=kN hd k (cO κ) t n e0_0' v42 more9:=eW (fun own=>tu hd k (cO κ) t (fun v42 x4 more9 e0_0'' v49=>n5 hd k (cO κ) own t v42 x4 more9 k e0_0'' v49) own) rfl (fun _=>rfl) fun r e0_0' v42 more9=>Eq.trans (b:=tu hd k (cO κ) t (fun v42 x4 more9 e0_0'' v49=>(mK hd k).lp κ 15 [r] k (L7 t v42 x4 more9 e0_0'' v49)) (fun e0_0' v42 more9=>r (uX t e0_0' v42 more9)) e0_0' v42 more9) (by kernel_rfl) (by simp only [Xp])
theorem Xn: ∀n e0_0 v17,(mK hd k).lp κ 2 [] n (Fv t e0_0 v17)=qU hd k (cO κ) t n e0_0 v17:=aL (fun own=>tt hd k (cO κ) t (fun e0_0' v42 more9=>kN hd k (cO κ) t k e0_0' v42 more9) own) rfl (fun _=>rfl) fun r e0_0 v17=>Eq.trans (b:=tt hd k (cO κ) t (fun e0_0' v42 more9=>(mK hd k).lp κ 12 [] k (uX t e0_0' v42 more9)) (fun e0_0 v17=>r (Fv t e0_0 v17)) e0_0 v17) (by kernel_rfl) (by simp only [Xo])
end
theorem aaP {S:Type} (o:Obj) (ho:ai o) (hd:dp S) (Hd:Tl o 96 (vE hd)) (k:Nat):Tl o 71 (OD hd k:Rw S):=ak (mK hd k) ⟨kc o ho k,aaN o ho hd Hd k,trivial⟩ Tryz.func71 (by kernel_rfl) fun t c0 κ x h=>Eq.trans (b:=IX hd k (cO κ) (fun e0_0 v17=>(mK hd k).lp κ 2 [] k (Fv t e0_0 v17)) t c0) (by kernel_rfl) (Eq.trans (by simp only [Xn];rfl) (al h))
def UV {S:Type} (hd:dp S) (k:Nat):Fx S:=fp 9 [(71,OD hd k)] [] k Tryz.f96 0
theorem KX {S:Type} (o:Obj) (ho:ai o): ∀k:Nat,Tl o 96 (vE (j5 k:dp S))
 |0=>dz fun t κ x h=>by cases h
 |k+1=>ak (UV (j5 k) k) ⟨aaP o ho (j5 k) (KX o ho k) k,trivial⟩ Tryz.func96 (by kernel_rfl) fun t κ x h=>Eq.trans (by kernel_rfl) h
def OE {S:Type} (k:Nat):Rw S:=aj Lu xn fun t a_n u κ=>aa k (zd k t a_n u) (cM κ)
def UY {S:Type} (k:Nat):Fx S:=⟨⟨49,(fun _=>[]),(fun _=>false),.none,fun|6=>true|7=>true|_=>false⟩,[(21,iJ k),(92,vD (j6 k)),(93,Gf (gz k)),(95,Gg (gA k)),(96,vE (j5 k))],[],k,Tryz.f55,false,[],0,some (o9 16 94 Tryz.f94 k)⟩
theorem aaQ {S:Type} (o:Obj) (ho:ai o) (k:Nat):Tl o 55 (OE k:Rw S):=BZ (UY k) rfl (yn o Tryz.func94 (by kernel_rfl)) ⟨jh o ho k,KU o ho k,KV o ho k,KW o ho k,KX o ho k,trivial⟩ Tryz.func55 (by kernel_rfl) fun t a_n u κ x h=>Eq.trans (by kernel_rfl) (al h)
def OF {S:Type} (k:Nat):Rw S:=aj ad1 cu fun t u c0 κ=>aa k (za k t u c0) (gR κ)
def UZ {S:Type} (k:Nat):Fx S:=fp 18 [(50,jB k),(51,jx k),(55,OE k)] [] k Tryz.f25 1
theorem aaR {S:Type} (o:Obj) (ho:ai o) (k:Nat):Tl o 25 (OF k:Rw S):=ak (UZ k) ⟨ke o ho k,j8 o ho k,aaQ o ho k,trivial⟩ Tryz.func25 (by kernel_rfl) fun t u c0 κ x h=>Eq.trans (by kernel_rfl) (al h)
def OG {S:Type} (k:Nat):Rw S:=aj E0 cu fun t vars dims c0 κ=>aa k (zb k t vars dims c0) (gR κ)
def U0 {S:Type} (k:Nat):Fx S:=fp 21 [(50,jB k),(51,jx k),(56,Be k)] [] k Tryz.f27 1
theorem aaS {S:Type} (o:Obj) (ho:ai o) (k:Nat):Tl o 27 (OG k:Rw S):=ak (U0 k) ⟨ke o ho k,j8 o ho k,Ej o ho k,trivial⟩ Tryz.func27 (by kernel_rfl) fun t vars dims c0 κ x h=>Eq.trans (by kernel_rfl) (al h)
def OH {S:Type} (k:Nat):Rw S:=aj Ag xn fun kind kids κ=>aa k (zc k kind kids) (F9 κ)
def U1 {S:Type} (k:Nat):Fx S:=fx 8 (fun _=>[]) (fun _=>false) [] [] k Tryz.f28 true [] 0
theorem aaT {S:Type} (o:Obj) (ho:ai o) (k:Nat):Tl o 28 (OH k:Rw S):=ak (U1 k) trivial Tryz.func28 (by kernel_rfl) fun kind kids κ x h=>Eq.trans (by kernel_rfl) (al h)
def OI {S:Type} (k:Nat):Rw S:=aj ad2 aly fun p a_by a_x c0 c1 c3 κ=>aa k (nc k p a_by a_x c0 c1 c3) (AZ c0 c1 κ)
def Co {S:Type} (k:Nat):Fx S:=fx 42 (fun _=>[]) (fun _=>false) [(27,OG k),(28,OH k)] [(3,⟨[(1,.none),(3,.none),(5,.none),(8,.none),(9,.none),(10,some (100010,false)),(18,.none),(19,.none),(20,.none)],[(8,[.none,.none,.none,.none,.none,.none]),(9,[.none,.none,.none,some (200579,true),some (200580,true),some (200581,true)]),(1000000,[.none,.none,.none,.none,.none,.none]),(1000001,[.none]),(1000002,[.none]),(1000003,[.none])]⟩,ap 5 11)] k Tryz.f26 true [] 4
def L8 (c0:Tm) (c1:Int) (a_x:Tm) (a_by:Int) (e3_0:Int) (kids10:List Tm) (v20:Int):St UU:=⟨[(1,(iI a_by)),(3,(pt 1000000)),(5,(pt 1000002)),(8,(pt 8)),(9,(pt 9)),(10,(.own 100010 0)),(18,(dO (List.drop (Int.toNat 1) (List.take (Int.toNat c1) c0.kids)) .none)),(19,(.int .i64 ((List.drop (Int.toNat 1) (List.take (Int.toNat c1) c0.kids)).length:Int))),(20,(iI v20))],[(8,bT a_x),(9,.cells [(iI 0),(iI 0),(.str ByteArray.empty),(.own 200579 0),(.own 200580 0),(.own 200581 0)]),(1000000,bT c0),(1000001,bI c1),(1000002,.cells [(pt 1000003)]),(1000003,bI e3_0)],[(200581,⟨0,ET.B,([]:List (Br Tm))⟩),(200580,⟨0,ET.T,([]:List Tm)⟩),(200579,⟨0,ET.C,([]:List Cl)⟩),(100010,⟨0,ET.T,kids10⟩)],[(200581,.wr),(200580,.wr),(200579,.wr),(100010,.app)]⟩
section
variable {S:Type} (k:Nat) (p:Tm) (a_by:Int) (a_x c0:Tm) (c1 c3:Int) (κ:Out UU→Option S)
theorem Xq: ∀n e3_0 kids10 v20,(Co k).lp κ 3 [] n (L8 c0 c1 a_x a_by e3_0 kids10 v20)=kq k (AZ c0 c1 κ) c0 c1 a_x a_by n e3_0 kids10 v20:=eW (oS k (AZ c0 c1 κ) c0 c1 a_x a_by) rfl (fun _=>rfl) fun r e3_0 kids10 v20=>by kernel_rfl
end
theorem aaU {S:Type} (o:Obj) (ho:ai o) (k:Nat):Tl o 26 (OI k:Rw S):=ak (Co k) ⟨aaS o ho k,aaT o ho k,trivial⟩ Tryz.func26 (by kernel_rfl) fun p a_by a_x c0 c1 c3 κ x h=>Eq.trans (b:=BP k (AZ c0 c1 κ) (fun e3_0 kids10 v20=>(Co k).lp κ 3 [] k (L8 c0 c1 a_x a_by e3_0 kids10 v20)) p a_by a_x c0 c1 c3) (by kernel_rfl) (Eq.trans (by simp only [Xq];rfl) (al h))
def Gi {S:Type} (k:Nat):Rw S:=aj ad4 xn fun f kids κ=>aa k (nf k f kids) (aie κ)
def U2 {S:Type} (k:Nat):Fx S:=fp 8 [] [] k Tryz.f29 0
theorem JW {S:Type} (o:Obj) (ho:ai o) (k:Nat):Tl o 29 (Gi k:Rw S):=ak (U2 k) trivial Tryz.func29 (by kernel_rfl) fun f kids κ x h=>Eq.trans (by kernel_rfl) (al h)
def OJ {S:Type} (k:Nat):Rw S:=aj Ai cu fun line c0 κ=>aa k (yz k line c0) (gR κ)
def U3 {S:Type} (k:Nat):Fx S:=fp 25 [(74,Bj k),(84,my k),(123,A2 k),(140,oy k)] [] k Tryz.f98 1
theorem aaV {S:Type} (o:Obj) (ho:ai o) (k:Nat):Tl o 98 (OJ k:Rw S):=ak (U3 k) ⟨Eo o ho k,nq o ho k,D9 o ho k,pM o ho k,trivial⟩ Tryz.func98 (by kernel_rfl) fun line c0 κ x h=>Eq.trans (by kernel_rfl) (al h)
def OK {S:Type} (k:Nat):Rw S:=aj pX xn fun line a sys κ=>aa k (yx k line a sys) (cM κ)
def Cp {S:Type} (k:Nat):Fx S:=fp 78 [(22,ox (dJ k)),(80,GK k),(81,GJ k),(82,Bc k),(84,my k),(86,Ge k),(87,GN k),(98,OJ k)] [(5,⟨[(3,.none),(6,.none),(8,.none),(9,.none),(36,.none),(37,.none),(38,.none)],[(3,[.none,.none,.none,.none,.none,.none]),(6,[.none,.none,.none,some (200387,true),some (200388,true),some (200389,true)]),(9,[.none,.none,.none,some (200579,true),.none,some (200581,true)]),(19000,[.none])]⟩,ap 7 47)] k Tryz.f57 0
def L9 (r3:Tm) (r9:Int×Int×ByteArray×List Tm) (r6:Tm) (b19000_0:Int) (b9_5:List (Br Tm)) (v38:Int):St UU:=⟨[(3,(pt 3)),(6,(pt 6)),(8,(pt 19000)),(9,(pt 9)),(36,(sB r6.sys)),(37,(.int .i64 (r6.sys.length:Int))),(38,(iI v38))],[(3,bT r3),(6,.cells [(iI 0),(iI 0),(.str ByteArray.empty),(.own 200387 0),(.own 200388 0),(.own 200389 0)]),(9,.cells [(iI r9.1),(iI r9.2.1),(.str r9.2.2.1),(.own 200579 0),(sT r9.2.2.2),(.own 200581 0)]),(19000,bI b19000_0)],[(200581,⟨0,ET.B,b9_5⟩),(200579,⟨0,ET.C,([]:List Cl)⟩),(200389,⟨0,ET.B,([]:List (Br Tm))⟩),(200388,⟨0,ET.T,([]:List Tm)⟩),(200387,⟨0,ET.C,([]:List Cl)⟩)],[(200581,.wr),(200579,.wr),(200389,.wr),(200388,.wr),(200387,.wr)]⟩
section
variable {S:Type} (k:Nat) (line a:Tm) (sys:List (Br Tm)) (κ:Out UU→Option S)
theorem Xr (r3 r9 r6): ∀n b19000_0 b9_5 v38,(Cp k).lp κ 5 [] n (L9 r3 r9 r6 b19000_0 b9_5 v38)=ko k (cM κ) r3 r9 r6 n b19000_0 b9_5 v38:=eW (oP k (cM κ) r3 r9 r6) rfl (fun _=>rfl) fun r b19000_0 b9_5 v38=>by kernel_rfl
end
theorem aaW {S:Type} (o:Obj) (ho:ai o) (k:Nat):Tl o 57 (OK k:Rw S):=ak (Cp k) ⟨uD o ho k,Kp o ho k,Ko o ho k,Eh o ho k,nq o ho k,JV o ho k,Ks o ho k,aaV o ho k,trivial⟩ Tryz.func57 (by kernel_rfl) fun line a sys κ x h=>Eq.trans (b:=Hq k (cM κ) (fun r3 r9 r6 b19000_0 b9_5 v38=>(Cp k).lp κ 5 [] k (L9 r3 r9 r6 b19000_0 b9_5 v38)) line a sys) (by kernel_rfl) (Eq.trans (by simp only [Xr];rfl) (al h))
def OL {S:Type} (k:Nat):Rw S:=aj Ls cu fun line a sys c0 κ=>aa k (y9 k line a sys c0) (gR κ)
def U4 {S:Type} (k:Nat):Fx S:=fp 21 [(50,jB k),(51,jx k),(57,OK k)] [] k Tryz.f31 1
theorem aaX {S:Type} (o:Obj) (ho:ai o) (k:Nat):Tl o 31 (OL k:Rw S):=ak (U4 k) ⟨ke o ho k,j8 o ho k,aaW o ho k,trivial⟩ Tryz.func31 (by kernel_rfl) fun line a sys c0 κ x h=>Eq.trans (by kernel_rfl) (al h)
def Gj {S:Type} (k:Nat):Rw S:=aj Ai cu fun t c0 κ=>aa k (ly k t c0) (aif κ)
def U5 {S:Type} (k:Nat):Fx S:=fp 20 [(21,iJ k),(22,ox (dJ k)),(50,jB k),(51,jx k)] [] k Tryz.f30 1
theorem JX {S:Type} (o:Obj) (ho:ai o) (k:Nat):Tl o 30 (Gj k:Rw S):=ak (U5 k) ⟨jh o ho k,uD o ho k,ke o ho k,j8 o ho k,trivial⟩ Tryz.func30 (by kernel_rfl) fun t c0 κ x h=>Eq.trans (by kernel_rfl) (al h)
def Gk {S:Type} (k:Nat):Rw S:=aj dV xn fun t κ=>aa k (tL k t) (fC κ)
def rV {S:Type} (k:Nat):Fx S:=fp 119 [(21,iJ k),(22,ox (dJ k)),(23,Oq k),(24,Ox k),(25,OF k),(26,OI k),(29,Gi k),(30,Gj k),(31,OL k)] [(1000007,⟨[(1,.none),(2,.none),(6,.none)],[(1,[.none,.none,.none,.none,.none,.none]),(2,[.none,.none,.none,some (200131,true),some (200132,true),some (200133,true)]),(6,[.none])]⟩,ap 4 15),(17,⟨[(2,.none),(8,.none),(10,.none),(11,.none),(12,.none),(13,.none),(14,some (100014,true)),(88,.none),(89,.none),(90,.none)],[(1,[.none,.none,.none,.none,.none,.none]),(2,[.none,.none,.none,some (200131,true),some (200132,true),some (200133,true)]),(6,[.none]),(8,[.none]),(10,[.none,.none,.none,.none,.none,.none]),(11,[.none,.none,.none,.none,.none,.none]),(13,[.none,.none,.none,some (200835,true),.none,some (200837,true)]),(53,[.none])]⟩,ap 16 24575)] k Tryz.f9 0
def L_ (t:Tm):St UU:=⟨[(1,(pt 1)),(2,(pt 2)),(6,(pt 6))],[(1,bT t),(2,.cells [(iI 0),(iI 0),(.str ByteArray.empty),(.own 200131 0),(.own 200132 0),(.own 200133 0)]),(6,.cells [(.int .i64 (IntKind.wrap .i64 ((t.kids.length:Int)-1)))])],[(200133,⟨0,ET.B,([]:List (Br Tm))⟩),(200132,⟨0,ET.T,([]:List Tm)⟩),(200131,⟨0,ET.C,([]:List Cl)⟩)],[(200133,.wr),(200132,.wr),(200131,.wr)]⟩
def Ma (r3:Tm) (r9 r10:Tm×Int) (r13:Int×Int×ByteArray×List Tm×Int) (t x4:Tm) (b53_0:Int) (sys14:List (Br Tm)) (v90:Int):St UU:=⟨[(2,(pt 2)),(8,(pt 8)),(10,(pt 10)),(11,(pt 11)),(12,(.func 26 [] [(pt 1),(pt 6),(pt 8)])),(13,(pt 13)),(14,(.own 100014 0)),(88,(sB x4.sys)),(89,(.int .i64 (x4.sys.length:Int))),(90,(iI v90))],[(1,bT r3),(2,.cells [(iI 0),(iI 0),(.str ByteArray.empty),(.own 200131 0),(.own 200132 0),(.own 200133 0)]),(6,.cells [(.int .i64 (IntKind.wrap .i64 ((t.kids.length:Int)-1)))]),(8,.cells [(pt 53)]),(10,bT r9.1),(11,bT r10.1),(13,.cells [(iI r13.1),(iI r13.2.1),(.str r13.2.2.1),(.own 200835 0),(sT r13.2.2.2.1),(.own 200837 0)]),(53,bI b53_0)],[(200837,⟨0,ET.B,([]:List (Br Tm))⟩),(200835,⟨0,ET.C,([]:List Cl)⟩),(200133,⟨0,ET.B,([]:List (Br Tm))⟩),(200132,⟨0,ET.T,([]:List Tm)⟩),(200131,⟨0,ET.C,([]:List Cl)⟩),(100014,⟨0,ET.B,sys14⟩)],[(200837,.wr),(200835,.wr),(200133,.wr),(200132,.wr),(200131,.wr),(100014,.wr)]⟩
section
variable {S:Type} (k:Nat) (t:Tm) (κ:Out UU→Option S)
theorem Xt (r3 r9 r10 r13 x4): ∀n b53_0 sys14 v90,(rV k).lp κ 17 [] n (Ma r3 r9 r10 r13 t x4 b53_0 sys14 v90)=fX k (fC κ) r3 r9 r10 r13 t x4 n b53_0 sys14 v90:=eW (oR k (fC κ) r3 r9 r10 r13 t x4) rfl (fun _=>rfl) fun r b53_0 sys14 v90=>by kernel_rfl
theorem Xs: ∀n,(rV k).jn κ 1000007 [] n (L_ t)=l6 k (fC κ) t n:=gL (w_ k (fC κ) t (fun r3 r9 r10 r13 x4 b53_0 sys14 v90=>fX k (fC κ) r3 r9 r10 r13 t x4 k b53_0 sys14 v90)) rfl (fun _=>rfl) (Eq.trans (b:=w_ k (fC κ) t (fun r3 r9 r10 r13 x4 b53_0 sys14 v90=>(rV k).lp κ 17 [] k (Ma r3 r9 r10 r13 t x4 b53_0 sys14 v90))) (by kernel_rfl) (by simp only [Xt]))
end
theorem JY {S:Type} (o:Obj) (ho:ai o) (k:Nat):Tl o 9 (Gk k:Rw S):=ak (rV k) ⟨jh o ho k,uD o ho k,aaE o ho k,aaJ o ho k,aaR o ho k,aaU o ho k,JW o ho k,JX o ho k,aaX o ho k,trivial⟩ Tryz.func9 (by kernel_rfl) fun t κ x h=>Eq.trans (b:=HU k (fC κ) ((rV k).jn κ 1000007 [] k (L_ t)) t) (by kernel_rfl) (Eq.trans (by simp only [Xs];rfl) (al h))
def ON {S:Type} (k:Nat):Rw S:=aj ad5 xn fun kind a_r kids κ=>aa k (tO k kind a_r kids) (aih κ)
def U6 {S:Type} (k:Nat):Fx S:=fx 11 (fun _=>[]) (fun _=>false) [] [] k Tryz.f39 true [] 0
theorem aaZ {S:Type} (o:Obj) (ho:ai o) (k:Nat):Tl o 39 (ON k:Rw S):=ak (U6 k) trivial Tryz.func39 (by kernel_rfl) fun kind a_r kids κ x h=>Eq.trans (by kernel_rfl) (al h)
def OO {S:Type} (k:Nat):Rw S:=aj Lq cu fun t a_r c0 κ=>aa k (JL k t a_r c0) (gR κ)
def U7 {S:Type} (k:Nat):Fx S:=fp 18 [(50,jB k),(51,jx k),(123,A2 k)] [] k Tryz.f73 1
theorem aa0 {S:Type} (o:Obj) (ho:ai o) (k:Nat):Tl o 73 (OO k:Rw S):=ak (U7 k) ⟨ke o ho k,j8 o ho k,D9 o ho k,trivial⟩ Tryz.func73 (by kernel_rfl) fun t a_r c0 κ x h=>Eq.trans (by kernel_rfl) (al h)
def OP {S:Type} (k:Nat):Rw S:=aj Ai cu fun t c0 κ=>aa k (JI k t c0) (gR κ)
def U8 {S:Type} (k:Nat):Fx S:=fp 9 [(73,OO k),(74,Bj k)] [] k Tryz.f40 1
theorem aa1 {S:Type} (o:Obj) (ho:ai o) (k:Nat):Tl o 40 (OP k:Rw S):=ak (U8 k) ⟨aa0 o ho k,Eo o ho k,trivial⟩ Tryz.func40 (by kernel_rfl) fun t c0 κ x h=>Eq.trans (by kernel_rfl) (al h)
def OQ {S:Type} (k:Nat):Rw S:=aj ad6 cu fun f a_by c0 κ=>aa k (JK k f a_by c0) (N9 κ)
def U9 {S:Type} (k:Nat):Fx S:=fp 23 [(50,jB k),(51,jx k),(75,oz k)] [] k Tryz.f41 1
theorem aa2 {S:Type} (o:Obj) (ho:ai o) (k:Nat):Tl o 41 (OQ k:Rw S):=ak (U9 k) ⟨ke o ho k,j8 o ho k,pN o ho k,trivial⟩ Tryz.func41 (by kernel_rfl) fun f a_by c0 κ x h=>Eq.trans (by kernel_rfl) (al h)
def OR {S:Type} (k:Nat):Rw S:=aj Lr cu fun t a_by c0 κ=>aa k (JJ k t a_by c0) (gR κ)
def U_ {S:Type} (k:Nat):Fx S:=fp 18 [(50,jB k),(51,jx k),(54,Bf k)] [] k Tryz.f42 1
theorem aa3 {S:Type} (o:Obj) (ho:ai o) (k:Nat):Tl o 42 (OR k:Rw S):=ak (U_ k) ⟨ke o ho k,j8 o ho k,Ek o ho k,trivial⟩ Tryz.func42 (by kernel_rfl) fun t a_by c0 κ x h=>Eq.trans (by kernel_rfl) (al h)
def OS {S:Type} (k:Nat):Rw S:=aj ad7 xn fun kind l kids κ=>aa k (JM k kind l kids) (N7 κ)
def Va {S:Type} (k:Nat):Fx S:=fx 11 (fun _=>[]) (fun _=>false) [] [] k Tryz.f43 true [] 0
theorem aa4 {S:Type} (o:Obj) (ho:ai o) (k:Nat):Tl o 43 (OS k:Rw S):=ak (Va k) trivial Tryz.func43 (by kernel_rfl) fun kind l kids κ x h=>Eq.trans (by kernel_rfl) (al h)
def OT {S:Type} (k:Nat):Rw S:=aj dV xn fun t κ=>aa k (JG k t) (fC κ)
def Cq {S:Type} (k:Nat):Fx S:=fp 133 [(21,iJ k),(22,ox (dJ k)),(29,Gi k),(30,Gj k),(39,ON k),(40,OP k),(41,OQ k),(42,OR k),(43,OS k)] [(20,⟨[(1,.none),(2,.none),(6,.none),(8,.none),(9,.none),(10,.none),(11,some (100011,true)),(94,.none),(95,.none),(96,.none)],[(1,[.none,.none,.none,.none,.none,.none]),(2,[.none,.none,.none,some (200131,true),some (200132,true),some (200133,true)]),(6,[.none,.none,.none,.none,.none,.none]),(9,[.none,.none,.none,.none,.none,.none]),(10,[.none,.none,.none,.none,.none,some (200645,true)]),(44,[.none])]⟩,ap 21 769727)] k Tryz.f14 0
def Mb (r3:Tm) (r15:Int×Int×ByteArray×List Cl×List Tm) (x4:Tm) (r13:Tm×Int) (x5:Tm) (b44_0:Int) (sys11:List (Br Tm)) (v96:Int):St UU:=⟨[(1,(pt 1)),(2,(pt 2)),(6,(pt 6)),(8,(pt 44)),(9,(pt 9)),(10,(pt 10)),(11,(.own 100011 0)),(94,(sB x5.sys)),(95,(.int .i64 (x5.sys.length:Int))),(96,(iI v96))],[(1,bT r3),(2,.cells [(iI 0),(iI 0),(.str ByteArray.empty),(.own 200131 0),(.own 200132 0),(.own 200133 0)]),(6,bT x4),(9,bT r13.1),(10,.cells [(iI r15.1),(iI r15.2.1),(.str r15.2.2.1),(sC r15.2.2.2.1),(sT r15.2.2.2.2),(.own 200645 0)]),(44,bI b44_0)],[(200645,⟨0,ET.B,([]:List (Br Tm))⟩),(200133,⟨0,ET.B,([]:List (Br Tm))⟩),(200132,⟨0,ET.T,([]:List Tm)⟩),(200131,⟨0,ET.C,([]:List Cl)⟩),(100011,⟨0,ET.B,sys11⟩)],[(200645,.wr),(200133,.wr),(200132,.wr),(200131,.wr),(100011,.wr)]⟩
section
variable {S:Type} (k:Nat) (t:Tm) (κ:Out UU→Option S)
theorem Xu (r3 r15 x4 r13 x5): ∀n b44_0 sys11 v96,(Cq k).lp κ 20 [] n (Mb r3 r15 x4 r13 x5 b44_0 sys11 v96)=E7 k (fC κ) r3 r15 x4 r13 x5 n b44_0 sys11 v96:=eW (Jp k (fC κ) r3 r15 x4 r13 x5) rfl (fun _=>rfl) fun r b44_0 sys11 v96=>by kernel_rfl
end
theorem aa5 {S:Type} (o:Obj) (ho:ai o) (k:Nat):Tl o 14 (OT k:Rw S):=ak (Cq k) ⟨jh o ho k,uD o ho k,JW o ho k,JX o ho k,aaZ o ho k,aa1 o ho k,aa2 o ho k,aa3 o ho k,aa4 o ho k,trivial⟩ Tryz.func14 (by kernel_rfl) fun t κ x h=>Eq.trans (b:=SP k (fC κ) (fun r3 r15 x4 r13 x5 b44_0 sys11 v96=>(Cq k).lp κ 20 [] k (Mb r3 r15 x4 r13 x5 b44_0 sys11 v96)) t) (by kernel_rfl) (Eq.trans (by simp only [Xu];rfl) (al h))
section
variable {S:Type} (k:Nat) (a b:List Cl) (κ:Out UU→Option S)
end
section
variable {S:Type} (hd:eN S) (k:Nat) (a b:List Tm) (κ:Out UU→Option S)
end
section
variable {S:Type} (hd:eN S) (k:Nat) (a b:Tm) (κ:Out UU→Option S)
end
end
end Go.Proofs.YtfkkpkhfjpaafaaGreatDoor
namespace Go.Proofs.YtfkkpkhfjpaafaaGreatDoor
open Go PI
set_option linter.unusedVariables false
set_option maxRecDepth 100000
noncomputable section
section
variable {S:Type} (hd:gZ S) (k:Nat) (t:Tm) (κ:Out UU→Option S)
end
section
variable {S:Type} (hd:g4 S) (k:Nat) (t:Tm) (κ:Out UU→Option S)
end
section
variable {S:Type} (hd:g5 S) (k:Nat) (t:Tm) (κ:Out UU→Option S)
end
def Gm {S:Type} (k:Nat):Rw S:=aj fU xn fun kind κ=>aa k (pw k kind) (aE κ)
def Ve {S:Type} (k:Nat):Fx S:=fp 14 [] [] k Tryz.f45 0
theorem JZ {S:Type} (o:Obj) (ho:ai o) (k:Nat):Tl o 45 (Gm k:Rw S):=ak (Ve k) trivial Tryz.func45 (by kernel_rfl) fun kind κ x h=>Eq.trans (by kernel_rfl) (al h)
section
variable {S:Type} (k:Nat) (s:ByteArray) (κ:Out UU→Option S)
end
section
variable {S:Type} (k:Nat) (a_n:Int) (κ:Out UU→Option S)
end
section
variable {S:Type} (k:Nat) (l:List Cl) (c:Cl) (κ:Out UU→Option S)
end
section
variable {S:Type} (k:Nat) (l:List Cl) (κ:Out UU→Option S)
end
section
variable {S:Type} (k:Nat) (l:List Int) (κ:Out UU→Option S)
end
section
variable {S:Type} (k:Nat) (f:List Cl) (κ:Out UU→Option S)
end
section
variable {S:Type} (k:Nat) (s:Int) (κ:Out UU→Option S)
end
section
variable {S:Type} (k:Nat) (kind kid:Int) (κ:Out UU→Option S)
end
section
variable {S:Type} (k:Nat) (c:Cl) (κ:Out UU→Option S)
end
section
variable {S:Type} (k:Nat) (f:List Cl) (κ:Out UU→Option S)
end
section
variable {S:Type} (hd:dP S) (k:Nat) (t:Tm) (vars dims:Int) (bound:Bool) (κ:Out UU→Option S)
end
section
variable {S:Type} (k:Nat) (kind:Int) (l:List (Br Tm)) (κ:Out UU→Option S)
end
section
variable {S:Type} (k:Nat) (l:List Tm) (κ:Out UU→Option S)
end
section
variable {S:Type} (k:Nat) (s a_from a_by:Int) (κ:Out UU→Option S)
end
end
end Go.Proofs.YtfkkpkhfjpaafaaGreatDoor
namespace Go.Proofs.YtfkkpkhfjpaafaaGreatDoor
open Go PI
set_option linter.unusedVariables false
set_option maxRecDepth 100000
noncomputable section
section
variable {S:Type} (k:Nat) (f:List Cl) (a_from a_by:Int) (κ:Out UU→Option S)
end
section
variable {S:Type} (hd:fL S) (k:Nat) (t:Tm) (v vby d dby:Int) (κ:Out UU→Option S)
end
section
variable {S:Type} (k:Nat) (kind:Int) (kids:List Tm) (κ:Out UU→Option S)
end
section
variable {S:Type} (k:Nat) (s i:Int) (κ:Out UU→Option S)
end
section
variable {S:Type} (k:Nat) (l:List Cl) (κ:Out UU→Option S)
end
section
variable {S:Type} (k:Nat) (c:Cl) (κ:Out UU→Option S)
end
section
variable {S:Type} (k:Nat) (a b:Int) (κ:Out UU→Option S)
end
section
variable {S:Type} (k:Nat) (f g:List Cl) (κ:Out UU→Option S)
end
section
variable {S:Type} (k:Nat) (f:List Cl) (κ:Out UU→Option S)
end
section
variable {S:Type} (k:Nat) (f g:List Cl) (κ:Out UU→Option S)
end
section
variable {S:Type} (k:Nat) (f:List Cl) (i:Int) (a_r:List Cl) (κ:Out UU→Option S)
end
section
variable {S:Type} (k:Nat) (f:List Cl) (i:Int) (a_r:List Cl) (κ:Out UU→Option S)
end
section
variable {S:Type} (k:Nat) (s i:Int) (κ:Out UU→Option S)
end
section
variable {S:Type} (k:Nat) (f:List Cl) (i:Int) (κ:Out UU→Option S)
end
section
variable {S:Type} (hd:g6 S) (k:Nat) (t:Tm) (i:Int) (a_r:List Cl) (depth:Int) (drop:Bool) (κ:Out UU→Option S)
end
end
end Go.Proofs.YtfkkpkhfjpaafaaGreatDoor
namespace Go.Proofs.YtfkkpkhfjpaafaaGreatDoor
open Go PI
set_option linter.unusedVariables false
set_option maxRecDepth 100000
noncomputable section
section
variable {S:Type} (k:Nat) (t a:Tm) (sys:List (Br Tm)) (κ:Out UU→Option S)
end
section
variable {S:Type} (hd:fM S) (k:Nat) (t:Tm) (a_n:Int) (κ:Out UU→Option S)
end
section
variable {S:Type} (k:Nat) (t:Tm) (a_from a_by:Int) (κ:Out UU→Option S)
end
section
variable {S:Type} (k:Nat) (t:Tm) (vars dims:Int) (κ:Out UU→Option S)
end
section
variable {S:Type} (hd:eO S) (k:Nat) (t:Tm) (a_n:Int) (u:Tm) (vars dims:Int) (κ:Out UU→Option S)
end
section
variable {S:Type} (k:Nat) (line a:Tm) (sys:List (Br Tm)) (κ:Out UU→Option S)
end
section
variable {S:Type} (k:Nat) (t:Tm) (κ:Out UU→Option S)
end
section
variable {S:Type} (hd:WX S) (k:Nat) (t:Tm) (κ:Out UU→Option S)
end
def po {S:Type} (k:Nat):Rw S:=aj jd xn fun t vars dims κ=>aa k (gC k t vars dims) (aE κ)
def qz {S:Type} (k:Nat):Fx S:=fp 28 [(37,Ol k),(38,vM (ic k))] [] k Tryz.f13 0
theorem sU {S:Type} (o:Obj) (ho:ai o) (k:Nat):Tl o 13 (po k:Rw S):=ak (qz k) ⟨aaA o ho k,K5 o ho k,trivial⟩ Tryz.func13 (by kernel_rfl) fun t vars dims κ x h=>Eq.trans (by kernel_rfl) (al h)
section
variable {S:Type} (k:Nat) (t:Tm) (vars many:Int) (κ:Out UU→Option S)
end
def b7 {S:Type} (k:Nat):Rw S:=aj dV xn fun t κ=>aa k (aU k t) (aE κ)
def bi {S:Type} (k:Nat):Fx S:=fp 26 [(44,Ov k)] [(1000015,aS [1,3] [(1,6)],ap 3 7)] k Tryz.f16 0
def c5 (t:Tm) (v3:Int):St UU:=⟨[(1,(pt 1)),(3,(iI v3))],[(1,bT t)],[],[]⟩
section
variable {S:Type} (k:Nat) (t:Tm) (κ:Out UU→Option S)
theorem eR: ∀n v3,(bi k).jn κ 1000015 [] n (c5 t v3)=aV k (aE κ) t n v3:=nx (bo k (aE κ) t) rfl (fun _=>rfl) (fun v3=>by kernel_rfl)
end
theorem cY {S:Type} (o:Obj) (ho:ai o) (k:Nat):Tl o 16 (b7 k:Rw S):=ak (bi k) ⟨aaH o ho k,trivial⟩ Tryz.func16 (by kernel_rfl) fun t κ x h=>Eq.trans (b:=b8 k (aE κ) (fun v3=>(bi k).jn κ 1000015 [] k (c5 t v3)) t) (by kernel_rfl) (Eq.trans (by simp only [eR];rfl) (al h))
def dl {S:Type} (k:Nat):Rw S:=aj dV xn fun t κ=>aa k (a8 k t) (aE κ)
def eb {S:Type} (k:Nat):Fx S:=fp 24 [(45,Gm k)] [] k Tryz.f17 0
theorem eZ {S:Type} (o:Obj) (ho:ai o) (k:Nat):Tl o 17 (dl k:Rw S):=ak (eb k) ⟨JZ o ho k,trivial⟩ Tryz.func17 (by kernel_rfl) fun t κ x h=>Eq.trans (by kernel_rfl) (al h)
def dm {S:Type} (k:Nat):Rw S:=aj Ag xn fun kind kids κ=>aa k (aK k kind kids) (F9 κ)
def ec {S:Type} (k:Nat):Fx S:=fx 8 (fun _=>[]) (fun _=>false) [] [] k Tryz.f47 true [] 0
theorem fb {S:Type} (o:Obj) (ho:ai o) (k:Nat):Tl o 47 (dm k:Rw S):=ak (ec k) trivial Tryz.func47 (by kernel_rfl) fun kind kids κ x h=>Eq.trans (by kernel_rfl) (al h)
def dn {S:Type} (k:Nat):Rw S:=aj gi xn fun b κ=>aa k (cW k b) (aA κ)
def ef {S:Type} (k:Nat):Fx S:=fp 15 [] [] k Tryz.f282 0
theorem ff {S:Type} (o:Obj) (ho:ai o) (k:Nat):Tl o 282 (dn k:Rw S):=ak (ef k) trivial Tryz.func282 (by kernel_rfl) fun b κ x h=>Eq.trans (by kernel_rfl) (al h)
end
end Go.Proofs.YtfkkpkhfjpaafaaGreatDoor
namespace Go.Proofs.YtfkkpkhfjpaafaaGreatDoor
open Go PI
set_option linter.unusedVariables false
set_option maxRecDepth 100000
noncomputable section
def dv {S:Type} (k:Nat):Rw S:=aj gk xn fun s κ=>aa k (cP k s) (aE κ)
def bk {S:Type} (k:Nat):Fx S:=fp 19 [(282,dn k)] [(2,aS [0,1,7,8] [],ap 4 5)] k Tryz.f281 0
def da (s:List (Br Tm)) (v8:Int):St UU:=⟨[(0,(sB s)),(1,(.func 282 [] [])),(7,(.int .i64 (s.length:Int))),(8,(iI v8))],[],[],[]⟩
section
variable {S:Type} (k:Nat) (s:List (Br Tm)) (κ:Out UU→Option S)
theorem eT: ∀n v8,(bk k).lp κ 2 [] n (da s v8)=bG k (aE κ) s n v8:=cF (cm k (aE κ) s) rfl (fun _=>rfl) fun r v8=>by kernel_rfl
end
theorem fk {S:Type} (o:Obj) (ho:ai o) (k:Nat):Tl o 281 (dv k:Rw S):=ak (bk k) ⟨ff o ho k,trivial⟩ Tryz.func281 (by kernel_rfl) fun s κ x h=>Eq.trans (b:=d8 k (aE κ) (fun v8=>(bk k).lp κ 2 [] k (da s v8)) s) (by kernel_rfl) (Eq.trans (by simp only [eT];rfl) (al h))
def dw {S:Type} (k:Nat):Rw S:=aj adC xn fun l κ=>aa k (cS k l) (aE κ)
def eh {S:Type} (k:Nat):Fx S:=fp 5 [(281,dv k)] [] k Tryz.f235 0
theorem fl {S:Type} (o:Obj) (ho:ai o) (k:Nat):Tl o 235 (dw k:Rw S):=ak (eh k) ⟨fk o ho k,trivial⟩ Tryz.func235 (by kernel_rfl) fun l κ x h=>Eq.trans (by kernel_rfl) (al h)
def dy {S:Type} (k:Nat):Rw S:=aj Ai cu fun t c0 κ=>aa k (aJ k t c0) (bY κ)
def ei {S:Type} (k:Nat):Fx S:=fp 50 [(28,OH k),(40,OP k),(235,dw k)] [] k Tryz.f177 1
theorem fm {S:Type} (o:Obj) (ho:ai o) (k:Nat):Tl o 177 (dy k:Rw S):=ak (ei k) ⟨aaT o ho k,aa1 o ho k,fl o ho k,trivial⟩ Tryz.func177 (by kernel_rfl) fun t c0 κ x h=>Eq.trans (by kernel_rfl) (al h)
def bg {S:Type} (k:Nat):Rw S:=aj eo xn fun a_r κ=>aa k (aW k a_r) (aE κ)
def ej {S:Type} (k:Nat):Fx S:=fp 18 [] [] k Tryz.f176 0
theorem bE {S:Type} (o:Obj) (ho:ai o) (k:Nat):Tl o 176 (bg k:Rw S):=ak (ej k) trivial Tryz.func176 (by kernel_rfl) fun a_r κ x h=>Eq.trans (by kernel_rfl) (al h)
def dA {S:Type} (k:Nat):Rw S:=aj Ai cu fun t c0 κ=>aa k (cA k t c0) (bY κ)
def ek {S:Type} (k:Nat):Fx S:=fp 38 [(73,OO k),(176,bg k)] [] k Tryz.f172 1
theorem fw {S:Type} (o:Obj) (ho:ai o) (k:Nat):Tl o 172 (dA k:Rw S):=ak (ek k) ⟨aa0 o ho k,bE o ho k,trivial⟩ Tryz.func172 (by kernel_rfl) fun t c0 κ x h=>Eq.trans (by kernel_rfl) (al h)
def dB {S:Type} (k:Nat):Rw S:=aj dV xn fun t κ=>aa k (bA k t) (aM κ)
def er {S:Type} (k:Nat):Fx S:=fp 22 [(28,OH k),(176,bg k)] [] k Tryz.f173 0
theorem fy {S:Type} (o:Obj) (ho:ai o) (k:Nat):Tl o 173 (dB k:Rw S):=ak (er k) ⟨aaT o ho k,bE o ho k,trivial⟩ Tryz.func173 (by kernel_rfl) fun t κ x h=>Eq.trans (by kernel_rfl) (al h)
def dF {S:Type} (k:Nat):Rw S:=aj dV xn fun t κ=>aa k (cx k t) (aM κ)
def eu {S:Type} (k:Nat):Fx S:=fp 36 [(39,ON k)] [] k Tryz.f174 0
theorem fA {S:Type} (o:Obj) (ho:ai o) (k:Nat):Tl o 174 (dF k:Rw S):=ak (eu k) ⟨aaZ o ho k,trivial⟩ Tryz.func174 (by kernel_rfl) fun t κ x h=>Eq.trans (by kernel_rfl) (al h)
def dH {S:Type} (k:Nat):Rw S:=aj dV xn fun t κ=>aa k (cE k t) (aM κ)
def ew {S:Type} (k:Nat):Fx S:=fp 48 [(28,OH k),(39,ON k)] [] k Tryz.f175 0
theorem fH {S:Type} (o:Obj) (ho:ai o) (k:Nat):Tl o 175 (dH k:Rw S):=ak (ew k) ⟨aaT o ho k,aaZ o ho k,trivial⟩ Tryz.func175 (by kernel_rfl) fun t κ x h=>Eq.trans (by kernel_rfl) (al h)
def dI {S:Type} (k:Nat):Rw S:=aj Ai cu fun t c0 κ=>aa k (cD k t c0) (bY κ)
def ez {S:Type} (k:Nat):Fx S:=fp 120 [(25,OF k),(172,dA k),(173,dB k),(174,dF k),(175,dH k),(176,bg k),(177,dy k)] [] k Tryz.f130 1
theorem fI {S:Type} (o:Obj) (ho:ai o) (k:Nat):Tl o 130 (dI k:Rw S):=ak (ez k) ⟨aaR o ho k,fw o ho k,fy o ho k,fA o ho k,fH o ho k,bE o ho k,fm o ho k,trivial⟩ Tryz.func130 (by kernel_rfl) fun t c0 κ x h=>Eq.trans (by kernel_rfl) (al h)
def dK {S:Type} (k:Nat):Rw S:=aj dV xn fun t κ=>aa k (cv k t) (fC κ)
def eC {S:Type} (k:Nat):Fx S:=fp 33 [(21,iJ k),(22,ox (dJ k)),(30,Gj k),(130,dI k)] [] k Tryz.f76 0
theorem fQ {S:Type} (o:Obj) (ho:ai o) (k:Nat):Tl o 76 (dK k:Rw S):=ak (eC k) ⟨jh o ho k,uD o ho k,JX o ho k,fI o ho k,trivial⟩ Tryz.func76 (by kernel_rfl) fun t κ x h=>Eq.trans (by kernel_rfl) (al h)
def dL {S:Type} (k:Nat):Rw S:=aj cZ xn fun defs t κ=>aa k (cR k defs t) (aM κ)
def bm {S:Type} (k:Nat):Fx S:=fp 32 [(13,po k),(22,ox (dJ k))] [(4,⟨[(3,.none),(4,.none),(12,.none),(13,.none),(14,.none)],[(3,[.none,.none,.none,.none,.none,.none]),(4,[.none,.none,.none,some (200259,true),some (200260,true),some (200261,true)])]⟩,ap 5 11)] k Tryz.f79 0
def dc (t:Tm) (defs:List Df) (v14:Int):St UU:=⟨[(3,(pt 3)),(4,(pt 4)),(12,(xv defs .none)),(13,(.int .i64 (defs.length:Int))),(14,(iI v14))],[(3,bT t),(4,.cells [(iI 0),(iI 0),(.str ByteArray.empty),(.own 200259 0),(.own 200260 0),(.own 200261 0)])],[(200261,⟨0,ET.B,([]:List (Br Tm))⟩),(200260,⟨0,ET.T,([]:List Tm)⟩),(200259,⟨0,ET.C,([]:List Cl)⟩)],[(200261,.wr),(200260,.wr),(200259,.wr)]⟩
section
variable {S:Type} (k:Nat) (defs:List Df) (t:Tm) (κ:Out UU→Option S)
theorem eV: ∀n v14,(bm k).lp κ 4 [] n (dc t defs v14)=bM k (aM κ) t defs n v14:=cF (cr k (aM κ) t defs) rfl (fun _=>rfl) fun r v14=>by kernel_rfl
end
theorem fY {S:Type} (o:Obj) (ho:ai o) (k:Nat):Tl o 79 (dL k:Rw S):=ak (bm k) ⟨sU o ho k,uD o ho k,trivial⟩ Tryz.func79 (by kernel_rfl) fun defs t κ x h=>Eq.trans (b:=ea k (aM κ) (fun v14=>(bm k).lp κ 4 [] k (dc t defs v14)) defs t) (by kernel_rfl) (Eq.trans (by simp only [eV];rfl) (al h))
def dM {S:Type} (k:Nat):Rw S:=aj Lr bh fun t a_e c0_0 c0_1 c0_2 c0_3 c0_4 c0_5 c0_6 c0_7 κ=>aa k (cJ k t a_e c0_0 c0_1 c0_2 c0_3 c0_4 c0_5 c0_6 c0_7) (gE κ)
def eD {S:Type} (k:Nat):Fx S:=fp 23 [] [] k Tryz.f51 1
theorem fZ {S:Type} (o:Obj) (ho:ai o) (k:Nat):Tl o 51 (dM k:Rw S):=ak (eD k) trivial Tryz.func51 (by kernel_rfl) fun t a_e c0_0 c0_1 c0_2 c0_3 c0_4 c0_5 c0_6 c0_7 κ x h=>Eq.trans (by kernel_rfl) (al h)
def gH {S:Type} (k:Nat):Rw S:=aj EX bh fun c0_0 c0_1 c0_2 c0_3 c0_4 c0_5 c0_6 c0_7 κ=>aa k (aR k c0_0 c0_1 c0_2 c0_3 c0_4 c0_5 c0_6 c0_7) (dj c0_0 c0_1 c0_2 c0_3 c0_4 c0_5 c0_6 c0_7 κ)
def dU {S:Type} (k:Nat):Rw S:=aj EX bh fun c0_0 c0_1 c0_2 c0_3 c0_4 c0_5 c0_6 c0_7 κ=>aa k (aR k c0_0 c0_1 c0_2 c0_3 c0_4 c0_5 c0_6 c0_7) (aA κ)
def eE {S:Type} (k:Nat):Fx S:=fp 8 [] [] k Tryz.f50 1
theorem f7 {S:Type} (o:Obj) (ho:ai o) (k:Nat):Tl o 50 (gH k:Rw S):=ak (eE k) trivial Tryz.func50 (by kernel_rfl) fun c0_0 c0_1 c0_2 c0_3 c0_4 c0_5 c0_6 c0_7 κ x h=>Eq.trans (by kernel_rfl) (al h)
theorem f0 {S:Type} (o:Obj) (ho:ai o) (k:Nat):Tl o 50 (dU k:Rw S):=xD (f7 o ho k) fun c0_0 c0_1 c0_2 c0_3 c0_4 c0_5 c0_6 c0_7 κ x h=>Eq.trans (b:=aa k (aR k c0_0 c0_1 c0_2 c0_3 c0_4 c0_5 c0_6 c0_7) (dj c0_0 c0_1 c0_2 c0_3 c0_4 c0_5 c0_6 c0_7 (DB _ κ))) (by kernel_rfl) (Eq.trans (congrArg (aa k (aR k c0_0 c0_1 c0_2 c0_3 c0_4 c0_5 c0_6 c0_7)) (funext fun r=>if_pos rfl)) h)
def dX {S:Type} (k:Nat):Rw S:=aj Ai bh fun t c0_0 c0_1 c0_2 c0_3 c0_4 c0_5 c0_6 c0_7 κ=>aa k (bD k t c0_0 c0_1 c0_2 c0_3 c0_4 c0_5 c0_6 c0_7) (gF κ)
def eG {S:Type} (k:Nat):Fx S:=fp 20 [(21,iJ k),(22,ox (dJ k)),(50,dU k),(51,dM k)] [] k Tryz.f30 1
theorem f8 {S:Type} (o:Obj) (ho:ai o) (k:Nat):Tl o 30 (dX k:Rw S):=ak (eG k) ⟨jh o ho k,uD o ho k,f0 o ho k,fZ o ho k,trivial⟩ Tryz.func30 (by kernel_rfl) fun t c0_0 c0_1 c0_2 c0_3 c0_4 c0_5 c0_6 c0_7 κ x h=>Eq.trans (by kernel_rfl) (al h)
def dY {S:Type} (k:Nat):Rw S:=aj dV xn fun t κ=>aa k (cX k t) (fC κ)
def eH {S:Type} (k:Nat):Fx S:=fp 100 [(14,OT k),(21,iJ k),(22,ox (dJ k)),(30,dX k)] [] k Tryz.f77 0
theorem f_ {S:Type} (o:Obj) (ho:ai o) (k:Nat):Tl o 77 (dY k:Rw S):=ak (eH k) ⟨aa5 o ho k,jh o ho k,uD o ho k,f8 o ho k,trivial⟩ Tryz.func77 (by kernel_rfl) fun t κ x h=>Eq.trans (by kernel_rfl) (al h)
def dZ {S:Type} (k:Nat):Rw S:=aj dV xn fun t κ=>aa k (cG k t) (gG κ)
def eI {S:Type} (k:Nat):Fx S:=fx 89 (fun _=>[]) (fun _=>false) [(21,iJ k),(22,ox (dJ k))] [] k Tryz.f78 true [] 0
theorem ga {S:Type} (o:Obj) (ho:ai o) (k:Nat):Tl o 78 (dZ k:Rw S):=ak (eI k) ⟨jh o ho k,uD o ho k,trivial⟩ Tryz.func78 (by kernel_rfl) fun t κ x h=>Eq.trans (by kernel_rfl) (al h)
def d1 {S:Type} (k:Nat):Rw S:=aj cZ xn fun defs t κ=>aa k (a_ k defs t) (fC κ)
def aQ {S:Type} (k:Nat):Fx S:=fp 79 [(9,Gk k),(21,iJ k),(76,dK k),(77,dY k),(78,dZ k),(79,dL k)] [(7,⟨[(0,.none),(3,.none),(4,.none),(8,.none),(9,.none),(10,.none),(20,.none)],[(3,[.none,.none,.none,.none,.none,.none]),(4,[.none,.none,.none,some (200259,true),some (200260,true),some (200261,true)]),(8,[.none,.none,.none,.none,.none,.none])]⟩,ap 9 189),(1000022,⟨[(0,.none),(3,.none),(4,.none)],[(3,[.none,.none,.none,.none,.none,.none]),(4,[.none,.none,.none,some (200259,true),some (200260,true),some (200261,true)])]⟩,ap 8 253)] k Tryz.f46 0
def bP (t:Tm) (defs:List Df) (b8_0 b8_1:Int) (b8_2:ByteArray) (b8_3:List Cl) (b8_4:List Tm) (b8_5:List (Br Tm)) (v10 v20:Int) (told9:Bool):St UU:=⟨[(0,(xv defs .none)),(3,(pt 3)),(4,(pt 4)),(8,(pt 8)),(9,(.bool told9)),(10,(iI v10)),(20,(iI v20))],[(3,bT t),(4,.cells [(iI 0),(iI 0),(.str ByteArray.empty),(.own 200259 0),(.own 200260 0),(.own 200261 0)]),(8,.cells [(iI b8_0),(iI b8_1),(.str b8_2),(sC b8_3),(sT b8_4),(sB b8_5)])],[(200261,⟨0,ET.B,([]:List (Br Tm))⟩),(200260,⟨0,ET.T,([]:List Tm)⟩),(200259,⟨0,ET.C,([]:List Cl)⟩)],[(200261,.wr),(200260,.wr),(200259,.wr)]⟩
def dh (t:Tm) (defs:List Df):St UU:=⟨[(0,(xv defs .none)),(3,(pt 3)),(4,(pt 4))],[(3,bT t),(4,.cells [(iI 0),(iI 0),(.str ByteArray.empty),(.own 200259 0),(.own 200260 0),(.own 200261 0)])],[(200261,⟨0,ET.B,([]:List (Br Tm))⟩),(200260,⟨0,ET.T,([]:List Tm)⟩),(200259,⟨0,ET.C,([]:List Cl)⟩)],[(200261,.wr),(200260,.wr),(200259,.wr)]⟩
section
variable {S:Type} (k:Nat) (defs:List Df) (t:Tm) (κ:Out UU→Option S)
theorem eY: ∀n,(aQ k).jn κ 1000022 [] n (dh t defs)=bK k (fC κ) t defs n:=gL (co k (fC κ) t defs) rfl (fun _=>rfl) (by kernel_rfl)
theorem eX: ∀n b8_0 b8_1 b8_2 b8_3 b8_4 b8_5 v10 v20 told9,(aQ k).lp κ 7 [] n (bP t defs b8_0 b8_1 b8_2 b8_3 b8_4 b8_5 v10 v20 told9)=bH k (fC κ) t defs n b8_0 b8_1 b8_2 b8_3 b8_4 b8_5 v10 v20 told9:=gr (fun own=>bu k (fC κ) t defs (bK k (fC κ) t defs k) own) rfl (fun _=>rfl) fun r b8_0 b8_1 b8_2 b8_3 b8_4 b8_5 v10 v20 told9=>Eq.trans (b:=bu k (fC κ) t defs ((aQ k).jn κ 1000022 [] k (dh t defs)) (fun b8_0 b8_1 b8_2 b8_3 b8_4 b8_5 v10 v20 told9=>r (bP t defs b8_0 b8_1 b8_2 b8_3 b8_4 b8_5 v10 v20 told9)) b8_0 b8_1 b8_2 b8_3 b8_4 b8_5 v10 v20 told9) (by kernel_rfl) (by simp only [eY])
end
theorem gb {S:Type} (o:Obj) (ho:ai o) (k:Nat):Tl o 46 (d1 k:Rw S):=ak (aQ k) ⟨JY o ho k,jh o ho k,fQ o ho k,f_ o ho k,ga o ho k,fY o ho k,trivial⟩ Tryz.func46 (by kernel_rfl) fun defs t κ x h=>Eq.trans (b:=d_ k (fC κ) (fun b8_0 b8_1 b8_2 b8_3 b8_4 b8_5 v10 v20 told9=>(aQ k).lp κ 7 [] k (bP t defs b8_0 b8_1 b8_2 b8_3 b8_4 b8_5 v10 v20 told9)) defs t) (by kernel_rfl) (Eq.trans (by simp only [eX];rfl) (al h))
def d2 {S:Type} (k:Nat):Rw S:=aj cn xn fun κ=>aa k (a7 k) (aA κ)
def eK {S:Type} (k:Nat):Fx S:=fp 78 [(16,b7 k),(46,d1 k),(47,dm k)] [] k Tryz.f18 0
theorem gg {S:Type} (o:Obj) (ho:ai o) (k:Nat):Tl o 18 (d2 k:Rw S):=ak (eK k) ⟨cY o ho k,gb o ho k,fb o ho k,trivial⟩ Tryz.func18 (by kernel_rfl) fun κ x h=>Eq.trans (by kernel_rfl) (al h)
def d3 {S:Type} (k:Nat):Rw S:=aj dV xn fun t κ=>aa k (bB k t) (aA κ)
def eM {S:Type} (k:Nat):Fx S:=fp 11 [(16,b7 k),(17,dl k),(18,d2 k)] [] k Tryz.f5 0
theorem gh {S:Type} (o:Obj) (ho:ai o) (k:Nat):Tl o 5 (d3 k:Rw S):=ak (eM k) ⟨cY o ho k,eZ o ho k,gg o ho k,trivial⟩ Tryz.func5 (by kernel_rfl) fun t κ x h=>Eq.trans (by kernel_rfl) (al h)
section
variable {S:Type} (k:Nat) (l:List (List Cl)) (κ:Out UU→Option S)
end
theorem iG {S:Type} (o:Obj) (ho:ai o) (k:Nat):Tl o 5 (d3 k:Rw S):=gh o ho k
end
end Go.Proofs.YtfkkpkhfjpaafaaGreatDoor
namespace Go.Proofs.YtfkkpkhfjpaafaaGreatDoor
open Go PI
set_option linter.unusedVariables false
set_option linter.unusedSimpArgs false
set_option maxRecDepth 20000
variable {S:Type} {k:Nat}
theorem Ly (kd:Int):(kd<0∨kd>28)∨(∃n:Nat,n<29∧kd=n):=by
 by_cases h:kd<0∨kd>28
 ·omega
 ·exact .inr ⟨kd.toNat,by omega,by omega⟩
theorem aiR (kd:Int) (ret:Int→Option S):zA k kd ret=ret (ct kd):=by
 simp only [zA,TQ]
 rcases Ly kd with h|⟨n,hn,rfl⟩
 ·simp only [cH,beq_iff_eq]
  unfold ct
  rw [if_pos h]
  repeat rw [if_neg (by omega)]
 ·unfold ct
  rw [if_neg (by omega),Int.toNat_natCast]
  match n,hn with
  |0,_=>rfl
  |1,_=>rfl
  |2,_=>rfl
  |3,_=>rfl
  |4,_=>rfl
  |5,_=>rfl
  |6,_=>rfl
  |7,_=>rfl
  |8,_=>rfl
  |9,_=>rfl
  |10,_=>rfl
  |11,_=>rfl
  |12,_=>rfl
  |13,_=>rfl
  |14,_=>rfl
  |15,_=>rfl
  |16,_=>rfl
  |17,_=>rfl
  |18,_=>rfl
  |19,_=>rfl
  |20,_=>rfl
  |21,_=>rfl
  |22,_=>rfl
  |23,_=>rfl
  |24,_=>rfl
  |25,_=>rfl
  |26,_=>rfl
  |27,_=>rfl
  |28,_=>rfl
  |n+29,h=>omega
theorem RL (kd:Int) (ret:Int→Option S):pw k kd ret=ret (ct kd):=by
 simp only [pw,Tr,aY]
 unfold ct
 rcases Ly kd with h|⟨n,hn,rfl⟩
 ·grind
 ·rw [if_neg (by omega),if_neg (by omega),if_neg (by omega),yq (by omega),pU,Int.toNat_natCast]
  simp_all [kidsT]
end Go.Proofs.YtfkkpkhfjpaafaaGreatDoor
namespace Go.Proofs.YtfkkpkhfjpaafaaGreatDoor
open Go PI
set_option linter.unusedVariables false
set_option linter.unusedSimpArgs false
set_option maxRecDepth 20000
variable {S:Type} {k:Nat}
end Go.Proofs.YtfkkpkhfjpaafaaGreatDoor
namespace Go.Proofs.YtfkkpkhfjpaafaaGreatDoor
open Go PI
set_option linter.unusedVariables false
set_option linter.unusedSimpArgs false
set_option maxRecDepth 20000
variable {S:Type} {k:Nat}
abbrev Fd (k n:Nat):Prop:=4294967296+n≤k
theorem Fd.fu {n:Nat} (h:Fd k n):Fu k:=by omega
theorem Fd.pos {n:Nat} (h:Fd k n): ∃q,k=q+1∧ ∀j,j+1≤n→Fd q j:=⟨k-1,by omega,fun j hj=>by omega⟩
theorem pF (t:Tm):am t=max (aH t.kids) (aO t.sys)+1:=by cases t;rfl
theorem rM (t:Tm):au t=1+ay t.kids+aI t.sys:=by cases t;rfl
theorem c7 {Q:Tm→Prop} (h: ∀t,(∀x∈t.kids,Q x)→(∀b∈t.sys,∀x∈b.kids,Q x)→Q t) (t:Tm):Q t:=gq (fun kd n nm r ks sys h1 h2=>h (.mk kd n nm r ks sys) h1 h2) t
section
variable {hd:Tm→Int→(Bool→Option S)→Option S} {c0:Int} {t:Tm} {Q:Tm→Bool}
end
section
variable {hd:Tm→Int→(Bool×Int→Option S)→Option S} {t:Tm}
end
section
variable {hd:Tm→Int→Int→Bool→(Bool→Option S)→Option S} {vars dims:Int} {bd:Bool} {t:Tm}
end
end Go.Proofs.YtfkkpkhfjpaafaaGreatDoor
namespace Go.Proofs.YtfkkpkhfjpaafaaGreatDoor
open Go PI
set_option linter.unusedVariables false
set_option linter.unusedSimpArgs false
set_option maxRecDepth 20000
variable {S:Type} {k:Nat}
theorem JO: ∀ {l:List Tm},(∀x∈l,am x≤au x)→aH l≤ay l:=by
 intro l
 induction l<;>grind [aH,ay]
theorem aai: ∀ {l:List (Br Tm)},(∀b∈l,∀x∈b.kids,am x≤au x)→aO l≤aI l:=by
 intro l
 induction l<;>grind [aO,aI,pD,kZ,JO]
theorem zG (t:Tm):am t≤au t:=by
 induction t using c7<;>grind [pF,rM,JO,aai]
section
variable {hd:Tm→(Int→Option S)→Option S} {t:Tm}
end
section
variable {hd:Tm→(Int→Option S)→Option S} {t:Tm}
end
section
variable {hd:Tm→Int→Int→Bool→(Bool→Option S)→Option S} {vars dims:Int} {bd:Bool} {t:Tm}
end
section
variable {hd:Tm→Tm→(Bool→Option S)→Option S}
end
section
variable {hd:Tm→Int→(Int→Option S)→Option S} {t:Tm}
end
end Go.Proofs.YtfkkpkhfjpaafaaGreatDoor
namespace Go.Proofs.YtfkkpkhfjpaafaaGreatDoor
open Go PI
set_option linter.unusedVariables false
set_option linter.unusedSimpArgs false
variable {S:Type} {k:Nat}
mutual
def ax:Tm→Prop
 | .mk kd n nm r ks sys=>(RF r∧(kd=1→r=[])∧0≤kd)∧dQ ks∧eA sys
def dQ:List Tm→Prop
 |[]=>True
 |t::l=>ax t∧dQ l
def eA:List (Br Tm)→Prop
 |[]=>True
 |b::l=>mZ b∧eA l
def mZ:Br Tm→Prop
 | .mk f ks=>RF f∧dQ ks
end
theorem gK: ∀ {l:List Tm},dQ l↔ ∀t∈l,ax t:=by
 intro l
 induction l<;>grind [dQ]
theorem G3 {b:Br Tm}:mZ b↔RF b.face∧ ∀t∈b.kids,ax t:=by cases b;rw [mZ,gK]
theorem gN: ∀ {l:List (Br Tm)},eA l↔ ∀b∈l,RF b.face∧ ∀t∈b.kids,ax t:=by
 intro l
 induction l<;>grind [eA,G3]
end Go.Proofs.YtfkkpkhfjpaafaaGreatDoor
namespace Go.Proofs.YtfkkpkhfjpaafaaGreatDoor
open Go PI
set_option linter.unusedVariables false
set_option linter.unusedSimpArgs false
variable {S:Type} {k:Nat}
inductive F2 {α β:Type} (R:α→β→Prop):List α→List β→Prop
 |nil:F2 R [] []
 |cons {a:α} {b:β} {l:List α} {m:List β}:R a b→F2 R l m→F2 R (a::l) (b::m)
theorem F2.len {α β:Type} {R:α→β→Prop} {l:List α} {m:List β} (h:F2 R l m):m.length=l.length:=by
 induction h<;>grind
theorem F2.imp {α β:Type} {R Q:α→β→Prop} {l:List α} {m:List β} (h:F2 R l m) (hq: ∀a b,R a b→Q a b):F2 Q l m:=by
 induction h<;>grind [nil,cons]
theorem aed {kd:Int} {n:Nat} (h:ct kd=n):0≤kd:=by
 grind [ct]
theorem ZA {bd:Bool} (t:Tm): ∀ {vars dims:Int},OkT t→a6 bd vars dims t=true→ax t:=by
 induction t using gq with
 |h kd n nm r ks sys ih1 ih2=>
  intro vars dims hok h
  rw [a6,Bool.and_eq_true,Bool.and_eq_true,Bool.and_eq_true] at h
  obtain ⟨_,a,b,c⟩:=h
  obtain ⟨o1,o2,o3,o4,o5,o6,o7⟩:=hok.node
  have hok':=hok
  rw [OkT] at hok'
  obtain ⟨_,ok,os⟩:=hok'
  have hkids: ∀ {l:List Tm} {i:Nat},(∀x∈l,∀ {vars dims:Int},OkT x→a6 bd vars dims x=true→ax x)→aZ l→bO bd vars dims kd i l=true→dQ l:=by
   intro l
   induction l<;>grind [dQ,bO,aZ]
  rw [wH,List.all_eq_true] at c
  unfold cL at a
  simp only [Bool.and_eq_true,decide_eq_true_eq] at a
  obtain ⟨⟨a1,a2,a3,a4⟩,a5⟩:=a
  have r0: ∀ {l:List Cl},l.length=0→RF l:=fun h=>by
   grind [rA]
  rw [ax]
  have hfaces:(sys=[]∨sys.all (bX kd dims)=true)∧RF r∧(kd=1→r=[]):=by
   have nosys:cz kd=0→sys=[]:=fun h=>List.length_eq_zero_iff.1 (a4 h)
   by_cases c1:kd=1
   ·rw [if_pos c1] at a5
    simp only [Bool.and_eq_true,decide_eq_true_eq] at a5
    exact ⟨.inl (nosys (by subst c1;decide)),r0 a5.1,fun _=>List.length_eq_zero_iff.1 a5.1⟩
   ·rw [if_neg c1] at a5
    by_cases c2:kd=2
    ·rw [if_pos c2] at a5
     simp only [Bool.and_eq_true,decide_eq_true_eq] at a5
     exact ⟨.inl (nosys (by subst c2;decide)),r0 a5.1,fun h=>absurd h c1⟩
    ·rw [if_neg c2] at a5
     by_cases c3:kd=13∨kd=21∨kd=26
     ·rw [if_pos c3,Bool.and_eq_true] at a5
      exact ⟨.inl (nosys (by rcases c3 with rfl|rfl|rfl<;>decide)),(fF o4).1 a5.1,fun h=>absurd h c1⟩
     ·rw [if_neg c3] at a5
      by_cases c4:kd=14
      ·rw [if_pos c4,Bool.and_eq_true] at a5
       unfold cV at a5
       rw [Bool.and_eq_true] at a5
       exact ⟨.inl (nosys (by subst c4;decide)),(fF o4).1 a5.1.1,fun h=>absurd h c1⟩
      grind
  refine ⟨⟨hfaces.2.1,hfaces.2.2,aed a1⟩,hkids (fun x hx=>ih1 x hx) ok b, ?_⟩
  rw [gN]
  intro br hbr
  have hc:=c br hbr
  rw [List.all_eq_true] at hc
  have hob:=hok.br hbr
  refine ⟨?_,fun x hx=>ih2 br hbr x hx (hob.2 x hx) (hc x hx)⟩
  rcases hfaces.1 with h|h<;>grind [bX,cV,fF]
end Go.Proofs.YtfkkpkhfjpaafaaGreatDoor
namespace Go.Proofs.YtfkkpkhfjpaafaaGreatDoor
open Go PI
set_option linter.unusedVariables false
set_option linter.unusedSimpArgs false
variable {S:Type} {k:Nat}
abbrev dC:=Int→List Cl→Except Int (List Cl)
section
variable {fo fa:dC} {G:Int→List Cl→List Cl}
end
end Go.Proofs.YtfkkpkhfjpaafaaGreatDoor
namespace Go.Proofs.YtfkkpkhfjpaafaaGreatDoor
open Go PI
set_option linter.unusedVariables false
set_option linter.unusedSimpArgs false
set_option maxRecDepth 20000
variable {S:Type} {k:Nat}
def ao:Tm:= .mk 0 0 ByteArray.empty [] [] []
def tE:Except Int Tm→Tm×Int
 | .ok t=>(t,0)
 | .error e=>(ao,e)
section
variable {hd:Int→Int→Tm→Int→Int→(Pan Int Tm→Option S)→Option S} {vb db v d:Int} {t:Tm}
end
section
variable {hd:Tm→Int→Int→Int→Int→(Tm→Option S)→Option S} {vb db v d:Int} {t:Tm}
end
end Go.Proofs.YtfkkpkhfjpaafaaGreatDoor
namespace Go.Proofs.YtfkkpkhfjpaafaaGreatDoor
open Go PI
set_option linter.unusedVariables false
set_option linter.unusedSimpArgs false
set_option maxRecDepth 20000
variable {S:Type} {k:Nat}
theorem eU {t:Tm} (h:bw t=0):am t≤200∧au t≤20000∧a6 false (-1) 24 t=true:=by
 grind [bw]
def Fm (t:Tm):Prop:=OkT t∧bw t=0
theorem Fm.ok {t:Tm} (h:Fm t):OkT t:=h.1
theorem Fm.rows {t:Tm} (h:Fm t):ax t:=ZA t h.1 (eU h.2).2.2
theorem Fm.dep {t:Tm} (h:Fm t):am t≤200:=(eU h.2).1
abbrev F3 (k:Nat):Prop:=4294968296≤k
theorem F3.fu (h:F3 k):Fu k:=by omega
theorem F3.fd (h:F3 k) {n:Nat} (hn:n≤1000):Fd k n:=by omega
theorem Fm.fd {t:Tm} (h:Fm t) (hk:F3 k):Fd k (am t):=hk.fd (by have:=h.dep;omega)
end Go.Proofs.YtfkkpkhfjpaafaaGreatDoor
namespace Go.Proofs.YtfkkpkhfjpaafaaGreatDoor
open Go PI
set_option linter.unusedVariables false
set_option linter.unusedSimpArgs false
set_option maxRecDepth 20000
variable {S:Type} {k:Nat}
section
variable {i d:Int} {r f:List Cl}
end
end Go.Proofs.YtfkkpkhfjpaafaaGreatDoor
namespace Go.Proofs.YtfkkpkhfjpaafaaGreatDoor
open Go PI
set_option linter.unusedVariables false
set_option linter.unusedSimpArgs false
set_option maxRecDepth 20000
variable {S:Type} {k:Nat}
section
variable {fo fa:dC} (hfo: ∀d f e,fo d f= .error e→0<e∧e≤1000) (hfa: ∀d f e,fa d f= .error e→0<e∧e≤1000)
include hfo hfa
end
section
variable {hd:Tm→Int→Int→List Cl→(Tm×Int→Option S)→Option S} {i d:Int} {t:Tm} {r:List Cl}
end
section
variable {hd:Tm→Int→Int→(Tm×Int→Option S)→Option S} {i d:Int} {t:Tm}
end
end Go.Proofs.YtfkkpkhfjpaafaaGreatDoor
namespace Go.Proofs.YtfkkpkhfjpaafaaGreatDoor
open Go PI
set_option linter.unusedVariables false
set_option linter.unusedSimpArgs false
set_option maxRecDepth 20000
variable {S:Type} {k:Nat}
section
variable {hd:Tm→Int→List Cl→Int→Bool→(Tm→Option S)→Option S} {i d:Int} {r:List Cl} {t:Tm}
end
end Go.Proofs.YtfkkpkhfjpaafaaGreatDoor
namespace Go.Proofs.YtfkkpkhfjpaafaaGreatDoor
open Go PI
set_option linter.unusedVariables false
set_option linter.unusedSimpArgs false
set_option maxRecDepth 20000
variable {S:Type} {k:Nat}
def In (k:Nat) (t:Tm):Prop:=OkT t∧Fd k (am t)∧au t<1099511627776
theorem In.dep {t:Tm} (h:In k t):am t<1099511627776:=by have:=zG t;have:=h.2.2;omega
section
variable {c:Int}
end
end Go.Proofs.YtfkkpkhfjpaafaaGreatDoor
namespace Go.Proofs.YtfkkpkhfjpaafaaGreatDoor
open Go PI
set_option linter.unusedVariables false
set_option linter.unusedSimpArgs false
set_option maxRecDepth 100000
variable {S:Type} {k:Nat}
def aP (kd:Int):Int:=if kd=6∨kd=9∨kd=10∨kd=13∨kd=18∨kd=15∨kd=14 then 0 else if kd=22 then 3 else if kd=27 then 4 else-1
def bU:List Int:=[(-1),(-1),(-1),(-1),(-1),(-1),0,(-1),(-1),0,0,(-1),(-1),0,0,0,(-1),(-1),0,(-1),(-1),(-1),3,(-1),(-1),(-1),(-1),4,(-1)]
theorem gD: ∀n:Fin 29,bU[n.val]? =some (aP (n.val:Int)):=by decide
theorem gu {kd:Int} (h:0≤kd∧kd<29):af bU kd=some (aP kd):=by
 obtain ⟨n,rfl⟩: ∃n:Nat,kd=n:=⟨kd.toNat,by omega⟩
 rw [pU]
 exact gD ⟨n,by omega⟩
theorem di {kd:Int} (h:kd<0∨kd>28):aP kd= -1:=by
 unfold aP
 rw [if_neg (by omega),if_neg (by omega),if_neg (by omega)]
def be (t:Tm):Int:=if (t.kids.length:Int)<ct t.kind then-1 else aP t.kind
theorem gO (hk:Fu k) (t:Tm) (ret:Int→Option S):aU k t ret=ret (be t):=by
 have J: ∀v:Int,aV k ret t k v=ret (if (t.kids.length:Int)<ct t.kind then-1 else v):=fun v=>by
  obtain ⟨q,hq⟩: ∃q,k=q+1:=⟨k-1,by have:4294967296≤k:=hk;omega⟩
  have: ∀j,j=q+1→aV k ret t j v=ret (if (t.kids.length:Int)<ct t.kind then-1 else v):=by
   rintro j rfl
   simp only [aV,bo,ag hk,aiR,aY]
   split<;>rfl
  exact this k hq
 simp only [aU,b8,J]
 unfold be aP
 by_cases h1:t.kind=6
 ·simp [h1,ae]
 rw [beq_false_of_ne h1,ad]
 by_cases h2:t.kind=9
 ·simp [h2,ae]
 rw [beq_false_of_ne h2,ad]
 by_cases h3:t.kind=10
 ·simp [h3,ae]
 rw [beq_false_of_ne h3,ad]
 by_cases h4:t.kind=13
 ·simp [h4,ae]
 rw [beq_false_of_ne h4,ad]
 by_cases h5:t.kind=18
 ·simp [h5,ae]
 rw [beq_false_of_ne h5,ad]
 by_cases h6:t.kind=15
 ·simp [h6,ae]
 rw [beq_false_of_ne h6,ad]
 by_cases h7:t.kind=14
 ·simp [h7,ae]
 rw [beq_false_of_ne h7,ad,if_neg (show ¬ (t.kind=6∨t.kind=9∨t.kind=10∨t.kind=13∨t.kind=18∨t.kind=15∨t.kind=14) by omega)]
 by_cases h8:t.kind=22
 ·simp [h8,ae]
 rw [beq_false_of_ne h8,ad,if_neg h8]
 by_cases h9:t.kind=27
 ·simp [h9,ae]
 rw [beq_false_of_ne h9,ad,if_neg h9]
theorem gQ (hk:Fu k) (t:Tm) (ret:Int→Option S):a8 k t ret=ret (be t):=by
 simp only [a8,d5,ag hk,RL,aY]
 unfold be
 split
 ·rfl
 split
 ·rename_i h;rw [di (.inl h)]
 split
 ·rename_i h;rw [di (.inr h)]
 rw [fN _ (by omega)]
 have:=gu (kd:=t.kind) (by omega)
 unfold bU at this
 rw [this];rfl
theorem iH (q:Nat) (ret:Bool→Option S):a7 (q+400) ret=ret true:=by kernel_rfl
theorem gS (hk:F3 k) (ret:Bool→Option S):a7 k ret=ret true:=by
 have hk:4294968296≤k:=hk
 obtain ⟨q,rfl⟩: ∃q,k=q+400:=⟨k-400,by omega⟩
 exact iH q ret
theorem gP (hk:F3 k) {t:Tm} (ht:In k t) (ret:Bool→Option S):bB k t ret=ret true:=by
 simp only [bB,d4,ag hk.fu,ar,gO hk.fu,gQ hk.fu,beq_self_eq_true,ae,gS hk]
end Go.Proofs.YtfkkpkhfjpaafaaGreatDoor
namespace Go.Proofs.YtfkkpkhfjpaafaaGreatDoor
open Go PI Go.ChangeShapes Go.WideShapes Go.ChangeAt Go.RowKit
set_option linter.unusedVariables false
set_option linter.unusedSimpArgs false
set_option maxRecDepth 100000
set_option maxHeartbeats 4000000
theorem adj {k:Nat} (hk:4296016872≤k) {H:Type} {t:Tm} {d:DataW H} (h:QT t d) (hb:Rows.uptoBulk d≤1048576):In k t:=by
 have h1:=h.1
 have h2:=zG t
 exact ⟨h.2 (by omega),by unfold Fd;omega,by omega⟩
theorem agd {k:Nat} (hk:4296016872≤k) {o:Obj} (ho:ai o) {t0:Tm} (h0:In k t0):
  ci (LL o) 5 [.agg (d6 ET.T t0)] [] (.ret (.bool true) []):=by
 have hF:F3 k:=by unfold F3;omega
 obtain ⟨j,rfl⟩: ∃j,k=j+1:=⟨k-1,by omega⟩
 obtain ⟨out,hout,hx⟩:=iG (S:=Out UU) o ho (j+1) [.agg (d6 ET.T t0)] [] some (.ret (.bool true) []) (by
  cases t0
  exact Eq.trans (by kernel_rfl) (gP hF h0 fun r=>some (Out.ret (U:=UU) (.bool r) [])))
 injection hx with hx
 exact hx▸hout
theorem agc (H:Type) (enc:TypeId×Value→H) (W:World) (base:Nat) (args:Array Value) (ds gs:List (DataW H)) (before:List MemPlace)
  (hval: ∀ (j:Nat) t v,Tryz.f5.params[j]? =some t→args[j]? =some v→Value.okWide Tryz.prog W .any base t v)
  (hW:DataW.Whole enc Tryz.prog Tryz.f5.params.toList Rows.stepMainsSpec.vars false W args.toList ds gs before) (hL:laidMetH Tryz.prog Rows.stepMainsRow.laid W) (hb:Rows.uptoBulkAll (ds++gs)≤1048576):
  Calls Tryz.prog 5 args W fun e W'=> ∃v,e= .returned v∧Rows.stepMainsSpec.post enc Tryz.prog Tryz.f5 false true false false W args v W':=by
 have hW':=hW
 obtain ⟨p,q,hA0,hV,rfl,hfz,hnd⟩:=hW
 have hA:DataW.TrodAll enc Tryz.prog W 0 (fun _=>true) true Tryz.f5.params.toList args.toList ds p:=hA0
 rw [Tryz.params5] at hA hval
 obtain ⟨v0,vs0,d0,ds0,p0,q0,hargs,rfl,rfl,h0,r0⟩:=trodAll_cons hA
 obtain ⟨rfl,rfl,rfl⟩:=trodAll_nil r0
 obtain rfl:args= #[v0]:=by cases args;simp_all
 obtain ⟨rfl,rfl⟩:=trodVars_none hV
 obtain ⟨o,ho,hh⟩:=akL hL
 simp only [List.append_nil,Rows.uptoBulkAll,Nat.add_zero] at hb
 obtain ⟨t0,e0,k0⟩:=ZG (o:=o) (g:=gB UU 0 fun _=>0) np h0
 have hk:(4296016872:Nat)≤4296016872:=Nat.le_refl _
 generalize hkk:(4296016872:Nat)=k at hk
 have hok:=agd (k:=k) (by omega) ho (adj (by omega) k0 (by omega))
 refine (ZW hok (adb hh rfl rfl fun j p hj=> ?_)).mono ?_
 ·match j,hj with
  |0,hj=>cases hj;exact e0
  |j+1,hj=>simp at hj
 ·rintro e W' ⟨rfl,hkept⟩
  refine ⟨_,rfl,ahF rfl rfl (fun t ht=> ?_) rfl hW' hkept⟩
  rw [Tryz.params5] at ht
  have ht':t=26:=by simpa using ht
  rcases ht' with rfl<;>exact of_decide_eq_true (by kernel_rfl)
noncomputable def Fb (os:Os):World:=
 {World.holding Tryz.prog os ⟨#[],#[],[]⟩ with heap:=(World.holding Tryz.prog os ⟨#[],#[],[]⟩).heap.modify 0 fun
   | .cells _ t frozen=> .cells (Lib.deBruijn32tab.map fun n:Nat=>Value.int .u8 n).toArray t frozen
   |o=>o}
def alC:Value:= .agg #[.int .i64 0,.int .i64 0,.string ByteArray.empty,.slice none 0 0,.slice none 0 0,.slice none 0 0]
def zeroArgs:Array Value:= #[alC]
def alA {H:Type}:DataW H:= .agg [.lit (.int .i64 0),.lit (.int .i64 0),.lit (.string []),.nil,.nil,.nil]
theorem af_ (os:Os):laidMet Tryz.prog Rows.stepMainsRow.laid ((Fb os).forCall (fun _ _=>0) ⟨#[],zeroArgs,[]⟩).memory:=
 laidMet_of_run' 8 (by kernel_rfl) (by kernel_rfl)
theorem aim (os:Os) {H:Type} (enc:TypeId×Value→H): ∃places,DataW.whole enc Tryz.prog ((Fb os).forCall (fun _ _=>0) ⟨#[],zeroArgs,[]⟩).memory Tryz.f5.params.toList Rows.stepMainsSpec.vars false zeroArgs.toList 8=some ([alA],[],places):=
 ⟨[],by kernel_rfl⟩
theorem agw (os:Os) (started:os.Started) (H:Type) (enc:TypeId×Value→H) (F:Stop.Interp):
  ReturnsInHanded {} Tryz.checked os 5 .any ((Rows.OpenSpec.upto Rows.stepMainsSpec).preRow enc Tryz.prog Tryz.f5 Rows.stepMainsUptoRow.domain false Rows.stepMainsUptoRow.laid) (((Rows.OpenSpec.upto Rows.stepMainsSpec).at F).post enc Tryz.prog Tryz.f5 false true false false):=by
 obtain ⟨places,hx⟩:=aim os enc
 refine returnsInHanded_of_row (C:=Tryz.checked) (s:=Rows.OpenSpec.upto Rows.stepMainsSpec) own started (by kernel_rfl) Tryz.func5
  (witness_row_at (enc:=enc) (C:=Tryz.checked) false (Fb os) zeroArgs rfl (by kernel_rfl) (by kernel_rfl) (by kernel_rfl)
   (OpenSpec.preRow_of_cond 8 hx (by kernel_rfl) (fun k hk=>by cases hk;kernel_rfl) (by kernel_rfl) (af_ os))) ?_
 intro W base args ds gs before hval hW _ hcond _ hL _ _
 exact agc H enc W base args ds gs before hval hW hL (of_decide_eq_true (hcond _ rfl))
theorem aj3:Rows.StepMainsUptoSaid:=
 OpenClaim.holds_of_cond 5 Tryz.f5 rfl rfl rfl rfl rfl rfl rfl ⟨rfl,rfl,rfl,rfl,rfl⟩ rfl rfl rfl rfl rfl (by as_aux_lemma=>kernel_rfl) Tryz.func5 adt
  (of_decide_eq_true (by as_aux_lemma=>kernel_rfl)) (by unfold Func.isWrapper;first|(rw [if_pos (by decide+kernel)];kernel_rfl)|(rw [if_neg (by decide+kernel)];exact ⟨rfl,rfl⟩))
  (fun os started H enc _ F=>by rw [OpenClaim.pre_eq_preRow];exact agw os started H enc F)
theorem plain (f:FuncId) (fn:Func) (hf:Tryz.pinned.checked.prog.funcNamed "hypercube/hypercubelaw21.StepMains" =some f) (hfn:Tryz.pinned.checked.prog.funcs[f]? =some fn):
  true=Tryz.pinned.checked.prog.looks []∧ ∀ (j:Nat) t,fn.params[j]? =some t→Tryz.pinned.checked.prog.wantsStandIn t=false:=by
 obtain rfl:f=5:=Option.some.inj ((show Tryz.prog.funcNamed "hypercube/hypercubelaw21.StepMains" =some 5 by kernel_rfl).symm.trans hf)|>.symm
 obtain rfl:fn=Tryz.f5:=(Option.some.inj (Tryz.func5.symm.trans hfn)).symm
 refine ⟨by kernel_rfl,fun j t ht=> ?_⟩
 rw [Tryz.params5] at ht
 have ht':t=26:=by simpa using Array.mem_of_getElem? ht
 rcases ht' with rfl
 ·exact (show Tryz.prog.wantsStandIn 26=false by kernel_rfl)
theorem stepMains_holds:Rows.StepMainsUptoCardSaid:=
 Claim7.holds_tied_plain_at .later [] _ _ _ _ aj3 (fun _ h=>by cases h) (by as_aux_lemma=>kernel_rfl) (fun _ h=>by cases h) stepMainsUpto_row_tie rfl ⟨rfl,rfl⟩ (by as_aux_lemma=>kernel_rfl) rfl plain (by as_aux_lemma=>kernel_rfl)
#print axioms stepMains_holds
end Go.Proofs.YtfkkpkhfjpaafaaGreatDoor
