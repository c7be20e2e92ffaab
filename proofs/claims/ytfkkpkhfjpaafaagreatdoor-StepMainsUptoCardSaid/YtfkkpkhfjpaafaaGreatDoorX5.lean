/- hypercubelaw21.StepMains returns true for every term: which kid of a node is the main one is as the document has it; the card with an upper bound of the input's bulk. -/
import Derived.Test.YtfkkpkhfjpaafaaGreatDoorX4
import Derived.KernelRfl
namespace Go.Proofs.YtfkkpkhfjpaafaaGreatDoor
open Go PI
set_option linter.unusedVariables false
set_option maxRecDepth 100000
noncomputable section
def eB {S:Type} (k:Nat):Rw S:=ae Ha aD fun a_e c0 κ=>aa k (dx k a_e c0) (IR κ)
def Bz {S:Type} (k:Nat):Fx S:=fp 13 [] [] k Tryz.f140 1
theorem eS {S:Type} (o:Obj) (ho:ad o) (k:Nat):Tl o 140 (eB k:Rw S):=af (Bz k) trivial Tryz.func140 (by kernel_rfl) fun a_e c0 κ x h=>Eq.trans (by kernel_rfl) (ag h)
def pu {S:Type} (k:Nat):Rw S:=ae ul xn fun l κ=>aa k (mb k l) (jK κ)
def kX {S:Type} (k:Nat):Fx S:=fp 22 [(21,bi k),(140,eB k)] [(3,ay [3,8,9,10] [(7,1)],aj 5 11)] k Tryz.f80 0
def vk (l:List Tm) (b7_0 v10:Int):St UU:=⟨[(3,(pt 7)),(8,(sT l)),(9,(.int .i64 (l.length:Int))),(10,(iI v10))],[(7,bI b7_0)],[],[]⟩
section
variable {S:Type} (k:Nat) (l:List Tm) (κ:Out UU→Option S)
theorem Dh: ∀n b7_0 v10,(kX k).lp κ 3 [] n (vk l b7_0 v10)=nG k (jK κ) l n b7_0 v10:=ax (qi k (jK κ) l) rfl (fun _=>rfl) fun r b7_0 v10=>by kernel_rfl
end
theorem tA {S:Type} (o:Obj) (ho:ad o) (k:Nat):Tl o 80 (pu k:Rw S):=af (kX k) ⟨bn o ho k,eS o ho k,trivial⟩ Tryz.func80 (by kernel_rfl) fun l κ x h=>Eq.trans (b:=yW k (jK κ) (fun b7_0 v10=>(kX k).lp κ 3 [] k (vk l b7_0 v10)) l) (by kernel_rfl) (Eq.trans (by simp only [Dh];rfl) (ag h))
def dM {S:Type} (k:Nat):Rw S:=ae fX aD fun c0 κ=>aa k (bZ k c0) (bh c0 κ)
def BA {S:Type} (k:Nat):Fx S:=fp 8 [] [] k Tryz.f84 1
theorem eh {S:Type} (o:Obj) (ho:ad o) (k:Nat):Tl o 84 (dM k:Rw S):=af (BA k) trivial Tryz.func84 (by kernel_rfl) fun c0 κ x h=>Eq.trans (by kernel_rfl) (ag h)
def j5 {S:Type} (k:Nat):Rw S:=ae Hb xn fun l κ=>aa k (it k l) (ap κ)
def kY {S:Type} (k:Nat):Fx S:=fp 15 [(120,eA k)] [(2,ay [5,6,7] [],aj 4 5)] k Tryz.f124 0
def vl (l:List (List Cl)) (v7:Int):St UU:=⟨[(5,(pS l .none)),(6,(.int .i64 (l.length:Int))),(7,(iI v7))],[],[],[]⟩
section
variable {S:Type} (k:Nat) (l:List (List Cl)) (κ:Out UU→Option S)
theorem Di: ∀n v7,(kY k).lp κ 2 [] n (vl l v7)=nY k (ap κ) l n v7:=bo (qG k (ap κ) l) rfl (fun _=>rfl) fun r v7=>by kernel_rfl
end
theorem mY {S:Type} (o:Obj) (ho:ad o) (k:Nat):Tl o 124 (j5 k:Rw S):=af (kY k) ⟨eR o ho k,trivial⟩ Tryz.func124 (by kernel_rfl) fun l κ x h=>Eq.trans (b:=zk k (ap κ) (fun v7=>(kY k).lp κ 2 [] k (vl l v7)) l) (by kernel_rfl) (Eq.trans (by simp only [Di];rfl) (ag h))
def pw {S:Type} (k:Nat):Rw S:=ae cn xn fun κ=>aa k (mn k) (IS κ)
def BB {S:Type} (k:Nat):Fx S:=fx 1 (fun _=>[]) (fun _=>false) [] [] k Tryz.f126 false [true] 0
theorem tB {S:Type} (o:Obj) (ho:ad o) (k:Nat):Tl o 126 (pw k:Rw S):=af (BB k) trivial Tryz.func126 (by kernel_rfl) fun κ x h=>Eq.trans (by kernel_rfl) (ag h)
def px {S:Type} (k:Nat):Rw S:=ae dp xn fun i κ=>aa k (iC k i) (dK κ)
def BC {S:Type} (k:Nat):Fx S:=fp 9 [] [] k Tryz.f230 0
theorem tC {S:Type} (o:Obj) (ho:ad o) (k:Nat):Tl o 230 (px k:Rw S):=af (BC k) trivial Tryz.func230 (by kernel_rfl) fun i κ x h=>Eq.trans (by kernel_rfl) (ag h)
def xv {S:Type} (k:Nat):Rw S:=ae Hc xn fun s a_from a_by κ=>aa k (mu k s a_from a_by) (IT κ)
def BE {S:Type} (k:Nat):Fx S:=fp 46 [(230,px k)] [] k Tryz.f166 0
theorem FO {S:Type} (o:Obj) (ho:ad o) (k:Nat):Tl o 166 (xv k:Rw S):=af (BE k) ⟨tC o ho k,trivial⟩ Tryz.func166 (by kernel_rfl) fun s a_from a_by κ x h=>Eq.trans (by kernel_rfl) (ag h)
def xw {S:Type} (k:Nat):Rw S:=ae He xn fun c a_from a_by κ=>aa k (rG k c a_from a_by) (IU κ)
def BF {S:Type} (k:Nat):Fx S:=fp 42 [(165,pm k),(166,xv k)] [] k Tryz.f128 0
theorem FP {S:Type} (o:Obj) (ho:ad o) (k:Nat):Tl o 128 (xw k:Rw S):=af (BF k) ⟨tu o ho k,FO o ho k,trivial⟩ Tryz.func128 (by kernel_rfl) fun c a_from a_by κ x h=>Eq.trans (by kernel_rfl) (ag h)
def xx {S:Type} (k:Nat):Rw S:=ae Hf ku fun a_have c c0 c1 κ=>aa k (sb k a_have c c0 c1) (IV c0 c1 κ)
def BG {S:Type} (k:Nat):Fx S:=fx 22 (fun _=>[]) (fun _=>false) [(128,xw k)] [] k Tryz.f127 false [true,false] 2
theorem FQ {S:Type} (o:Obj) (ho:ad o) (k:Nat):Tl o 127 (xx k:Rw S):=af (BG k) ⟨FP o ho k,trivial⟩ Tryz.func127 (by kernel_rfl) fun a_have c c0 c1 κ x h=>Eq.trans (by kernel_rfl) (ag h)
def xy {S:Type} (k:Nat):Rw S:=ae Hg ku fun l a_from c0 c1 κ=>aa k (sk k l a_from c0 c1) (jL c0 c1 κ)
def kZ {S:Type} (k:Nat):Fx S:=fx 33 (fun|23=>[true,false]|_=>[]) (fun _=>false) [(127,xx k)] [(2,⟨[(1,some (100001,true)),(2,.none),(13,.none),(14,.none),(15,.none)],[(1000000,[.none]),(1000001,[.none])]⟩,aj 4 5)] k Tryz.f125 false [] 2
def vm (c0 c1:Int) (l:List Cl) (v1:List Cl) (v15:Int):St UU:=⟨[(1,(.own 100001 0)),(2,(.func 127 [] [(pt 1000000),(pt 1000001)])),(13,(sC l)),(14,(.int .i64 (l.length:Int))),(15,(iI v15))],[(1000000,bI c0),(1000001,bI c1)],[(100001,⟨0,ET.C,v1⟩)],[(100001,.wr)]⟩
section
variable {S:Type} (k:Nat) (l a_from:List Cl) (c0 c1:Int) (κ:Out UU→Option S)
theorem Dj: ∀n v1 v15,(kZ k).lp κ 2 [] n (vm c0 c1 l v1 v15)=nW k (jL c0 c1 κ) c0 c1 l n v1 v15:=ax (qD k (jL c0 c1 κ) c0 c1 l) rfl (fun _=>rfl) fun r v1 v15=>by kernel_rfl
end
theorem FR {S:Type} (o:Obj) (ho:ad o) (k:Nat):Tl o 125 (xy k:Rw S):=af (kZ k) ⟨FQ o ho k,trivial⟩ Tryz.func125 (by kernel_rfl) fun l a_from c0 c1 κ x h=>Eq.trans (b:=zh k (jL c0 c1 κ) (fun v1 v15=>(kZ k).lp κ 2 [] k (vm c0 c1 l v1 v15)) l a_from c0 c1) (by kernel_rfl) (Eq.trans (by simp only [Dj];rfl) (ag h))
def eC {S:Type} (k:Nat):Rw S:=ae Hh xn fun f a_from a_by κ=>aa k (d9 k f a_from a_by) (al κ)
def BH {S:Type} (k:Nat):Fx S:=fx 31 (fun|21=>[false,true,false]|_=>[]) (fun _=>false) [(124,j5 k),(125,xy k),(126,pw k),(129,cX k)] [] k Tryz.f75 false [] 0
theorem eT {S:Type} (o:Obj) (ho:ad o) (k:Nat):Tl o 75 (eC k:Rw S):=af (BH k) ⟨mY o ho k,FR o ho k,tB o ho k,di o ho k,trivial⟩ Tryz.func75 (by kernel_rfl) fun f a_from a_by κ x h=>Eq.trans (by kernel_rfl) (ag h)
def xz {S:Type} (k:Nat):Rw S:=ae Hi xn fun l_0 l_1 f a_from κ=>aa k (mr k l_0 l_1 f a_from) (IW κ)
def BI {S:Type} (k:Nat):Fx S:=fp 31 [(75,eC k)] [] k Tryz.f142 0
theorem FS {S:Type} (o:Obj) (ho:ad o) (k:Nat):Tl o 142 (xz k:Rw S):=af (BI k) ⟨eT o ho k,trivial⟩ Tryz.func142 (by kernel_rfl) fun l_0 l_1 f a_from κ x h=>Eq.trans (by kernel_rfl) (ag h)
def gO {S:Type} (hd:bA S):Rw S:=ae Hj xn fun l_0 l_1 t v d κ=>hd l_0 l_1 t v d (aH κ)
def da {S:Type} (hd:bA S) (k:Nat):Fx S:=fp 128 [(36,cY k),(90,gO hd),(142,xz k)] [(1000006,⟨[(2,.none),(3,.none),(4,.none),(5,.none),(8,.none),(9,.none)],[(4,[.none,.none]),(5,[.none,.none,.none,.none,.none,.none]),(8,[.none,.none,.none,some (200515,true),some (200516,true),some (200517,true)]),(9,[.none,.none,.none,.none,some (200580,true),some (200581,true)])]⟩,aj 3 7),(7,⟨[(2,.none),(3,.none),(4,.none),(5,.none),(8,.none),(9,.none),(55,.none),(56,.none),(57,.none)],[(4,[.none,.none]),(5,[.none,.none,.none,.none,.none,.none]),(8,[.none,.none,.none,some (200515,true),some (200516,true),some (200517,true)]),(9,[.none,.none,.none,.none,some (200580,true),some (200581,true)])]⟩,aj 6 23),(16,⟨[(2,.none),(3,.none),(4,.none),(8,.none),(9,.none),(14,.none),(88,.none),(89,.none),(90,.none)],[(4,[.none,.none]),(8,[.none,.none,.none,some (200515,true),some (200516,true),some (200517,true)]),(9,[.none,.none,.none,.none,some (200580,true),some (200581,true)])]⟩,aj 9 191),(20,⟨[(2,.none),(3,.none),(4,.none),(8,.none),(9,.none),(14,.none),(17,.none),(88,.none),(89,.none),(90,.none),(101,.none),(102,.none),(103,.none)],[(4,[.none,.none]),(8,[.none,.none,.none,some (200515,true),some (200516,true),some (200517,true)]),(9,[.none,.none,.none,.none,some (200580,true),some (200581,true)]),(17,[.none,some (201089,true)])]⟩,aj 19 183487)] k Tryz.f90 0
def vn (l_0 l_1:Int) (t:Tm) (r2:List Cl) (v d:Int) (b9_1:Int):St UU:=⟨[(2,(iI v)),(3,(iI d)),(4,(pt 4)),(5,(pt 5)),(8,(pt 8)),(9,(pt 9))],[(4,.cells [(iI l_0),(iI l_1)]),(5,bT t),(8,.cells [(iI 0),(iI 0),(.str ByteArray.empty),(.own 200515 0),(.own 200516 0),(.own 200517 0)]),(9,.cells [(iI t.kind),(iI b9_1),(.str t.name),(sC r2),(.own 200580 0),(.own 200581 0)])],[(200581,⟨0,ET.B,([]:List (Br Tm))⟩),(200580,⟨0,ET.T,([]:List Tm)⟩),(200517,⟨0,ET.B,([]:List (Br Tm))⟩),(200516,⟨0,ET.T,([]:List Tm)⟩),(200515,⟨0,ET.C,([]:List Cl)⟩)],[(200581,.wr),(200580,.wr),(200517,.wr),(200516,.wr),(200515,.wr)]⟩
def oM (l_0 l_1:Int) (t:Tm) (b9_1:Int) (r2:List Cl) (v d:Int) (b9_4:List Tm) (v57:Int):St UU:=⟨[(2,(iI v)),(3,(iI d)),(4,(pt 4)),(5,(pt 5)),(8,(pt 8)),(9,(pt 9)),(55,(sT t.kids)),(56,(.int .i64 (t.kids.length:Int))),(57,(iI v57))],[(4,.cells [(iI l_0),(iI l_1)]),(5,bT t),(8,.cells [(iI 0),(iI 0),(.str ByteArray.empty),(.own 200515 0),(.own 200516 0),(.own 200517 0)]),(9,.cells [(iI t.kind),(iI b9_1),(.str t.name),(sC r2),(.own 200580 0),(.own 200581 0)])],[(200581,⟨0,ET.B,([]:List (Br Tm))⟩),(200580,⟨0,ET.T,b9_4⟩),(200517,⟨0,ET.B,([]:List (Br Tm))⟩),(200516,⟨0,ET.T,([]:List Tm)⟩),(200515,⟨0,ET.C,([]:List Cl)⟩)],[(200581,.wr),(200580,.wr),(200517,.wr),(200516,.wr),(200515,.wr)]⟩
def gw (l_0 l_1:Int) (t:Tm) (b9_1:Int) (r2:List Cl) (b9_4:List Tm) (v d:Int) (b9_5:List (Br Tm)) (more14 v90:Int):St UU:=⟨[(2,(iI v)),(3,(iI d)),(4,(pt 4)),(8,(pt 8)),(9,(pt 9)),(14,(iI more14)),(88,(sB t.sys)),(89,(.int .i64 (t.sys.length:Int))),(90,(iI v90))],[(4,.cells [(iI l_0),(iI l_1)]),(8,.cells [(iI 0),(iI 0),(.str ByteArray.empty),(.own 200515 0),(.own 200516 0),(.own 200517 0)]),(9,.cells [(iI t.kind),(iI b9_1),(.str t.name),(sC r2),(.own 200580 0),(.own 200581 0)])],[(200581,⟨0,ET.B,b9_5⟩),(200580,⟨0,ET.T,b9_4⟩),(200517,⟨0,ET.B,([]:List (Br Tm))⟩),(200516,⟨0,ET.T,([]:List Tm)⟩),(200515,⟨0,ET.C,([]:List Cl)⟩)],[(200581,.wr),(200580,.wr),(200517,.wr),(200516,.wr),(200515,.wr)]⟩
def vo (r12:List Cl) (l_0 l_1:Int) (t:Tm) (b9_1:Int) (r2:List Cl) (b9_4:List Tm) (b9_5:List (Br Tm)) (x10:(Br Tm)) (more14 v d v90:Int) (b17_1:List Tm) (v103:Int):St UU:=⟨[(2,(iI v)),(3,(iI d)),(4,(pt 4)),(8,(pt 8)),(9,(pt 9)),(14,(iI more14)),(17,(pt 17)),(88,(sB t.sys)),(89,(.int .i64 (t.sys.length:Int))),(90,(iI v90)),(101,(sT x10.kids)),(102,(.int .i64 (x10.kids.length:Int))),(103,(iI v103))],[(4,.cells [(iI l_0),(iI l_1)]),(8,.cells [(iI 0),(iI 0),(.str ByteArray.empty),(.own 200515 0),(.own 200516 0),(.own 200517 0)]),(9,.cells [(iI t.kind),(iI b9_1),(.str t.name),(sC r2),(.own 200580 0),(.own 200581 0)]),(17,.cells [(sC r12),(.own 201089 0)])],[(201089,⟨0,ET.T,b17_1⟩),(200581,⟨0,ET.B,b9_5⟩),(200580,⟨0,ET.T,b9_4⟩),(200517,⟨0,ET.B,([]:List (Br Tm))⟩),(200516,⟨0,ET.T,([]:List Tm)⟩),(200515,⟨0,ET.C,([]:List Cl)⟩)],[(201089,.wr),(200581,.wr),(200580,.wr),(200517,.wr),(200516,.wr),(200515,.wr)]⟩
section
variable {S:Type} (hd:bA S) (k:Nat) (l_0 l_1:Int) (t:Tm) (v d:Int) (κ:Out UU→Option S)
theorem Dp (r12 b9_1 r2 b9_4 b9_5 x10 more14 v90 κ2): ∀n b17_1 v103,(da hd k).lp κ 20 [κ2] n (vo r12 l_0 l_1 t b9_1 r2 b9_4 b9_5 x10 more14 v d v90 b17_1 v103)=jj hd k (aH κ) (fun b9_5 more14 v90=>κ2 (gw l_0 l_1 t b9_1 r2 b9_4 v d b9_5 more14 v90)) r12 l_0 l_1 t b9_1 r2 b9_4 b9_5 x10 more14 v d v90 n b17_1 v103:=ax (qN hd k (aH κ) r12 l_0 l_1 t b9_1 r2 b9_4 b9_5 x10 more14 v d v90 (fun b9_5 more14 v90=>κ2 (gw l_0 l_1 t b9_1 r2 b9_4 v d b9_5 more14 v90))) rfl (fun _=>rfl) fun r b17_1 v103=>by kernel_rfl
theorem Dm (b9_1 r2 b9_4): ∀n b9_5 more14 v90,(da hd k).lp κ 16 [] n (gw l_0 l_1 t b9_1 r2 b9_4 v d b9_5 more14 v90)=fY hd k (aH κ) l_0 l_1 t b9_1 r2 b9_4 v d n b9_5 more14 v90:=bQ (fun own=>lx hd k (aH κ) l_0 l_1 t b9_1 r2 b9_4 v d (fun r12 b9_5 x10 more14 v90 b17_1 v103=>jj hd k (aH κ) own r12 l_0 l_1 t b9_1 r2 b9_4 b9_5 x10 more14 v d v90 k b17_1 v103) own) rfl (fun _=>rfl) fun r b9_5 more14 v90=>Eq.trans (b:=lx hd k (aH κ) l_0 l_1 t b9_1 r2 b9_4 v d (fun r12 b9_5 x10 more14 v90 b17_1 v103=>(da hd k).lp κ 20 [r] k (vo r12 l_0 l_1 t b9_1 r2 b9_4 b9_5 x10 more14 v d v90 b17_1 v103)) (fun b9_5 more14 v90=>r (gw l_0 l_1 t b9_1 r2 b9_4 v d b9_5 more14 v90)) b9_5 more14 v90) (by kernel_rfl) (by simp only [Dp])
theorem Dl (b9_1 r2): ∀n b9_4 v57,(da hd k).lp κ 7 [] n (oM l_0 l_1 t b9_1 r2 v d b9_4 v57)=ji hd k (aH κ) l_0 l_1 t b9_1 r2 v d n b9_4 v57:=ax (fun own=>lw hd k (aH κ) l_0 l_1 t b9_1 r2 v d (fun b9_4 b9_5 more14 v90=>fY hd k (aH κ) l_0 l_1 t b9_1 r2 b9_4 v d k b9_5 more14 v90) own) rfl (fun _=>rfl) fun r b9_4 v57=>Eq.trans (b:=lw hd k (aH κ) l_0 l_1 t b9_1 r2 v d (fun b9_4 b9_5 more14 v90=>(da hd k).lp κ 16 [] k (gw l_0 l_1 t b9_1 r2 b9_4 v d b9_5 more14 v90)) (fun b9_4 v57=>r (oM l_0 l_1 t b9_1 r2 v d b9_4 v57)) b9_4 v57) (by kernel_rfl) (by simp only [Dm])
theorem Dk (r2): ∀n b9_1,(da hd k).jn κ 1000006 [] n (vn l_0 l_1 t r2 v d b9_1)=uD hd k (aH κ) l_0 l_1 t r2 v d n b9_1:=nq (lv hd k (aH κ) l_0 l_1 t r2 v d (fun b9_1 b9_4 v57=>ji hd k (aH κ) l_0 l_1 t b9_1 r2 v d k b9_4 v57)) rfl (fun _=>rfl) (fun b9_1=>Eq.trans (b:=lv hd k (aH κ) l_0 l_1 t r2 v d (fun b9_1 b9_4 v57=>(da hd k).lp κ 7 [] k (oM l_0 l_1 t b9_1 r2 v d b9_4 v57)) b9_1) (by kernel_rfl) (by simp only [Dl]))
end
theorem i5 {S:Type} (o:Obj) (ho:ad o): ∀k:Nat,Tl o 90 (gO (bE k:bA S))
 |0=>cv fun l_0 l_1 t v d κ x h=>by cases h
 |k+1=>af (da (bE k) k) ⟨dj o ho k,i5 o ho k,FS o ho k,trivial⟩ Tryz.func90 (by kernel_rfl) fun l_0 l_1 t v d κ x h=>Eq.trans (b:=zt (bE k) k (aH κ) (fun r2 b9_1=>(da (bE k) k).jn κ 1000006 [] k (vn l_0 l_1 t r2 v d b9_1)) l_0 l_1 t v d) (by kernel_rfl) (Eq.trans (by simp only [Dk];rfl) h)
def xA {S:Type} (k:Nat):Rw S:=ae ny z6 fun c0 c1 c2 κ=>aa k (su k c0 c1 c2) (IX c0 c1 c2 κ)
def BJ {S:Type} (k:Nat):Fx S:=fp 11 [(90,gO (bE k))] [] k Tryz.f97 3
theorem FT {S:Type} (o:Obj) (ho:ad o) (k:Nat):Tl o 97 (xA k:Rw S):=af (BJ k) ⟨i5 o ho k,trivial⟩ Tryz.func97 (by kernel_rfl) fun c0 c1 c2 κ x h=>Eq.trans (by kernel_rfl) (ag h)
def xB {S:Type} (k:Nat):Rw S:=ae Hk z6 fun t numbers c0 c1 c2 κ=>aa k (sE k t numbers c0 c1 c2) (jM c0 c1 c2 κ)
def k_ {S:Type} (k:Nat):Fx S:=⟨⟨30,(fun _=>[]),(fun _=>false),.none,fun|6=>true|7=>true|_=>false⟩,[(21,bi k),(97,xA k)],[(5,⟨[(2,.none),(6,.none),(7,.none),(17,.none),(18,.none),(19,.none)],[(1000000,[.none]),(1000001,[.none]),(1000002,[.none,.none,.none,.none,.none,.none]),(5000006,[.none,.none,.none,some (320200387,true),some (320200388,true),some (320200389,true)]),(5000007,[.none])]⟩,aj 5 11)],k,Tryz.f88,false,[],3,some (eK 16 141 Tryz.f141 k)⟩
def vp (c0 c1:Int) (c2:Tm) (numbers:List Int) (v19:Int):St UU:=⟨[(2,(.func 97 [] [(pt 1000000),(pt 1000001),(pt 1000002)])),(6,(pt 5000006)),(7,(pt 5000007)),(17,(dP numbers .none)),(18,(.int .i64 (numbers.length:Int))),(19,(iI v19))],[(1000000,bI c0),(1000001,bI c1),(1000002,bT c2),(5000006,.cells [(iI 0),(iI 0),(.str ByteArray.empty),(.own 320200387 0),(.own 320200388 0),(.own 320200389 0)]),(5000007,bI 0)],[(320200389,⟨0,ET.B,([]:List (Br Tm))⟩),(320200388,⟨0,ET.T,([]:List Tm)⟩),(320200387,⟨0,ET.C,([]:List Cl)⟩)],[(320200389,.wr),(320200388,.wr),(320200387,.wr)]⟩
section
variable {S:Type} (k:Nat) (t:Tm) (numbers:List Int) (c0 c1:Int) (c2:Tm) (κ:Out UU→Option S)
theorem Dq: ∀n v19,(k_ k).lp κ 5 [] n (vp c0 c1 c2 numbers v19)=n7 k (jM c0 c1 c2 κ) c0 c1 c2 numbers n v19:=bo (qM k (jM c0 c1 c2 κ) c0 c1 c2 numbers) rfl (fun _=>rfl) fun r v19=>by kernel_rfl
end
theorem FU {S:Type} (o:Obj) (ho:ad o) (k:Nat):Tl o 88 (xB k:Rw S):=kn (k_ k) rfl (hX o Tryz.func141 (by kernel_rfl)) ⟨bn o ho k,FT o ho k,trivial⟩ Tryz.func88 (by kernel_rfl) fun t numbers c0 c1 c2 κ x h=>Eq.trans (b:=zr k (jM c0 c1 c2 κ) (fun v19=>(k_ k).lp κ 5 [] k (vp c0 c1 c2 numbers v19)) t numbers c0 c1 c2) (by kernel_rfl) (Eq.trans (by simp only [Dq];rfl) (ag h))
def j6 {S:Type} (k:Nat):Rw S:=ae fW xn fun t vars dims κ=>aa k (iy k t vars dims) (bJ κ)
def BL {S:Type} (k:Nat):Fx S:=fp 18 [(88,xB k)] [] k Tryz.f56 0
theorem mZ {S:Type} (o:Obj) (ho:ad o) (k:Nat):Tl o 56 (j6 k:Rw S):=af (BL k) ⟨FU o ho k,trivial⟩ Tryz.func56 (by kernel_rfl) fun t vars dims κ x h=>Eq.trans (by kernel_rfl) (ag h)
def xE {S:Type} (k:Nat):Rw S:=ae nz aD fun t vars dims c0 κ=>aa k (fI k t vars dims c0) (bR κ)
def BM {S:Type} (k:Nat):Fx S:=fp 30 [(56,j6 k),(84,dM k),(140,eB k)] [] k Tryz.f83 1
theorem FW {S:Type} (o:Obj) (ho:ad o) (k:Nat):Tl o 83 (xE k:Rw S):=af (BM k) ⟨mZ o ho k,eh o ho k,eS o ho k,trivial⟩ Tryz.func83 (by kernel_rfl) fun t vars dims c0 κ x h=>Eq.trans (by kernel_rfl) (ag h)
def py {S:Type} (k:Nat):Rw S:=ae dH aD fun t c0 κ=>aa k (fH k t c0) (IZ κ)
def BN {S:Type} (k:Nat):Fx S:=fp 28 [(21,bi k),(84,dM k),(140,eB k)] [] k Tryz.f87 1
theorem tD {S:Type} (o:Obj) (ho:ad o) (k:Nat):Tl o 87 (py k:Rw S):=af (BN k) ⟨bn o ho k,eh o ho k,eS o ho k,trivial⟩ Tryz.func87 (by kernel_rfl) fun t c0 κ x h=>Eq.trans (by kernel_rfl) (ag h)
def xF {S:Type} (k:Nat):Rw S:=ae Hl aD fun f c0 κ=>aa k (rC k f c0) (vV κ)
def BO {S:Type} (k:Nat):Fx S:=fp 23 [(75,eC k),(84,dM k),(140,eB k)] [] k Tryz.f85 1
theorem FX {S:Type} (o:Obj) (ho:ad o) (k:Nat):Tl o 85 (xF k:Rw S):=af (BO k) ⟨eT o ho k,eh o ho k,eS o ho k,trivial⟩ Tryz.func85 (by kernel_rfl) fun f c0 κ x h=>Eq.trans (by kernel_rfl) (ag h)
def xG {S:Type} (k:Nat):Rw S:=ae ny kw fun c0 c1 c2 κ=>aa k (sx k c0 c1 c2) (vW c0 c1 c2 κ)
def BP {S:Type} (k:Nat):Fx S:=fp 10 [(90,gO (bE k))] [] k Tryz.f91 3
theorem FY {S:Type} (o:Obj) (ho:ad o) (k:Nat):Tl o 91 (xG k:Rw S):=af (BP k) ⟨i5 o ho k,trivial⟩ Tryz.func91 (by kernel_rfl) fun c0 c1 c2 κ x h=>Eq.trans (by kernel_rfl) (ag h)
def xH {S:Type} (k:Nat):Rw S:=ae Hm kw fun t numbers c0 c1 c2 κ=>aa k (sA k t numbers c0 c1 c2) (dL c0 c1 c2 κ)
def la {S:Type} (k:Nat):Fx S:=⟨⟨30,(fun _=>[]),(fun _=>false),.none,fun|6=>true|7=>true|_=>false⟩,[(21,bi k),(91,xG k)],[(5,⟨[(2,.none),(6,.none),(7,.none),(17,.none),(18,.none),(19,.none)],[(1000000,[.none]),(1000001,[.none,.none,.none,.none,.none,.none]),(1000002,[.none]),(5000006,[.none,.none,.none,some (320200387,true),some (320200388,true),some (320200389,true)]),(5000007,[.none])]⟩,aj 5 11)],k,Tryz.f88,false,[],3,some (eK 16 141 Tryz.f141 k)⟩
def vq (c0:Int) (c1:Tm) (c2:Int) (numbers:List Int) (v19:Int):St UU:=⟨[(2,(.func 91 [] [(pt 1000000),(pt 1000001),(pt 1000002)])),(6,(pt 5000006)),(7,(pt 5000007)),(17,(dP numbers .none)),(18,(.int .i64 (numbers.length:Int))),(19,(iI v19))],[(1000000,bI c0),(1000001,bT c1),(1000002,bI c2),(5000006,.cells [(iI 0),(iI 0),(.str ByteArray.empty),(.own 320200387 0),(.own 320200388 0),(.own 320200389 0)]),(5000007,bI 0)],[(320200389,⟨0,ET.B,([]:List (Br Tm))⟩),(320200388,⟨0,ET.T,([]:List Tm)⟩),(320200387,⟨0,ET.C,([]:List Cl)⟩)],[(320200389,.wr),(320200388,.wr),(320200387,.wr)]⟩
section
variable {S:Type} (k:Nat) (t:Tm) (numbers:List Int) (c0:Int) (c1:Tm) (c2:Int) (κ:Out UU→Option S)
theorem Dr: ∀n v19,(la k).lp κ 5 [] n (vq c0 c1 c2 numbers v19)=n4 k (dL c0 c1 c2 κ) c0 c1 c2 numbers n v19:=bo (qK k (dL c0 c1 c2 κ) c0 c1 c2 numbers) rfl (fun _=>rfl) fun r v19=>by kernel_rfl
end
theorem FZ {S:Type} (o:Obj) (ho:ad o) (k:Nat):Tl o 88 (xH k:Rw S):=kn (la k) rfl (hX o Tryz.func141 (by kernel_rfl)) ⟨bn o ho k,FY o ho k,trivial⟩ Tryz.func88 (by kernel_rfl) fun t numbers c0 c1 c2 κ x h=>Eq.trans (b:=zp k (dL c0 c1 c2 κ) (fun v19=>(la k).lp κ 5 [] k (vq c0 c1 c2 numbers v19)) t numbers c0 c1 c2) (by kernel_rfl) (Eq.trans (by simp only [Dr];rfl) (ag h))
def j7 {S:Type} (k:Nat):Rw S:=ae fW xn fun t a_from a_by κ=>aa k (iz k t a_from a_by) (bJ κ)
def BQ {S:Type} (k:Nat):Fx S:=fp 16 [(88,xH k)] [] k Tryz.f54 0
theorem m0 {S:Type} (o:Obj) (ho:ad o) (k:Nat):Tl o 54 (j7 k:Rw S):=af (BQ k) ⟨FZ o ho k,trivial⟩ Tryz.func54 (by kernel_rfl) fun t a_from a_by κ x h=>Eq.trans (by kernel_rfl) (ag h)
def gP {S:Type} (k:Nat):Rw S:=ae ja xn fun s i κ=>aa k (ea k s i) (dK κ)
def BR {S:Type} (k:Nat):Fx S:=fp 16 [(257,gM k)] [] k Tryz.f259 0
theorem iL {S:Type} (o:Obj) (ho:ad o) (k:Nat):Tl o 259 (gP k:Rw S):=af (BR k) ⟨iJ o ho k,trivial⟩ Tryz.func259 (by kernel_rfl) fun s i κ x h=>Eq.trans (by kernel_rfl) (ag h)
def xJ {S:Type} (k:Nat):Rw S:=ae nu xn fun a_x κ=>aa k (sF k a_x) (ap κ)
def BS {S:Type} (k:Nat):Fx S:=fp 21 [] [] k Tryz.f291 0
theorem F0 {S:Type} (o:Obj) (ho:ad o) (k:Nat):Tl o 291 (xJ k:Rw S):=af (BS k) trivial Tryz.func291 (by kernel_rfl) fun a_x κ x h=>Eq.trans (by kernel_rfl) (ag h)
def j8 {S:Type} (k:Nat):Rw S:=ae nu xn fun s κ=>aa k (iA k s) (ap κ)
def BT {S:Type} (k:Nat):Fx S:=fp 6 [(291,xJ k)] [] k Tryz.f258 0
theorem m6 {S:Type} (o:Obj) (ho:ad o) (k:Nat):Tl o 258 (j8 k:Rw S):=af (BT k) ⟨F0 o ho k,trivial⟩ Tryz.func258 (by kernel_rfl) fun s κ x h=>Eq.trans (by kernel_rfl) (ag h)
def xK {S:Type} (k:Nat):Rw S:=ae dp xn fun i κ=>aa k (rH k i) (ar κ)
def BU {S:Type} (k:Nat):Fx S:=fp 7 [(258,j8 k),(259,gP k)] [] k Tryz.f216 0
theorem F1 {S:Type} (o:Obj) (ho:ad o) (k:Nat):Tl o 216 (xK k:Rw S):=af (BU k) ⟨m6 o ho k,iL o ho k,trivial⟩ Tryz.func216 (by kernel_rfl) fun i κ x h=>Eq.trans (by kernel_rfl) (ag h)
def xL {S:Type} (k:Nat):Rw S:=ae uo xn fun t i a_r κ=>aa k (rT k t i a_r) (ap κ)
def BV {S:Type} (k:Nat):Fx S:=fp 21 [(21,bi k),(120,eA k),(216,xK k)] [] k Tryz.f161 0
theorem F4 {S:Type} (o:Obj) (ho:ad o) (k:Nat):Tl o 161 (xL k:Rw S):=af (BV k) ⟨bn o ho k,eR o ho k,F1 o ho k,trivial⟩ Tryz.func161 (by kernel_rfl) fun t i a_r κ x h=>Eq.trans (by kernel_rfl) (ag h)
def xM {S:Type} (k:Nat):Rw S:=ae up g4 fun c0 c1 κ=>aa k (rL k c0 c1) (I0 c0 c1 κ)
def BW {S:Type} (k:Nat):Fx S:=fp 6 [] [] k Tryz.f217 2
theorem F5 {S:Type} (o:Obj) (ho:ad o) (k:Nat):Tl o 217 (xM k:Rw S):=af (BW k) trivial Tryz.func217 (by kernel_rfl) fun c0 c1 κ x h=>Eq.trans (by kernel_rfl) (ag h)
def xN {S:Type} (k:Nat):Rw S:=ae Hn g4 fun c0 c1 κ=>aa k (rM k c0 c1) (I1 c0 c1 κ)
def BX {S:Type} (k:Nat):Fx S:=fp 6 [] [] k Tryz.f217 2
theorem F6 {S:Type} (o:Obj) (ho:ad o) (k:Nat):Tl o 217 (xN k:Rw S):=af (BX k) trivial Tryz.func217 (by kernel_rfl) fun c0 c1 κ x h=>Eq.trans (by kernel_rfl) (ag h)
def xO {S:Type} (k:Nat):Rw S:=ae Ho xn fun i a_r κ=>aa k (rJ k i a_r) (I2 κ)
def BY {S:Type} (k:Nat):Fx S:=fp 12 [(217,ew (fS up g4) (xM k) (xN k))] [] k Tryz.f162 0
theorem F7 {S:Type} (o:Obj) (ho:ad o) (k:Nat):Tl o 162 (xO k:Rw S):=af (BY k) ⟨gG (F5 o ho k) (F6 o ho k),trivial⟩ Tryz.func162 (by kernel_rfl) fun i a_r κ x h=>Eq.trans (by kernel_rfl) (ag h)
def gQ {S:Type} (k:Nat):Rw S:=ae ja xn fun s i κ=>aa k (dy k s i) (ar κ)
def BZ {S:Type} (k:Nat):Fx S:=fp 15 [(257,gM k)] [] k Tryz.f219 0
theorem iM {S:Type} (o:Obj) (ho:ad o) (k:Nat):Tl o 219 (gQ k:Rw S):=af (BZ k) ⟨iJ o ho k,trivial⟩ Tryz.func219 (by kernel_rfl) fun s i κ x h=>Eq.trans (by kernel_rfl) (ag h)
def pz {S:Type} (k:Nat):Rw S:=ae cP xn fun f κ=>aa k (mf k f) (e_ κ)
def B0 {S:Type} (k:Nat):Fx S:=fp 5 [] [] k Tryz.f220 0
theorem tF {S:Type} (o:Obj) (ho:ad o) (k:Nat):Tl o 220 (pz k:Rw S):=af (B0 k) trivial Tryz.func220 (by kernel_rfl) fun f κ x h=>Eq.trans (by kernel_rfl) (ag h)
def xP {S:Type} (k:Nat):Rw S:=ae dp xn fun i κ=>aa k (rW k i) (ar κ)
def B1 {S:Type} (k:Nat):Fx S:=fp 7 [(258,j8 k),(259,gP k)] [] k Tryz.f265 0
theorem F8 {S:Type} (o:Obj) (ho:ad o) (k:Nat):Tl o 265 (xP k:Rw S):=af (B1 k) ⟨m6 o ho k,iL o ho k,trivial⟩ Tryz.func265 (by kernel_rfl) fun i κ x h=>Eq.trans (by kernel_rfl) (ag h)
def pA {S:Type} (k:Nat):Rw S:=ae i_ xn fun c κ=>aa k (ml k c) (I3 κ)
def B2 {S:Type} (k:Nat):Fx S:=fp 8 [(160,po k)] [] k Tryz.f295 0
theorem tG {S:Type} (o:Obj) (ho:ad o) (k:Nat):Tl o 295 (pA k:Rw S):=af (B2 k) ⟨tw o ho k,trivial⟩ Tryz.func295 (by kernel_rfl) fun c κ x h=>Eq.trans (by kernel_rfl) (ag h)
def xQ {S:Type} (k:Nat):Rw S:=ae Hp xn fun l κ=>aa k (rZ k l) (e_ κ)
def lb {S:Type} (k:Nat):Fx S:=fp 29 [(295,pA k)] [(3,⟨[(1,.none),(5,some (100005,true)),(10,.none),(11,.none),(12,.none)],[]⟩,aj 5 11)] k Tryz.f294 0
def vt (l:List Cl) (v12:Int) (out5:List Cl):St UU:=⟨[(1,(.func 295 [] [])),(5,(.own 100005 0)),(10,(sC l)),(11,(.int .i64 (l.length:Int))),(12,(iI v12))],[],[(100005,⟨0,ET.C,out5⟩)],[(100005,.wr)]⟩
section
variable {S:Type} (k:Nat) (l:List Cl) (κ:Out UU→Option S)
theorem Dv: ∀n v12 out5,(lb k).lp κ 3 [] n (vt l v12 out5)=nR k (e_ κ) l n v12 out5:=ax (qy k (e_ κ) l) rfl (fun _=>rfl) fun r v12 out5=>by kernel_rfl
end
theorem F9 {S:Type} (o:Obj) (ho:ad o) (k:Nat):Tl o 294 (xQ k:Rw S):=af (lb k) ⟨tG o ho k,trivial⟩ Tryz.func294 (by kernel_rfl) fun l κ x h=>Eq.trans (b:=zc k (e_ κ) (fun v12 out5=>(lb k).lp κ 3 [] k (vt l v12 out5)) l) (by kernel_rfl) (Eq.trans (by simp only [Dv];rfl) (ag h))
def pB {S:Type} (k:Nat):Rw S:=ae cP xn fun f κ=>aa k (mj k f) (al κ)
def B3 {S:Type} (k:Nat):Fx S:=fp 12 [(120,eA k),(129,cX k),(294,xQ k)] [] k Tryz.f266 0
theorem tH {S:Type} (o:Obj) (ho:ad o) (k:Nat):Tl o 266 (pB k:Rw S):=af (B3 k) ⟨eR o ho k,di o ho k,F9 o ho k,trivial⟩ Tryz.func266 (by kernel_rfl) fun f κ x h=>Eq.trans (by kernel_rfl) (ag h)
def xR {S:Type} (k:Nat):Rw S:=ae nw g0 fun b c0 κ=>aa k (r_ k b c0) (I4 c0 κ)
def B5 {S:Type} (k:Nat):Fx S:=fp 11 [(231,jZ k),(295,pA k)] [] k Tryz.f296 1
theorem F_ {S:Type} (o:Obj) (ho:ad o) (k:Nat):Tl o 296 (xR k:Rw S):=af (B5 k) ⟨mT o ho k,tG o ho k,trivial⟩ Tryz.func296 (by kernel_rfl) fun b c0 κ x h=>Eq.trans (by kernel_rfl) (ag h)
def xS {S:Type} (k:Nat):Rw S:=ae Hq g0 fun l c0 κ=>aa k (rY k l c0) (jN c0 κ)
def lc {S:Type} (k:Nat):Fx S:=fp 29 [(296,xR k)] [(3,⟨[(1,.none),(5,some (100005,true)),(10,.none),(11,.none),(12,.none)],[(1000000,[.none,.none])]⟩,aj 5 11)] k Tryz.f294 1
def vv (c0:Cl) (l:List Cl) (v12:Int) (out5:List Cl):St UU:=⟨[(1,(.func 296 [] [(pt 1000000)])),(5,(.own 100005 0)),(10,(sC l)),(11,(.int .i64 (l.length:Int))),(12,(iI v12))],[(1000000,bC c0)],[(100005,⟨0,ET.C,out5⟩)],[(100005,.wr)]⟩
section
variable {S:Type} (k:Nat) (l:List Cl) (c0:Cl) (κ:Out UU→Option S)
theorem Dz: ∀n v12 out5,(lc k).lp κ 3 [] n (vv c0 l v12 out5)=nQ k (jN c0 κ) c0 l n v12 out5:=ax (qx k (jN c0 κ) c0 l) rfl (fun _=>rfl) fun r v12 out5=>by kernel_rfl
end
theorem Ga {S:Type} (o:Obj) (ho:ad o) (k:Nat):Tl o 294 (xS k:Rw S):=af (lc k) ⟨F_ o ho k,trivial⟩ Tryz.func294 (by kernel_rfl) fun l c0 κ x h=>Eq.trans (b:=zb k (jN c0 κ) (fun v12 out5=>(lc k).lp κ 3 [] k (vv c0 l v12 out5)) l c0) (by kernel_rfl) (Eq.trans (by simp only [Dz];rfl) (ag h))
def xU {S:Type} (k:Nat):Rw S:=ae fV xn fun f g κ=>aa k (mm k f g) (al κ)
def ld {S:Type} (k:Nat):Fx S:=fp 25 [(129,cX k),(294,xS k)] [(3,⟨[(1,.none),(6,some (100006,true)),(9,.none),(10,.none),(11,.none)],[]⟩,aj 5 11)] k Tryz.f267 0
def vw (g f:List Cl) (v11:Int) (out6:List Cl):St UU:=⟨[(1,(sC g)),(6,(.own 100006 0)),(9,(sC f)),(10,(.int .i64 (f.length:Int))),(11,(iI v11))],[],[(100006,⟨0,ET.C,out6⟩)],[(100006,.wr)]⟩
section
variable {S:Type} (k:Nat) (f g:List Cl) (κ:Out UU→Option S)
theorem DA: ∀n v11 out6,(ld k).lp κ 3 [] n (vw g f v11 out6)=nS k (al κ) g f n v11 out6:=ax (qz k (al κ) g f) rfl (fun _=>rfl) fun r v11 out6=>by kernel_rfl
end
theorem Gb {S:Type} (o:Obj) (ho:ad o) (k:Nat):Tl o 267 (xU k:Rw S):=af (ld k) ⟨di o ho k,Ga o ho k,trivial⟩ Tryz.func267 (by kernel_rfl) fun f g κ x h=>Eq.trans (b:=zd k (al κ) (fun v11 out6=>(ld k).lp κ 3 [] k (vw g f v11 out6)) f g) (by kernel_rfl) (Eq.trans (by simp only [DA];rfl) (ag h))
def xV {S:Type} (k:Nat):Rw S:=ae fV xn fun f g κ=>aa k (rX k f g) (al κ)
def B6 {S:Type} (k:Nat):Fx S:=fp 14 [(129,cX k)] [] k Tryz.f269 0
theorem Gc {S:Type} (o:Obj) (ho:ad o) (k:Nat):Tl o 269 (xV k:Rw S):=af (B6 k) ⟨di o ho k,trivial⟩ Tryz.func269 (by kernel_rfl) fun f g κ x h=>Eq.trans (by kernel_rfl) (ag h)
def j_ {S:Type} (k:Nat):Rw S:=ae cn xn fun κ=>aa k (iq k) (e_ κ)
def B7 {S:Type} (k:Nat):Fx S:=fp 3 [] [] k Tryz.f74 0
theorem m7 {S:Type} (o:Obj) (ho:ad o) (k:Nat):Tl o 74 (j_ k:Rw S):=af (B7 k) trivial Tryz.func74 (by kernel_rfl) fun κ x h=>Eq.trans (by kernel_rfl) (ag h)
def xW {S:Type} (k:Nat):Rw S:=ae i_ xn fun c κ=>aa k (sn k c) (al κ)
def fA {S:Type} (k:Nat):Fx S:=fp 43 [(129,cX k),(259,gP k),(313,pJ)] [(3,⟨[(1,.none),(4,some (100004,true)),(11,.none),(12,.none),(13,.none)],[(1,[.none,.none])]⟩,aj 5 11),(8,⟨[(4,some (100004,true)),(26,.none),(27,.none),(28,.none)],[]⟩,aj 6 23)] k Tryz.f293 0
def oP (c:Cl) (r1:List Int) (v13:Int) (out4:List Cl):St UU:=⟨[(1,(pt 1)),(4,(.own 100004 0)),(11,(dP r1 .none)),(12,(.int .i64 (r1.length:Int))),(13,(iI v13))],[(1,bC c)],[(100004,⟨0,ET.C,out4⟩)],[(100004,.wr)]⟩
def vz (r5:List Int) (v28:Int) (out4':List Cl):St UU:=⟨[(4,(.own 100004 0)),(26,(dP r5 .none)),(27,(.int .i64 (r5.length:Int))),(28,(iI v28))],[],[(100004,⟨0,ET.C,out4'⟩)],[(100004,.wr)]⟩
section
variable {S:Type} (k:Nat) (c:Cl) (κ:Out UU→Option S)
theorem DC (r5): ∀n v28 out4',(fA k).lp κ 8 [] n (vz r5 v28 out4')=jg k (al κ) r5 n v28 out4':=ax (qF k (al κ) r5) rfl (fun _=>rfl) fun r v28 out4'=>by kernel_rfl
theorem DB (r1): ∀n v13 out4,(fA k).lp κ 3 [] n (oP c r1 v13 out4)=nX k (al κ) c r1 n v13 out4:=ax (fun own=>ls k (al κ) c r1 (fun r5 v28 out4'=>jg k (al κ) r5 k v28 out4') own) rfl (fun _=>rfl) fun r v13 out4=>Eq.trans (b:=ls k (al κ) c r1 (fun r5 v28 out4'=>(fA k).lp κ 8 [] k (vz r5 v28 out4')) (fun v13 out4=>r (oP c r1 v13 out4)) v13 out4) (by kernel_rfl) (by simp only [DC])
end
theorem Gd {S:Type} (o:Obj) (ho:ad o) (k:Nat):Tl o 293 (xW k:Rw S):=af (fA k) ⟨di o ho k,iL o ho k,Mi o ho,trivial⟩ Tryz.func293 (by kernel_rfl) fun c κ x h=>Eq.trans (b:=zj k (al κ) (fun r1 v13 out4=>(fA k).lp κ 3 [] k (oP c r1 v13 out4)) c) (by kernel_rfl) (Eq.trans (by simp only [DB];rfl) (ag h))
def pD {S:Type} (k:Nat):Rw S:=ae fV xn fun f g κ=>aa k (fK k f g) (al κ)
def fB {S:Type} (k:Nat):Fx S:=fp 35 [(129,cX k),(231,jZ k)] [(3,⟨[(1,.none),(6,some (100006,true)),(11,.none),(12,.none),(13,.none)],[]⟩,aj 5 11),(6,⟨[(1,.none),(6,some (100006,true)),(8,.none),(11,.none),(12,.none),(13,.none),(17,.none),(18,.none),(19,.none)],[(8,[.none,.none])]⟩,aj 13 3275)] k Tryz.f262 0
def gz (g f:List Cl) (v13:Int) (out6:List Cl):St UU:=⟨[(1,(sC g)),(6,(.own 100006 0)),(11,(sC f)),(12,(.int .i64 (f.length:Int))),(13,(iI v13))],[],[(100006,⟨0,ET.C,out6⟩)],[(100006,.wr)]⟩
def vA (x1:Cl) (g f:List Cl) (v13:Int) (v19:Int) (out6':List Cl):St UU:=⟨[(1,(sC g)),(6,(.own 100006 0)),(8,(pt 8)),(11,(sC f)),(12,(.int .i64 (f.length:Int))),(13,(iI v13)),(17,(sC g)),(18,(.int .i64 (g.length:Int))),(19,(iI v19))],[(8,bC x1)],[(100006,⟨0,ET.C,out6'⟩)],[(100006,.wr)]⟩
section
variable {S:Type} (k:Nat) (f g:List Cl) (κ:Out UU→Option S)
theorem DE (x1 v13 κ0): ∀n v19 out6',(fB k).lp κ 6 [κ0] n (vA x1 g f v13 v19 out6')=jf k (al κ) (fun v13 out6=>κ0 (gz g f v13 out6)) x1 g f v13 n v19 out6':=ax (qE k (al κ) x1 g f v13 (fun v13 out6=>κ0 (gz g f v13 out6))) rfl (fun _=>rfl) fun r v19 out6'=>by kernel_rfl
theorem DD: ∀n v13 out6,(fB k).lp κ 3 [] n (gz g f v13 out6)=je k (al κ) g f n v13 out6:=ax (fun own=>lr k (al κ) g f (fun x1 v13 v19 out6'=>jf k (al κ) own x1 g f v13 k v19 out6') own) rfl (fun _=>rfl) fun r v13 out6=>Eq.trans (b:=lr k (al κ) g f (fun x1 v13 v19 out6'=>(fB k).lp κ 6 [r] k (vA x1 g f v13 v19 out6')) (fun v13 out6=>r (gz g f v13 out6)) v13 out6) (by kernel_rfl) (by simp only [DE])
end
theorem tJ {S:Type} (o:Obj) (ho:ad o) (k:Nat):Tl o 262 (pD k:Rw S):=af (fB k) ⟨di o ho k,mT o ho k,trivial⟩ Tryz.func262 (by kernel_rfl) fun f g κ x h=>Eq.trans (b:=zi k (al κ) (fun v13 out6=>(fB k).lp κ 3 [] k (gz g f v13 out6)) f g) (by kernel_rfl) (Eq.trans (by simp only [DD];rfl) (ag h))
def xX {S:Type} (k:Nat):Rw S:=ae Hr xn fun a_have c κ=>aa k (sm k a_have c) (al κ)
def B8 {S:Type} (k:Nat):Fx S:=fp 21 [(262,pD k),(293,xW k)] [] k Tryz.f292 0
theorem Ge {S:Type} (o:Obj) (ho:ad o) (k:Nat):Tl o 292 (xX k:Rw S):=af (B8 k) ⟨tJ o ho k,Gd o ho k,trivial⟩ Tryz.func292 (by kernel_rfl) fun a_have c κ x h=>Eq.trans (by kernel_rfl) (ag h)
def xY {S:Type} (k:Nat):Rw S:=ae Hs xn fun l a_from κ=>aa k (si k l a_from) (al κ)
def lf {S:Type} (k:Nat):Fx S:=fp 33 [(292,xX k)] [(2,ay [1,2,13,14,15] [],aj 4 5)] k Tryz.f125 0
def vB (l:List Cl) (v1:List Cl) (v15:Int):St UU:=⟨[(1,(sC v1)),(2,(.func 292 [] [])),(13,(sC l)),(14,(.int .i64 (l.length:Int))),(15,(iI v15))],[],[],[]⟩
section
variable {S:Type} (k:Nat) (l a_from:List Cl) (κ:Out UU→Option S)
theorem DF: ∀n v1 v15,(lf k).lp κ 2 [] n (vB l v1 v15)=nV k (al κ) l n v1 v15:=ax (qC k (al κ) l) rfl (fun _=>rfl) fun r v1 v15=>by kernel_rfl
end
theorem Gf {S:Type} (o:Obj) (ho:ad o) (k:Nat):Tl o 125 (xY k:Rw S):=af (lf k) ⟨Ge o ho k,trivial⟩ Tryz.func125 (by kernel_rfl) fun l a_from κ x h=>Eq.trans (b:=zg k (al κ) (fun v1 v15=>(lf k).lp κ 2 [] k (vB l v1 v15)) l a_from) (by kernel_rfl) (Eq.trans (by simp only [DF];rfl) (ag h))
end
end Go.Proofs.YtfkkpkhfjpaafaaGreatDoor
namespace Go.Proofs.YtfkkpkhfjpaafaaGreatDoor
open Go PI
set_option linter.unusedVariables false
set_option maxRecDepth 100000
noncomputable section
def pE {S:Type} (k:Nat):Rw S:=ae cP xn fun f κ=>aa k (ir k f) (al κ)
def B9 {S:Type} (k:Nat):Fx S:=fp 9 [(74,j_ k),(125,xY k)] [] k Tryz.f263 0
theorem tK {S:Type} (o:Obj) (ho:ad o) (k:Nat):Tl o 263 (pE k:Rw S):=af (B9 k) ⟨m7 o ho k,Gf o ho k,trivial⟩ Tryz.func263 (by kernel_rfl) fun f κ x h=>Eq.trans (by kernel_rfl) (ag h)
def x_ {S:Type} (k:Nat):Rw S:=ae cP xn fun f κ=>aa k (sc k f) (al κ)
def Ca {S:Type} (k:Nat):Fx S:=fp 15 [(124,j5 k),(263,pE k)] [] k Tryz.f297 0
theorem Gi {S:Type} (o:Obj) (ho:ad o) (k:Nat):Tl o 297 (x_ k:Rw S):=af (Ca k) ⟨mY o ho k,tK o ho k,trivial⟩ Tryz.func297 (by kernel_rfl) fun f κ x h=>Eq.trans (by kernel_rfl) (ag h)
def ya {S:Type} (k:Nat):Rw S:=ae cP xn fun f κ=>aa k (rU k f) (al κ)
def Cb {S:Type} (k:Nat):Fx S:=fp 18 [(266,pB k),(297,x_ k)] [] k Tryz.f268 0
theorem Gj {S:Type} (o:Obj) (ho:ad o) (k:Nat):Tl o 268 (ya k:Rw S):=af (Cb k) ⟨tH o ho k,Gi o ho k,trivial⟩ Tryz.func268 (by kernel_rfl) fun f κ x h=>Eq.trans (by kernel_rfl) (ag h)
def yb {S:Type} (k:Nat):Rw S:=ae uq xn fun f i a_r κ=>aa k (rV k f i a_r) (al κ)
def fC {S:Type} (k:Nat):Fx S:=fp 92 [(120,eA k),(122,pq k),(214,j1 k),(219,gQ k),(265,xP k),(266,pB k),(267,xU k),(268,ya k),(269,xV k)] [(5,ay [1,2,8,27,28,29] [],aj 6 23),(1000018,ay [1,2,8,11,13,27,28,29] [],aj 16 63895)] k Tryz.f222 0
def gA (i:Int) (a_r f:List Cl) (v29:Int) (v8:List Cl):St UU:=⟨[(1,(iI i)),(2,(sC a_r)),(8,(sC v8)),(27,(sC f)),(28,(.int .i64 (f.length:Int))),(29,(iI v29))],[],[],[]⟩
def vC (i:Int) (a_r f:List Cl) (v29:Int) (v8:List Cl) (g11:List Cl) (v13:Int):St UU:=⟨[(1,(iI i)),(2,(sC a_r)),(8,(sC v8)),(11,(sC g11)),(13,(iI v13)),(27,(sC f)),(28,(.int .i64 (f.length:Int))),(29,(iI v29))],[],[],[]⟩
section
variable {S:Type} (k:Nat) (f:List Cl) (i:Int) (a_r:List Cl) (κ:Out UU→Option S)
theorem DH (v29 v8 κ0): ∀n g11 v13,(fC k).jn κ 1000018 [κ0] n (vC i a_r f v29 v8 g11 v13)=nP k (al κ) (fun v29 v8=>κ0 (gA i a_r f v29 v8)) i a_r f v29 v8 n g11 v13:=GZ (qw k (al κ) i a_r f v29 v8 (fun v29 v8=>κ0 (gA i a_r f v29 v8))) rfl (fun _=>rfl) (fun g11 v13=>by kernel_rfl)
theorem DG: ∀n v29 v8,(fC k).lp κ 5 [] n (gA i a_r f v29 v8)=jd k (al κ) i a_r f n v29 v8:=ax (fun own=>lq k (al κ) i a_r f (fun v29 v8 g11 v13=>nP k (al κ) own i a_r f v29 v8 k g11 v13) own) rfl (fun _=>rfl) fun r v29 v8=>Eq.trans (b:=lq k (al κ) i a_r f (fun v29 v8 g11 v13=>(fC k).jn κ 1000018 [r] k (vC i a_r f v29 v8 g11 v13)) (fun v29 v8=>r (gA i a_r f v29 v8)) v29 v8) (by kernel_rfl) (by simp only [DH])
end
theorem Gk {S:Type} (o:Obj) (ho:ad o) (k:Nat):Tl o 222 (yb k:Rw S):=af (fC k) ⟨eR o ho k,tx o ho k,mV o ho k,iM o ho k,F8 o ho k,tH o ho k,Gb o ho k,Gj o ho k,Gc o ho k,trivial⟩ Tryz.func222 (by kernel_rfl) fun f i a_r κ x h=>Eq.trans (b:=za k (al κ) (fun v29 v8=>(fC k).lp κ 5 [] k (gA i a_r f v29 v8)) f i a_r) (by kernel_rfl) (Eq.trans (by simp only [DG];rfl) (ag h))
def pF {S:Type} (k:Nat):Rw S:=ae nA My fun f depth c0 c1 κ=>aa k (mg k f depth c0 c1) (I5 c0 c1 κ)
def Cc {S:Type} (k:Nat):Fx S:=fp 38 [(75,eC k),(158,j3 k),(219,gQ k),(220,pz k),(222,yb k)] [] k Tryz.f218 3
theorem tL {S:Type} (o:Obj) (ho:ad o) (k:Nat):Tl o 218 (pF k:Rw S):=af (Cc k) ⟨eT o ho k,mW o ho k,iM o ho k,tF o ho k,Gk o ho k,trivial⟩ Tryz.func218 (by kernel_rfl) fun f depth c0 c1 κ x h=>Eq.trans (by kernel_rfl) (ag h)
def yc {S:Type} (k:Nat):Rw S:=ae dp xn fun i κ=>aa k (sa k i) (al κ)
def Ce {S:Type} (k:Nat):Fx S:=fp 12 [(258,j8 k),(259,gP k)] [] k Tryz.f260 0
theorem Gl {S:Type} (o:Obj) (ho:ad o) (k:Nat):Tl o 260 (yc k:Rw S):=af (Ce k) ⟨m6 o ho k,iL o ho k,trivial⟩ Tryz.func260 (by kernel_rfl) fun i κ x h=>Eq.trans (by kernel_rfl) (ag h)
def yd {S:Type} (k:Nat):Rw S:=ae fV xn fun f g κ=>aa k (fJ k f g) (al κ)
def Cf {S:Type} (k:Nat):Fx S:=fp 14 [(129,cX k)] [] k Tryz.f264 0
theorem Gm {S:Type} (o:Obj) (ho:ad o) (k:Nat):Tl o 264 (yd k:Rw S):=af (Cf k) ⟨di o ho k,trivial⟩ Tryz.func264 (by kernel_rfl) fun f g κ x h=>Eq.trans (by kernel_rfl) (ag h)
def ye {S:Type} (k:Nat):Rw S:=ae Hu g4 fun a_have c c0 c1 κ=>aa k (sg k a_have c c0 c1) (gH c0 c1 κ)
def Cg {S:Type} (k:Nat):Fx S:=fp 63 [(214,j1 k),(219,gQ k),(262,pD k),(263,pE k),(264,yd k)] [] k Tryz.f261 2
theorem Gn {S:Type} (o:Obj) (ho:ad o) (k:Nat):Tl o 261 (ye k:Rw S):=af (Cg k) ⟨mV o ho k,iM o ho k,tJ o ho k,tK o ho k,Gm o ho k,trivial⟩ Tryz.func261 (by kernel_rfl) fun a_have c c0 c1 κ x h=>Eq.trans (by kernel_rfl) (ag h)
def yf {S:Type} (k:Nat):Rw S:=ae Hv g4 fun l a_from c0 c1 κ=>aa k (sh k l a_from c0 c1) (gH c0 c1 κ)
def lg {S:Type} (k:Nat):Fx S:=fp 33 [(261,ye k)] [(2,ay [1,2,13,14,15] [(1000000,1),(1000001,1)],aj 4 5)] k Tryz.f125 2
def vD (c0:Int) (c1 l:List Cl) (v1:List Cl) (v15:Int):St UU:=⟨[(1,(sC v1)),(2,(.func 261 [] [(pt 1000000),(pt 1000001)])),(13,(sC l)),(14,(.int .i64 (l.length:Int))),(15,(iI v15))],[(1000000,bI c0),(1000001,.cells [(sC c1)])],[],[]⟩
section
variable {S:Type} (k:Nat) (l a_from:List Cl) (c0:Int) (c1:List Cl) (κ:Out UU→Option S)
theorem DI: ∀n v1 v15,(lg k).lp κ 2 [] n (vD c0 c1 l v1 v15)=nU k (gH c0 c1 κ) c0 c1 l n v1 v15:=ax (qB k (gH c0 c1 κ) c0 c1 l) rfl (fun _=>rfl) fun r v1 v15=>by kernel_rfl
end
theorem Gp {S:Type} (o:Obj) (ho:ad o) (k:Nat):Tl o 125 (yf k:Rw S):=af (lg k) ⟨Gn o ho k,trivial⟩ Tryz.func125 (by kernel_rfl) fun l a_from c0 c1 κ x h=>Eq.trans (b:=zf k (gH c0 c1 κ) (fun v1 v15=>(lg k).lp κ 2 [] k (vD c0 c1 l v1 v15)) l a_from c0 c1) (by kernel_rfl) (Eq.trans (by simp only [DI];rfl) (ag h))
def yg {S:Type} (k:Nat):Rw S:=ae uq xn fun f i a_r κ=>aa k (sf k f i a_r) (al κ)
def Ch {S:Type} (k:Nat):Fx S:=fp 32 [(124,j5 k),(125,yf k),(126,pw k),(260,yc k)] [] k Tryz.f221 0
theorem Gq {S:Type} (o:Obj) (ho:ad o) (k:Nat):Tl o 221 (yg k:Rw S):=af (Ch k) ⟨mY o ho k,Gp o ho k,tB o ho k,Gl o ho k,trivial⟩ Tryz.func221 (by kernel_rfl) fun f i a_r κ x h=>Eq.trans (by kernel_rfl) (ag h)
def yh {S:Type} (k:Nat):Rw S:=ae nA z7 fun f depth c0 c1 κ=>aa k (rK k f depth c0 c1) (I6 c0 c1 κ)
def Ci {S:Type} (k:Nat):Fx S:=fp 38 [(75,eC k),(158,j3 k),(219,gQ k),(220,pz k),(221,yg k)] [] k Tryz.f218 3
theorem Gr {S:Type} (o:Obj) (ho:ad o) (k:Nat):Tl o 218 (yh k:Rw S):=af (Ci k) ⟨eT o ho k,mW o ho k,iM o ho k,tF o ho k,Gq o ho k,trivial⟩ Tryz.func218 (by kernel_rfl) fun f depth c0 c1 κ x h=>Eq.trans (by kernel_rfl) (ag h)
def v6 {S:Type} (k:Nat):Rw S:=ae nB p4 fun t depth c0 c1 κ=>aa k (rR k t depth c0 c1) (I7 c0 c1 κ)
def Ad {S:Type} (k:Nat):Fx S:=fp 27 [(218,ew (fS nA z7) (yh k) (pF k))] [] k Tryz.f223 4
theorem Ey {S:Type} (o:Obj) (ho:ad o) (k:Nat):Tl o 223 (v6 k:Rw S):=af (Ad k) ⟨gG (Gr o ho k) (tL o ho k),trivial⟩ Tryz.func223 (by kernel_rfl) fun t depth c0 c1 κ x h=>Eq.trans (by kernel_rfl) (ag h)
def o_ {S:Type} (k:Nat):Rw S:=ae ur Mz fun i c0 κ=>aa k (mh k i c0) (I8 c0 κ)
def Ae {S:Type} (k:Nat):Fx S:=fp 14 [(36,cY k)] [] k Tryz.f225 1
theorem th {S:Type} (o:Obj) (ho:ad o) (k:Nat):Tl o 225 (o_ k:Rw S):=af (Ae k) ⟨dj o ho k,trivial⟩ Tryz.func225 (by kernel_rfl) fun i c0 κ x h=>Eq.trans (by kernel_rfl) (ag h)
def pa {S:Type} (k:Nat):Rw S:=ae ur aD fun p c0 κ=>aa k (mi k p c0) (I9 c0 κ)
def Af {S:Type} (k:Nat):Fx S:=fp 5 [] [] k Tryz.f226 1
theorem ti {S:Type} (o:Obj) (ho:ad o) (k:Nat):Tl o 226 (pa k:Rw S):=af (Af k) trivial Tryz.func226 (by kernel_rfl) fun p c0 κ x h=>Eq.trans (by kernel_rfl) (ag h)
def fb {S:Type} (hd:aN S):Rw S:=ae nB p4 fun t depth c0 c1 κ=>hd t depth c0 c1 (jO c0 c1 κ)
def v_ {S:Type} (hd:aN S) (k:Nat):Rw S:=ae ut z8 fun l depth c0 c1 c4 κ=>aa k (rP hd k l depth c0 c1 c4) (jP c0 c1 c4 κ)
def kB {S:Type} (hd:aN S) (k:Nat):Fx S:=fp 42 [(163,fb hd),(226,pa k)] [(3,⟨[(2,.none),(3,.none),(4,.none),(10,some (100010,true)),(15,.none),(16,.none),(17,.none)],[(4,[.none,.none]),(1000000,[.none]),(1000001,[.none]),(1000002,[.none]),(1000003,[.none]),(1000004,[.none])]⟩,aj 5 11)] k Tryz.f224 5
def uL (c0:Int) (c1:List Cl) (c4:Int) (l:List Tm) (depth:Int) (out10:List Tm) (v17:Int):St UU:=⟨[(2,(iI depth)),(3,(.func 226 [] [(pt 1000004)])),(4,(pt 4)),(10,(.own 100010 0)),(15,(sT l)),(16,(.int .i64 (l.length:Int))),(17,(iI v17))],[(4,.cells [(.func 218 [] [(pt 1000000),(pt 1000001),(pt 1000002)]),(.func 218 [] [(pt 1000000),(pt 1000001),(pt 1000003)])]),(1000000,bI c0),(1000001,.cells [(sC c1)]),(1000002,.cells [(.func 221 [] [])]),(1000003,.cells [(.func 222 [] [])]),(1000004,bI c4)],[(100010,⟨0,ET.T,out10⟩)],[(100010,.wr)]⟩
section
variable {S:Type} (hd:aN S) (k:Nat) (l:List Tm) (depth c0:Int) (c1:List Cl) (c4:Int) (κ:Out UU→Option S)
theorem Cw: ∀n out10 v17,(kB hd k).lp κ 3 [] n (uL c0 c1 c4 l depth out10 v17)=nL hd k (jP c0 c1 c4 κ) c0 c1 c4 l depth n out10 v17:=ax (qn hd k (jP c0 c1 c4 κ) c0 c1 c4 l depth) rfl (fun _=>rfl) fun r out10 v17=>by kernel_rfl
end
theorem Ez {S:Type} (o:Obj) (ho:ad o) (hd:aN S) (Hd:Tl o 163 (fb hd)) (k:Nat):Tl o 224 (v_ hd k:Rw S):=af (kB hd k) ⟨Hd,ti o ho k,trivial⟩ Tryz.func224 (by kernel_rfl) fun l depth c0 c1 c4 κ x h=>Eq.trans (b:=y7 hd k (jP c0 c1 c4 κ) (fun out10 v17=>(kB hd k).lp κ 3 [] k (uL c0 c1 c4 l depth out10 v17)) l depth c0 c1 c4) (by kernel_rfl) (Eq.trans (by simp only [Cw];rfl) (ag h))
def wa {S:Type} (hd:aN S) (k:Nat):Rw S:=ae Hx MA fun l depth c0 c1 c4 κ=>aa k (rQ hd k l depth c0 c1 c4) (jQ c0 c1 c4 κ)
def kC {S:Type} (hd:aN S) (k:Nat):Fx S:=fp 42 [(163,fb hd),(225,o_ k)] [(3,⟨[(2,.none),(3,.none),(4,.none),(10,some (100010,true)),(15,.none),(16,.none),(17,.none)],[(4,[.none,.none]),(1000000,[.none]),(1000001,[.none]),(1000002,[.none]),(1000003,[.none]),(1000004,[.none,.none,.none,.none,.none,.none])]⟩,aj 5 11)] k Tryz.f224 5
def uM (c0:Int) (c1:List Cl) (c4:Tm) (l:List Tm) (depth:Int) (out10:List Tm) (v17:Int):St UU:=⟨[(2,(iI depth)),(3,(.func 225 [] [(pt 1000004)])),(4,(pt 4)),(10,(.own 100010 0)),(15,(sT l)),(16,(.int .i64 (l.length:Int))),(17,(iI v17))],[(4,.cells [(.func 218 [] [(pt 1000000),(pt 1000001),(pt 1000002)]),(.func 218 [] [(pt 1000000),(pt 1000001),(pt 1000003)])]),(1000000,bI c0),(1000001,.cells [(sC c1)]),(1000002,.cells [(.func 221 [] [])]),(1000003,.cells [(.func 222 [] [])]),(1000004,bT c4)],[(100010,⟨0,ET.T,out10⟩)],[(100010,.wr)]⟩
section
variable {S:Type} (hd:aN S) (k:Nat) (l:List Tm) (depth c0:Int) (c1:List Cl) (c4:Tm) (κ:Out UU→Option S)
theorem Cx: ∀n out10 v17,(kC hd k).lp κ 3 [] n (uM c0 c1 c4 l depth out10 v17)=nM hd k (jQ c0 c1 c4 κ) c0 c1 c4 l depth n out10 v17:=ax (qr hd k (jQ c0 c1 c4 κ) c0 c1 c4 l depth) rfl (fun _=>rfl) fun r out10 v17=>by kernel_rfl
end
theorem EA {S:Type} (o:Obj) (ho:ad o) (hd:aN S) (Hd:Tl o 163 (fb hd)) (k:Nat):Tl o 224 (wa hd k:Rw S):=af (kC hd k) ⟨Hd,th o ho k,trivial⟩ Tryz.func224 (by kernel_rfl) fun l depth c0 c1 c4 κ x h=>Eq.trans (b:=y8 hd k (jQ c0 c1 c4 κ) (fun out10 v17=>(kC hd k).lp κ 3 [] k (uM c0 c1 c4 l depth out10 v17)) l depth c0 c1 c4) (by kernel_rfl) (Eq.trans (by simp only [Cx];rfl) (ag h))
def kA {S:Type} (hd:aN S) (k:Nat):Fx S:=fp 98 [(218,pF k),(223,v6 k),(224,ew (fS ut z8) (v_ hd k) (wa hd k))] [(13,⟨[(2,.none),(3,.none),(6,.none),(8,.none),(10,.none),(53,.none),(54,.none),(55,.none)],[(3,[.none,.none]),(6,[.none,.none,.none,some (200387,true),some (200388,true),some (200389,true)]),(8,[.none,.none,.none,.none,.none,some (200517,true)]),(10,[.none]),(1000000,[.none]),(1000001,[.none]),(1000002,[.none]),(1000003,[.none])]⟩,aj 11 767)] k Tryz.f163 4
def uK (c0:Int) (c1:List Cl) (t:Tm) (r1:List Cl×Int) (r2:List Tm×Int) (depth:Int) (b10_0:Int) (b8_5:List (Br Tm)) (v55:Int):St UU:=⟨[(2,(iI depth)),(3,(pt 3)),(6,(pt 6)),(8,(pt 8)),(10,(pt 10)),(53,(sB t.sys)),(54,(.int .i64 (t.sys.length:Int))),(55,(iI v55))],[(3,.cells [(.func 218 [] [(pt 1000000),(pt 1000001),(pt 1000002)]),(.func 218 [] [(pt 1000000),(pt 1000001),(pt 1000003)])]),(6,.cells [(iI 0),(iI 0),(.str ByteArray.empty),(.own 200387 0),(.own 200388 0),(.own 200389 0)]),(8,.cells [(iI t.kind),(iI t.n),(.str t.name),(sC r1.1),(sT r2.1),(.own 200517 0)]),(10,bI b10_0),(1000000,bI c0),(1000001,.cells [(sC c1)]),(1000002,.cells [(.func 221 [] [])]),(1000003,.cells [(.func 222 [] [])])],[(200517,⟨0,ET.B,b8_5⟩),(200389,⟨0,ET.B,([]:List (Br Tm))⟩),(200388,⟨0,ET.T,([]:List Tm)⟩),(200387,⟨0,ET.C,([]:List Cl)⟩)],[(200517,.wr),(200389,.wr),(200388,.wr),(200387,.wr)]⟩
section
variable {S:Type} (hd:aN S) (k:Nat) (t:Tm) (depth c0:Int) (c1:List Cl) (κ:Out UU→Option S)
theorem Cv (r1 r2): ∀n b10_0 b8_5 v55,(kA hd k).lp κ 13 [] n (uK c0 c1 t r1 r2 depth b10_0 b8_5 v55)=nN hd k (jO c0 c1 κ) c0 c1 t r1 r2 depth n b10_0 b8_5 v55:=bQ (qu hd k (jO c0 c1 κ) c0 c1 t r1 r2 depth) rfl (fun _=>rfl) fun r b10_0 b8_5 v55=>by kernel_rfl
end
theorem ni {S:Type} (o:Obj) (ho:ad o): ∀k:Nat,Tl o 163 (fb (cG k:aN S))
 |0=>cv fun t depth c0 c1 κ x h=>by cases h
 |k+1=>af (kA (cG k) k) ⟨tL o ho k,Ey o ho k,gG (Ez o ho (cG k) (ni o ho k) k) (EA o ho (cG k) (ni o ho k) k),trivial⟩ Tryz.func163 (by kernel_rfl) fun t depth c0 c1 κ x h=>Eq.trans (b:=y9 (cG k) k (jO c0 c1 κ) (fun r1 r2 b10_0 b8_5 v55=>(kA (cG k) k).lp κ 13 [] k (uK c0 c1 t r1 r2 depth b10_0 b8_5 v55)) t depth c0 c1) (by kernel_rfl) (Eq.trans (by simp only [Cv];rfl) h)
def wc {S:Type} (k:Nat):Rw S:=ae dp xn fun i κ=>aa k (rI k i) (I_ κ)
def Ag {S:Type} (k:Nat):Fx S:=fp 8 [] [] k Tryz.f164 0
theorem EB {S:Type} (o:Obj) (ho:ad o) (k:Nat):Tl o 164 (wc k:Rw S):=af (Ag k) trivial Tryz.func164 (by kernel_rfl) fun i κ x h=>Eq.trans (by kernel_rfl) (ag h)
def wd {S:Type} (k:Nat):Rw S:=ae ja xn fun s i κ=>aa k (mt k s i) (dK κ)
def Ah {S:Type} (k:Nat):Fx S:=fp 24 [(230,px k),(257,gM k)] [] k Tryz.f228 0
theorem EC {S:Type} (o:Obj) (ho:ad o) (k:Nat):Tl o 228 (wd k:Rw S):=af (Ah k) ⟨tC o ho k,iJ o ho k,trivial⟩ Tryz.func228 (by kernel_rfl) fun s i κ x h=>Eq.trans (by kernel_rfl) (ag h)
def pb {S:Type} (k:Nat):Rw S:=ae Hy aD fun f depth c0 κ=>aa k (il k f depth c0) (gI c0 κ)
def kE {S:Type} (k:Nat):Fx S:=fp 37 [(129,cX k),(228,wd k)] [(3,⟨[(1,.none),(2,.none),(7,some (100007,true)),(10,.none),(11,.none),(12,.none)],[(1000000,[.none])]⟩,aj 5 11)] k Tryz.f227 1
def uN (c0 depth:Int) (f:List Cl) (v12:Int) (out7:List Cl):St UU:=⟨[(1,(iI depth)),(2,(pt 1000000)),(7,(.own 100007 0)),(10,(sC f)),(11,(.int .i64 (f.length:Int))),(12,(iI v12))],[(1000000,bI c0)],[(100007,⟨0,ET.C,out7⟩)],[(100007,.wr)]⟩
section
variable {S:Type} (k:Nat) (f:List Cl) (depth c0:Int) (κ:Out UU→Option S)
theorem Cy: ∀n v12 out7,(kE k).lp κ 3 [] n (uN c0 depth f v12 out7)=nI k (gI c0 κ) c0 depth f n v12 out7:=ax (qk k (gI c0 κ) c0 depth f) rfl (fun _=>rfl) fun r v12 out7=>by kernel_rfl
end
theorem tj {S:Type} (o:Obj) (ho:ad o) (k:Nat):Tl o 227 (pb k:Rw S):=af (kE k) ⟨di o ho k,EC o ho k,trivial⟩ Tryz.func227 (by kernel_rfl) fun f depth c0 κ x h=>Eq.trans (b:=yY k (gI c0 κ) (fun v12 out7=>(kE k).lp κ 3 [] k (uN c0 depth f v12 out7)) f depth c0) (by kernel_rfl) (Eq.trans (by simp only [Cy];rfl) (ag h))
def we {S:Type} (k:Nat):Rw S:=ae uu aD fun t depth c0 κ=>aa k (rS k t depth c0) (gI c0 κ)
def Ai {S:Type} (k:Nat):Fx S:=fp 27 [(227,pb k)] [] k Tryz.f223 1
theorem ED {S:Type} (o:Obj) (ho:ad o) (k:Nat):Tl o 223 (we k:Rw S):=af (Ai k) ⟨tj o ho k,trivial⟩ Tryz.func223 (by kernel_rfl) fun t depth c0 κ x h=>Eq.trans (by kernel_rfl) (ag h)
def fc {S:Type} (hd:aO S):Rw S:=ae uu aD fun t depth c0 κ=>hd t depth c0 (jR c0 κ)
def wg {S:Type} (hd:aO S) (k:Nat):Rw S:=ae uw ku fun l depth c0 c1 κ=>aa k (rN hd k l depth c0 c1) (jS c0 c1 κ)
def kH {S:Type} (hd:aO S) (k:Nat):Fx S:=fp 42 [(163,fc hd),(226,pa k)] [(3,⟨[(2,.none),(3,.none),(4,.none),(10,some (100010,true)),(15,.none),(16,.none),(17,.none)],[(4,[.none,.none]),(1000000,[.none]),(1000001,[.none])]⟩,aj 5 11)] k Tryz.f224 2
def uP (c0 c1:Int) (l:List Tm) (depth:Int) (out10:List Tm) (v17:Int):St UU:=⟨[(2,(iI depth)),(3,(.func 226 [] [(pt 1000001)])),(4,(pt 4)),(10,(.own 100010 0)),(15,(sT l)),(16,(.int .i64 (l.length:Int))),(17,(iI v17))],[(4,.cells [(.func 227 [] [(pt 1000000)]),(.func 227 [] [(pt 1000000)])]),(1000000,bI c0),(1000001,bI c1)],[(100010,⟨0,ET.T,out10⟩)],[(100010,.wr)]⟩
section
variable {S:Type} (hd:aO S) (k:Nat) (l:List Tm) (depth c0 c1:Int) (κ:Out UU→Option S)
theorem CA: ∀n out10 v17,(kH hd k).lp κ 3 [] n (uP c0 c1 l depth out10 v17)=nJ hd k (jS c0 c1 κ) c0 c1 l depth n out10 v17:=ax (ql hd k (jS c0 c1 κ) c0 c1 l depth) rfl (fun _=>rfl) fun r out10 v17=>by kernel_rfl
end
theorem EE {S:Type} (o:Obj) (ho:ad o) (hd:aO S) (Hd:Tl o 163 (fc hd)) (k:Nat):Tl o 224 (wg hd k:Rw S):=af (kH hd k) ⟨Hd,ti o ho k,trivial⟩ Tryz.func224 (by kernel_rfl) fun l depth c0 c1 κ x h=>Eq.trans (b:=yZ hd k (jS c0 c1 κ) (fun out10 v17=>(kH hd k).lp κ 3 [] k (uP c0 c1 l depth out10 v17)) l depth c0 c1) (by kernel_rfl) (Eq.trans (by simp only [CA];rfl) (ag h))
def wh {S:Type} (hd:aO S) (k:Nat):Rw S:=ae Hz MB fun l depth c0 c1 κ=>aa k (rO hd k l depth c0 c1) (jT c0 c1 κ)
def kI {S:Type} (hd:aO S) (k:Nat):Fx S:=fp 42 [(163,fc hd),(225,o_ k)] [(3,⟨[(2,.none),(3,.none),(4,.none),(10,some (100010,true)),(15,.none),(16,.none),(17,.none)],[(4,[.none,.none]),(1000000,[.none]),(1000001,[.none,.none,.none,.none,.none,.none])]⟩,aj 5 11)] k Tryz.f224 2
def uQ (c0:Int) (c1:Tm) (l:List Tm) (depth:Int) (out10:List Tm) (v17:Int):St UU:=⟨[(2,(iI depth)),(3,(.func 225 [] [(pt 1000001)])),(4,(pt 4)),(10,(.own 100010 0)),(15,(sT l)),(16,(.int .i64 (l.length:Int))),(17,(iI v17))],[(4,.cells [(.func 227 [] [(pt 1000000)]),(.func 227 [] [(pt 1000000)])]),(1000000,bI c0),(1000001,bT c1)],[(100010,⟨0,ET.T,out10⟩)],[(100010,.wr)]⟩
section
variable {S:Type} (hd:aO S) (k:Nat) (l:List Tm) (depth c0:Int) (c1:Tm) (κ:Out UU→Option S)
theorem CB: ∀n out10 v17,(kI hd k).lp κ 3 [] n (uQ c0 c1 l depth out10 v17)=nK hd k (jT c0 c1 κ) c0 c1 l depth n out10 v17:=ax (qm hd k (jT c0 c1 κ) c0 c1 l depth) rfl (fun _=>rfl) fun r out10 v17=>by kernel_rfl
end
theorem EF {S:Type} (o:Obj) (ho:ad o) (hd:aO S) (Hd:Tl o 163 (fc hd)) (k:Nat):Tl o 224 (wh hd k:Rw S):=af (kI hd k) ⟨Hd,th o ho k,trivial⟩ Tryz.func224 (by kernel_rfl) fun l depth c0 c1 κ x h=>Eq.trans (b:=y6 hd k (jT c0 c1 κ) (fun out10 v17=>(kI hd k).lp κ 3 [] k (uQ c0 c1 l depth out10 v17)) l depth c0 c1) (by kernel_rfl) (Eq.trans (by simp only [CB];rfl) (ag h))
def kG {S:Type} (hd:aO S) (k:Nat):Fx S:=fp 98 [(223,we k),(224,ew (fS uw ku) (wg hd k) (wh hd k)),(227,pb k)] [(13,⟨[(2,.none),(3,.none),(6,.none),(8,.none),(10,.none),(53,.none),(54,.none),(55,.none)],[(3,[.none,.none]),(6,[.none,.none,.none,some (200387,true),some (200388,true),some (200389,true)]),(8,[.none,.none,.none,.none,.none,some (200517,true)]),(10,[.none]),(1000000,[.none])]⟩,aj 11 767)] k Tryz.f163 1
def uO (c0:Int) (t:Tm) (r1:List Cl×Int) (r2:List Tm×Int) (depth:Int) (b10_0:Int) (b8_5:List (Br Tm)) (v55:Int):St UU:=⟨[(2,(iI depth)),(3,(pt 3)),(6,(pt 6)),(8,(pt 8)),(10,(pt 10)),(53,(sB t.sys)),(54,(.int .i64 (t.sys.length:Int))),(55,(iI v55))],[(3,.cells [(.func 227 [] [(pt 1000000)]),(.func 227 [] [(pt 1000000)])]),(6,.cells [(iI 0),(iI 0),(.str ByteArray.empty),(.own 200387 0),(.own 200388 0),(.own 200389 0)]),(8,.cells [(iI t.kind),(iI t.n),(.str t.name),(sC r1.1),(sT r2.1),(.own 200517 0)]),(10,bI b10_0),(1000000,bI c0)],[(200517,⟨0,ET.B,b8_5⟩),(200389,⟨0,ET.B,([]:List (Br Tm))⟩),(200388,⟨0,ET.T,([]:List Tm)⟩),(200387,⟨0,ET.C,([]:List Cl)⟩)],[(200517,.wr),(200389,.wr),(200388,.wr),(200387,.wr)]⟩
section
variable {S:Type} (hd:aO S) (k:Nat) (t:Tm) (depth c0:Int) (κ:Out UU→Option S)
theorem Cz (r1 r2): ∀n b10_0 b8_5 v55,(kG hd k).lp κ 13 [] n (uO c0 t r1 r2 depth b10_0 b8_5 v55)=nO hd k (jR c0 κ) c0 t r1 r2 depth n b10_0 b8_5 v55:=bQ (qv hd k (jR c0 κ) c0 t r1 r2 depth) rfl (fun _=>rfl) fun r b10_0 b8_5 v55=>by kernel_rfl
end
theorem nj {S:Type} (o:Obj) (ho:ad o): ∀k:Nat,Tl o 163 (fc (cH k:aO S))
 |0=>cv fun t depth c0 κ x h=>by cases h
 |k+1=>af (kG (cH k) k) ⟨ED o ho k,gG (EE o ho (cH k) (nj o ho k) k) (EF o ho (cH k) (nj o ho k) k),tj o ho k,trivial⟩ Tryz.func163 (by kernel_rfl) fun t depth c0 κ x h=>Eq.trans (b:=y_ (cH k) k (jR c0 κ) (fun r1 r2 b10_0 b8_5 v55=>(kG (cH k) k).lp κ 13 [] k (uO c0 t r1 r2 depth b10_0 b8_5 v55)) t depth c0) (by kernel_rfl) (Eq.trans (by simp only [Cz];rfl) h)
def jW {S:Type} (k:Nat):Rw S:=ae uo xn fun t i a_r κ=>aa k (ik k t i a_r) (bJ κ)
def Ak {S:Type} (k:Nat):Fx S:=fp 48 [(75,eC k),(161,xL k),(162,xO k),(163,ew (fS nB p4) (fb (cG k)) (fc (cH k))),(164,wc k)] [] k Tryz.f123 0
theorem mQ {S:Type} (o:Obj) (ho:ad o) (k:Nat):Tl o 123 (jW k:Rw S):=af (Ak k) ⟨eT o ho k,F4 o ho k,F7 o ho k,gG (ni o ho k) (nj o ho k),EB o ho k,trivial⟩ Tryz.func123 (by kernel_rfl) fun t i a_r κ x h=>Eq.trans (by kernel_rfl) (ag h)
def pd {S:Type} (k:Nat):Rw S:=ae ux aD fun line a_r c0 κ=>aa k (mc k line a_r c0) (bR κ)
def Al {S:Type} (k:Nat):Fx S:=fp 44 [(54,j7 k),(84,dM k),(123,jW k),(140,eB k)] [] k Tryz.f86 1
theorem tl {S:Type} (o:Obj) (ho:ad o) (k:Nat):Tl o 86 (pd k:Rw S):=af (Al k) ⟨m0 o ho k,eh o ho k,mQ o ho k,eS o ho k,trivial⟩ Tryz.func86 (by kernel_rfl) fun line a_r c0 κ x h=>Eq.trans (by kernel_rfl) (ag h)
def wi {S:Type} (k:Nat):Rw S:=ae uy xn fun t a sys κ=>aa k (rA k t a sys) (bJ κ)
def kJ {S:Type} (k:Nat):Fx S:=fp 76 [(80,pu k),(81,pr k),(82,j4 k),(83,xE k),(84,dM k),(85,xF k),(86,pd k),(87,py k)] [(4,⟨[(4,.none),(6,.none),(8,.none),(9,.none),(27,.none),(28,.none),(29,.none)],[(4,[.none,.none,.none,.none,.none,.none]),(6,[.none,.none,.none,some (200387,true),some (200388,true),some (200389,true)]),(9,[.none,.none,.none,some (200579,true),.none,some (200581,true)]),(19000,[.none])]⟩,aj 6 23)] k Tryz.f52 0
def uR (a:Tm) (r5:Int×Int×ByteArray×List Tm) (sys:List (Br Tm)) (b19000_0:Int) (b9_5:List (Br Tm)) (v29:Int):St UU:=⟨[(4,(pt 4)),(6,(pt 6)),(8,(pt 19000)),(9,(pt 9)),(27,(sB sys)),(28,(.int .i64 (sys.length:Int))),(29,(iI v29))],[(4,bT a),(6,.cells [(iI 0),(iI 0),(.str ByteArray.empty),(.own 200387 0),(.own 200388 0),(.own 200389 0)]),(9,.cells [(iI r5.1),(iI r5.2.1),(.str r5.2.2.1),(.own 200579 0),(sT r5.2.2.2),(.own 200581 0)]),(19000,bI b19000_0)],[(200581,⟨0,ET.B,b9_5⟩),(200579,⟨0,ET.C,([]:List Cl)⟩),(200389,⟨0,ET.B,([]:List (Br Tm))⟩),(200388,⟨0,ET.T,([]:List Tm)⟩),(200387,⟨0,ET.C,([]:List Cl)⟩)],[(200581,.wr),(200579,.wr),(200389,.wr),(200388,.wr),(200387,.wr)]⟩
section
variable {S:Type} (k:Nat) (t a:Tm) (sys:List (Br Tm)) (κ:Out UU→Option S)
theorem CC (r5): ∀n b19000_0 b9_5 v29,(kJ k).lp κ 4 [] n (uR a r5 sys b19000_0 b9_5 v29)=nF k (bJ κ) a r5 sys n b19000_0 b9_5 v29:=bQ (qh k (bJ κ) a r5 sys) rfl (fun _=>rfl) fun r b19000_0 b9_5 v29=>by kernel_rfl
end
theorem EG {S:Type} (o:Obj) (ho:ad o) (k:Nat):Tl o 52 (wi k:Rw S):=af (kJ k) ⟨tA o ho k,tz o ho k,mX o ho k,FW o ho k,eh o ho k,FX o ho k,tl o ho k,tD o ho k,trivial⟩ Tryz.func52 (by kernel_rfl) fun t a sys κ x h=>Eq.trans (b:=yV k (bJ κ) (fun r5 b19000_0 b9_5 v29=>(kJ k).lp κ 4 [] k (uR a r5 sys b19000_0 b9_5 v29)) t a sys) (by kernel_rfl) (Eq.trans (by simp only [CC];rfl) (ag h))
def cW {S:Type} (k:Nat):Rw S:=ae nC aD fun t a_e c0 κ=>aa k (b7 k t a_e c0) (bR κ)
def Am {S:Type} (k:Nat):Fx S:=fp 23 [] [] k Tryz.f51 1
theorem dh {S:Type} (o:Obj) (ho:ad o) (k:Nat):Tl o 51 (cW k:Rw S):=af (Am k) trivial Tryz.func51 (by kernel_rfl) fun t a_e c0 κ x h=>Eq.trans (by kernel_rfl) (ag h)
def wj {S:Type} (k:Nat):Rw S:=ae uz aD fun t a sys c0 κ=>aa k (sI k t a sys c0) (bR κ)
def An {S:Type} (k:Nat):Fx S:=fp 21 [(50,cZ k),(51,cW k),(52,wi k)] [] k Tryz.f23 1
theorem EH {S:Type} (o:Obj) (ho:ad o) (k:Nat):Tl o 23 (wj k:Rw S):=af (An k) ⟨dk o ho k,dh o ho k,EG o ho k,trivial⟩ Tryz.func23 (by kernel_rfl) fun t a sys c0 κ x h=>Eq.trans (by kernel_rfl) (ag h)
def wk {S:Type} (k:Nat):Rw S:=ae ny kw fun c0 c1 c2 κ=>aa k (sz k c0 c1 c2) (vW c0 c1 c2 κ)
def Ao {S:Type} (k:Nat):Fx S:=fp 10 [(90,gO (bE k))] [] k Tryz.f89 3
theorem EI {S:Type} (o:Obj) (ho:ad o) (k:Nat):Tl o 89 (wk k:Rw S):=af (Ao k) ⟨i5 o ho k,trivial⟩ Tryz.func89 (by kernel_rfl) fun c0 c1 c2 κ x h=>Eq.trans (by kernel_rfl) (ag h)
def wl {S:Type} (k:Nat):Rw S:=ae HA kw fun t numbers c0 c1 c2 κ=>aa k (sD k t numbers c0 c1 c2) (dL c0 c1 c2 κ)
def kK {S:Type} (k:Nat):Fx S:=⟨⟨30,(fun _=>[]),(fun _=>false),.none,fun|6=>true|7=>true|_=>false⟩,[(21,bi k),(89,wk k)],[(5,⟨[(2,.none),(6,.none),(7,.none),(17,.none),(18,.none),(19,.none)],[(1000000,[.none]),(1000001,[.none,.none,.none,.none,.none,.none]),(1000002,[.none]),(5000006,[.none,.none,.none,some (320200387,true),some (320200388,true),some (320200389,true)]),(5000007,[.none])]⟩,aj 5 11)],k,Tryz.f88,false,[],3,some (eK 16 141 Tryz.f141 k)⟩
def uS (c0:Int) (c1:Tm) (c2:Int) (numbers:List Int) (v19:Int):St UU:=⟨[(2,(.func 89 [] [(pt 1000000),(pt 1000001),(pt 1000002)])),(6,(pt 5000006)),(7,(pt 5000007)),(17,(dP numbers .none)),(18,(.int .i64 (numbers.length:Int))),(19,(iI v19))],[(1000000,bI c0),(1000001,bT c1),(1000002,bI c2),(5000006,.cells [(iI 0),(iI 0),(.str ByteArray.empty),(.own 320200387 0),(.own 320200388 0),(.own 320200389 0)]),(5000007,bI 0)],[(320200389,⟨0,ET.B,([]:List (Br Tm))⟩),(320200388,⟨0,ET.T,([]:List Tm)⟩),(320200387,⟨0,ET.C,([]:List Cl)⟩)],[(320200389,.wr),(320200388,.wr),(320200387,.wr)]⟩
section
variable {S:Type} (k:Nat) (t:Tm) (numbers:List Int) (c0:Int) (c1:Tm) (c2:Int) (κ:Out UU→Option S)
theorem CD: ∀n v19,(kK k).lp κ 5 [] n (uS c0 c1 c2 numbers v19)=n5 k (dL c0 c1 c2 κ) c0 c1 c2 numbers n v19:=bo (qL k (dL c0 c1 c2 κ) c0 c1 c2 numbers) rfl (fun _=>rfl) fun r v19=>by kernel_rfl
end
theorem EJ {S:Type} (o:Obj) (ho:ad o) (k:Nat):Tl o 88 (wl k:Rw S):=kn (kK k) rfl (hX o Tryz.func141 (by kernel_rfl)) ⟨bn o ho k,EI o ho k,trivial⟩ Tryz.func88 (by kernel_rfl) fun t numbers c0 c1 c2 κ x h=>Eq.trans (b:=zq k (dL c0 c1 c2 κ) (fun v19=>(kK k).lp κ 5 [] k (uS c0 c1 c2 numbers v19)) t numbers c0 c1 c2) (by kernel_rfl) (Eq.trans (by simp only [CD];rfl) (ag h))
def wm {S:Type} (k:Nat):Rw S:=ae fW xn fun t a_from a_by κ=>aa k (sy k t a_from a_by) (bJ κ)
def Aq {S:Type} (k:Nat):Fx S:=fp 18 [(88,wl k)] [] k Tryz.f53 0
theorem EK {S:Type} (o:Obj) (ho:ad o) (k:Nat):Tl o 53 (wm k:Rw S):=af (Aq k) ⟨EJ o ho k,trivial⟩ Tryz.func53 (by kernel_rfl) fun t a_from a_by κ x h=>Eq.trans (by kernel_rfl) (ag h)
def wn {S:Type} (k:Nat):Rw S:=ae nz aD fun t vars dims c0 κ=>aa k (sG k t vars dims c0) (bR κ)
def Ar {S:Type} (k:Nat):Fx S:=fp 32 [(50,cZ k),(51,cW k),(53,wm k),(54,j7 k)] [] k Tryz.f24 1
theorem EM {S:Type} (o:Obj) (ho:ad o) (k:Nat):Tl o 24 (wn k:Rw S):=af (Ar k) ⟨dk o ho k,dh o ho k,EK o ho k,m0 o ho k,trivial⟩ Tryz.func24 (by kernel_rfl) fun t vars dims c0 κ x h=>Eq.trans (by kernel_rfl) (ag h)
def gJ {S:Type} (hd:aS S):Rw S:=ae be xn fun t κ=>hd t (ap κ)
def wq {S:Type} (hd:aS S) (k:Nat):Rw S:=ae jb aD fun a_k p p' c0 κ=>aa k (mE hd k a_k p p' c0) (aL κ)
def Au {S:Type} (hd:aS S) (k:Nat):Fx S:=fp 12 [(92,gJ hd)] [] k Tryz.f143 1
theorem EN {S:Type} (o:Obj) (ho:ad o) (hd:aS S) (Hd:Tl o 92 (gJ hd)) (k:Nat):Tl o 143 (wq hd k:Rw S):=af (Au hd k) ⟨Hd,trivial⟩ Tryz.func143 (by kernel_rfl) fun a_k p p' c0 κ x h=>Eq.trans (by kernel_rfl) (ag h)
def ws {S:Type} (hd:aS S) (k:Nat):Rw S:=ae HB aD fun t c0 κ=>aa k (s_ hd k t c0) (aL κ)
def dT {S:Type} (hd:aS S) (k:Nat):Fx S:=fp 60 [(36,cY k),(143,wq hd k)] [(2,ay [1,2,15,16,17] [(2,6),(1000000,1)],aj 4 5),(12,ay [1,9,40,41,42] [(1000000,1)],aj 7 47),(15,ay [1,9,40,41,42,47,48,49] [(1000000,1)],aj 15 13103)] k Tryz.f71 1
def oF (t:Tm) (e0_0 v17:Int):St UU:=⟨[(1,(.func 143 [] [(pt 1000000)])),(2,(pt 2)),(15,(sT t.kids)),(16,(.int .i64 (t.kids.length:Int))),(17,(iI v17))],[(2,bT t),(1000000,bI e0_0)],[],[]⟩
def gk (t:Tm) (e0_0' v42 more9:Int):St UU:=⟨[(1,(.func 143 [] [(pt 1000000)])),(9,(iI more9)),(40,(sB t.sys)),(41,(.int .i64 (t.sys.length:Int))),(42,(iI v42))],[(1000000,bI e0_0')],[],[]⟩
def uT (t:Tm) (v42:Int) (x4:(Br Tm)) (more9:Int) (e0_0'' v49:Int):St UU:=⟨[(1,(.func 143 [] [(pt 1000000)])),(9,(iI more9)),(40,(sB t.sys)),(41,(.int .i64 (t.sys.length:Int))),(42,(iI v42)),(47,(sT x4.kids)),(48,(.int .i64 (x4.kids.length:Int))),(49,(iI v49))],[(1000000,bI e0_0'')],[],[]⟩
section
variable {S:Type} (hd:aS S) (k:Nat) (t:Tm) (c0:Int) (κ:Out UU→Option S)
theorem CG (v42 x4 more9 κ1): ∀n e0_0'' v49,(dT hd k).lp κ 15 [κ1] n (uT t v42 x4 more9 e0_0'' v49)=jr hd k (aL κ) (fun e0_0' v42 more9=>κ1 (gk t e0_0' v42 more9)) t v42 x4 more9 n e0_0'' v49:=ax (ra hd k (aL κ) t v42 x4 more9 (fun e0_0' v42 more9=>κ1 (gk t e0_0' v42 more9))) rfl (fun _=>rfl) fun r e0_0'' v49=>by kernel_rfl
theorem CF: ∀n e0_0' v42 more9,(dT hd k).lp κ 12 [] n (gk t e0_0' v42 more9)=gb hd k (aL κ) t n e0_0' v42 more9:=bQ (fun own=>lR hd k (aL κ) t (fun v42 x4 more9 e0_0'' v49=>jr hd k (aL κ) own t v42 x4 more9 k e0_0'' v49) own) rfl (fun _=>rfl) fun r e0_0' v42 more9=>Eq.trans (b:=lR hd k (aL κ) t (fun v42 x4 more9 e0_0'' v49=>(dT hd k).lp κ 15 [r] k (uT t v42 x4 more9 e0_0'' v49)) (fun e0_0' v42 more9=>r (gk t e0_0' v42 more9)) e0_0' v42 more9) (by kernel_rfl) (by simp only [CG])
theorem CE: ∀n e0_0 v17,(dT hd k).lp κ 2 [] n (oF t e0_0 v17)=ou hd k (aL κ) t n e0_0 v17:=ax (fun own=>lQ hd k (aL κ) t (fun e0_0' v42 more9=>gb hd k (aL κ) t k e0_0' v42 more9) own) rfl (fun _=>rfl) fun r e0_0 v17=>Eq.trans (b:=lQ hd k (aL κ) t (fun e0_0' v42 more9=>(dT hd k).lp κ 12 [] k (gk t e0_0' v42 more9)) (fun e0_0 v17=>r (oF t e0_0 v17)) e0_0 v17) (by kernel_rfl) (by simp only [CF])
end
theorem EO {S:Type} (o:Obj) (ho:ad o) (hd:aS S) (Hd:Tl o 92 (gJ hd)) (k:Nat):Tl o 71 (ws hd k:Rw S):=af (dT hd k) ⟨dj o ho k,EN o ho hd Hd k,trivial⟩ Tryz.func71 (by kernel_rfl) fun t c0 κ x h=>Eq.trans (b:=zL hd k (aL κ) (fun e0_0 v17=>(dT hd k).lp κ 2 [] k (oF t e0_0 v17)) t c0) (by kernel_rfl) (Eq.trans (by simp only [CE];rfl) (ag h))
def As {S:Type} (hd:aS S) (k:Nat):Fx S:=fp 8 [(71,ws hd k)] [] k Tryz.f92 0
theorem t6 {S:Type} (o:Obj) (ho:ad o): ∀k:Nat,Tl o 92 (gJ (ee k:aS S))
 |0=>cv fun t κ x h=>by cases h
 |k+1=>af (As (ee k) k) ⟨EO o ho (ee k) (t6 o ho k) k,trivial⟩ Tryz.func92 (by kernel_rfl) fun t κ x h=>Eq.trans (by kernel_rfl) h
end
end Go.Proofs.YtfkkpkhfjpaafaaGreatDoor
namespace Go.Proofs.YtfkkpkhfjpaafaaGreatDoor
open Go PI
set_option linter.unusedVariables false
set_option maxRecDepth 100000
noncomputable section
def pf {S:Type} (hd:bB S):Rw S:=ae ns xn fun t a_n κ=>hd t a_n (ap κ)
def c_ {S:Type} (hd:bB S) (k:Nat):Fx S:=fp 68 [(36,cY k),(93,pf hd)] [(1000003,ay [1,2] [(2,6)],aj 2 3),(5,ay [1,2,5,24,25,26] [(2,6)],aj 6 23),(11,ay [1,5,47,48,49] [],aj 7 47),(14,ay [1,5,47,48,49,54,55,56] [],aj 15 13103)] k Tryz.f93 0
def uU (t:Tm) (a_n:Int):St UU:=⟨[(1,(iI a_n)),(2,(pt 2))],[(2,bT t)],[],[]⟩
def oG (t:Tm) (a_n:Int) (v26 sum5:Int):St UU:=⟨[(1,(iI a_n)),(2,(pt 2)),(5,(iI sum5)),(24,(sT t.kids)),(25,(.int .i64 (t.kids.length:Int))),(26,(iI v26))],[(2,bT t)],[],[]⟩
def gm (a_n:Int) (t:Tm) (v49 sum5':Int):St UU:=⟨[(1,(iI a_n)),(5,(iI sum5')),(47,(sB t.sys)),(48,(.int .i64 (t.sys.length:Int))),(49,(iI v49))],[],[],[]⟩
def uV (a_n:Int) (t:Tm) (v49:Int) (x4:(Br Tm)) (sum5'' v56:Int):St UU:=⟨[(1,(iI a_n)),(5,(iI sum5'')),(47,(sB t.sys)),(48,(.int .i64 (t.sys.length:Int))),(49,(iI v49)),(54,(sT x4.kids)),(55,(.int .i64 (x4.kids.length:Int))),(56,(iI v56))],[],[],[]⟩
section
variable {S:Type} (hd:bB S) (k:Nat) (t:Tm) (a_n:Int) (κ:Out UU→Option S)
theorem CK (v49 x4 κ2): ∀n sum5'' v56,(c_ hd k).lp κ 14 [κ2] n (uV a_n t v49 x4 sum5'' v56)=jl hd k (ap κ) (fun v49 sum5'=>κ2 (gm a_n t v49 sum5')) a_n t v49 x4 n sum5'' v56:=ax (qO hd k (ap κ) a_n t v49 x4 (fun v49 sum5'=>κ2 (gm a_n t v49 sum5'))) rfl (fun _=>rfl) fun r sum5'' v56=>by kernel_rfl
theorem CJ: ∀n v49 sum5',(c_ hd k).lp κ 11 [] n (gm a_n t v49 sum5')=fZ hd k (ap κ) a_n t n v49 sum5':=ax (fun own=>lA hd k (ap κ) a_n t (fun v49 x4 sum5'' v56=>jl hd k (ap κ) own a_n t v49 x4 k sum5'' v56) own) rfl (fun _=>rfl) fun r v49 sum5'=>Eq.trans (b:=lA hd k (ap κ) a_n t (fun v49 x4 sum5'' v56=>(c_ hd k).lp κ 14 [r] k (uV a_n t v49 x4 sum5'' v56)) (fun v49 sum5'=>r (gm a_n t v49 sum5')) v49 sum5') (by kernel_rfl) (by simp only [CK])
theorem CI: ∀n v26 sum5,(c_ hd k).lp κ 5 [] n (oG t a_n v26 sum5)=jk hd k (ap κ) t a_n n v26 sum5:=ax (fun own=>lz hd k (ap κ) t a_n (fun v49 sum5'=>fZ hd k (ap κ) a_n t k v49 sum5') own) rfl (fun _=>rfl) fun r v26 sum5=>Eq.trans (b:=lz hd k (ap κ) t a_n (fun v49 sum5'=>(c_ hd k).lp κ 11 [] k (gm a_n t v49 sum5')) (fun v26 sum5=>r (oG t a_n v26 sum5)) v26 sum5) (by kernel_rfl) (by simp only [CJ])
theorem CH: ∀n,(c_ hd k).jn κ 1000003 [] n (uU t a_n)=uE hd k (ap κ) t a_n n:=i9 (ly hd k (ap κ) t a_n (fun v26 sum5=>jk hd k (ap κ) t a_n k v26 sum5)) rfl (fun _=>rfl) (Eq.trans (b:=ly hd k (ap κ) t a_n (fun v26 sum5=>(c_ hd k).lp κ 5 [] k (oG t a_n v26 sum5))) (by kernel_rfl) (by simp only [CI]))
end
theorem t7 {S:Type} (o:Obj) (ho:ad o): ∀k:Nat,Tl o 93 (pf (dA k:bB S))
 |0=>cv fun t a_n κ x h=>by cases h
 |k+1=>af (c_ (dA k) k) ⟨dj o ho k,t7 o ho k,trivial⟩ Tryz.func93 (by kernel_rfl) fun t a_n κ x h=>Eq.trans (b:=zu (dA k) k (ap κ) ((c_ (dA k) k).jn κ 1000003 [] k (uU t a_n)) t a_n) (by kernel_rfl) (Eq.trans (by simp only [CH];rfl) h)
def wt {S:Type} (k:Nat):Rw S:=ae be xn fun t κ=>aa k (sP k t) (ap κ)
def Av {S:Type} (k:Nat):Fx S:=fp 6 [] [] k Tryz.f144 0
theorem EP {S:Type} (o:Obj) (ho:ad o) (k:Nat):Tl o 144 (wt k:Rw S):=af (Av k) trivial Tryz.func144 (by kernel_rfl) fun t κ x h=>Eq.trans (by kernel_rfl) (ag h)
def pg {S:Type} (hd:bX S):Rw S:=ae HC xn fun t a_n u vars dims κ=>hd t a_n u vars dims (aH κ)
def dU {S:Type} (hd:bX S) (k:Nat):Fx S:=fp 137 [(36,cY k),(56,j6 k),(95,pg hd),(144,wt k)] [(12,⟨[(1,.none),(3,.none),(4,.none),(5,.none),(7,.none),(10,.none),(13,.none),(66,.none),(67,.none),(68,.none)],[(5,[.none,.none,.none,.none,.none,.none]),(7,[.none,.none,.none,.none,.none,.none]),(10,[.none,.none,.none,some (200643,true),some (200644,true),some (200645,true)]),(13,[.none,.none,.none,some (200835,true),some (200836,true),some (200837,true)])]⟩,aj 6 23),(18,⟨[(1,.none),(3,.none),(4,.none),(5,.none),(7,.none),(10,.none),(13,.none),(97,.none),(98,.none),(99,.none)],[(5,[.none,.none,.none,.none,.none,.none]),(7,[.none,.none,.none,.none,.none,.none]),(10,[.none,.none,.none,some (200643,true),some (200644,true),some (200645,true)]),(13,[.none,.none,.none,some (200835,true),some (200836,true),some (200837,true)])]⟩,aj 7 47),(22,⟨[(1,.none),(3,.none),(4,.none),(5,.none),(7,.none),(10,.none),(13,.none),(20,.none),(97,.none),(98,.none),(99,.none),(108,.none),(109,.none),(110,.none)],[(5,[.none,.none,.none,.none,.none,.none]),(7,[.none,.none,.none,.none,.none,.none]),(10,[.none,.none,.none,some (200643,true),some (200644,true),some (200645,true)]),(13,[.none,.none,.none,some (200835,true),some (200836,true),some (200837,true)]),(20,[some (201280,true),some (201281,true)])]⟩,aj 17 45871)] k Tryz.f95 0
def oH (t u:Tm) (a_n vars dims:Int) (b13_4:List Tm) (v68:Int):St UU:=⟨[(1,(iI a_n)),(3,(iI vars)),(4,(iI dims)),(5,(pt 5)),(7,(pt 7)),(10,(pt 10)),(13,(pt 13)),(66,(sT t.kids)),(67,(.int .i64 (t.kids.length:Int))),(68,(iI v68))],[(5,bT t),(7,bT u),(10,.cells [(iI 0),(iI 0),(.str ByteArray.empty),(.own 200643 0),(.own 200644 0),(.own 200645 0)]),(13,.cells [(iI t.kind),(iI 0),(.str t.name),(.own 200835 0),(.own 200836 0),(.own 200837 0)])],[(200837,⟨0,ET.B,([]:List (Br Tm))⟩),(200836,⟨0,ET.T,b13_4⟩),(200835,⟨0,ET.C,t.r⟩),(200645,⟨0,ET.B,([]:List (Br Tm))⟩),(200644,⟨0,ET.T,([]:List Tm)⟩),(200643,⟨0,ET.C,([]:List Cl)⟩)],[(200837,.wr),(200836,.wr),(200835,.wr),(200645,.wr),(200644,.wr),(200643,.wr)]⟩
def gn (t:Tm) (b13_4:List Tm) (u:Tm) (a_n vars dims:Int) (b13_5:List (Br Tm)) (v99:Int):St UU:=⟨[(1,(iI a_n)),(3,(iI vars)),(4,(iI dims)),(5,(pt 5)),(7,(pt 7)),(10,(pt 10)),(13,(pt 13)),(97,(sB t.sys)),(98,(.int .i64 (t.sys.length:Int))),(99,(iI v99))],[(5,bT t),(7,bT u),(10,.cells [(iI 0),(iI 0),(.str ByteArray.empty),(.own 200643 0),(.own 200644 0),(.own 200645 0)]),(13,.cells [(iI t.kind),(iI 0),(.str t.name),(.own 200835 0),(.own 200836 0),(.own 200837 0)])],[(200837,⟨0,ET.B,b13_5⟩),(200836,⟨0,ET.T,b13_4⟩),(200835,⟨0,ET.C,t.r⟩),(200645,⟨0,ET.B,([]:List (Br Tm))⟩),(200644,⟨0,ET.T,([]:List Tm)⟩),(200643,⟨0,ET.C,([]:List Cl)⟩)],[(200837,.wr),(200836,.wr),(200835,.wr),(200645,.wr),(200644,.wr),(200643,.wr)]⟩
def uW (t:Tm) (b13_4:List Tm) (b13_5:List (Br Tm)) (x9:(Br Tm)) (u:Tm) (a_n vars dims v99:Int) (b20_1:List Tm) (v110:Int):St UU:=⟨[(1,(iI a_n)),(3,(iI vars)),(4,(iI dims)),(5,(pt 5)),(7,(pt 7)),(10,(pt 10)),(13,(pt 13)),(20,(pt 20)),(97,(sB t.sys)),(98,(.int .i64 (t.sys.length:Int))),(99,(iI v99)),(108,(sT x9.kids)),(109,(.int .i64 (x9.kids.length:Int))),(110,(iI v110))],[(5,bT t),(7,bT u),(10,.cells [(iI 0),(iI 0),(.str ByteArray.empty),(.own 200643 0),(.own 200644 0),(.own 200645 0)]),(13,.cells [(iI t.kind),(iI 0),(.str t.name),(.own 200835 0),(.own 200836 0),(.own 200837 0)]),(20,.cells [(.own 201280 0),(.own 201281 0)])],[(201281,⟨0,ET.T,b20_1⟩),(201280,⟨0,ET.C,x9.face⟩),(200837,⟨0,ET.B,b13_5⟩),(200836,⟨0,ET.T,b13_4⟩),(200835,⟨0,ET.C,t.r⟩),(200645,⟨0,ET.B,([]:List (Br Tm))⟩),(200644,⟨0,ET.T,([]:List Tm)⟩),(200643,⟨0,ET.C,([]:List Cl)⟩)],[(201281,.wr),(201280,.wr),(200837,.wr),(200836,.wr),(200835,.wr),(200645,.wr),(200644,.wr),(200643,.wr)]⟩
section
variable {S:Type} (hd:bX S) (k:Nat) (t:Tm) (a_n:Int) (u:Tm) (vars dims:Int) (κ:Out UU→Option S)
theorem CN (b13_4 b13_5 x9 v99 κ1): ∀n b20_1 v110,(dU hd k).lp κ 22 [κ1] n (uW t b13_4 b13_5 x9 u a_n vars dims v99 b20_1 v110)=jm hd k (aH κ) (fun b13_5 v99=>κ1 (gn t b13_4 u a_n vars dims b13_5 v99)) t b13_4 b13_5 x9 u a_n vars dims v99 n b20_1 v110:=ax (qP hd k (aH κ) t b13_4 b13_5 x9 u a_n vars dims v99 (fun b13_5 v99=>κ1 (gn t b13_4 u a_n vars dims b13_5 v99))) rfl (fun _=>rfl) fun r b20_1 v110=>by kernel_rfl
theorem CM (b13_4): ∀n b13_5 v99,(dU hd k).lp κ 18 [] n (gn t b13_4 u a_n vars dims b13_5 v99)=f0 hd k (aH κ) t b13_4 u a_n vars dims n b13_5 v99:=ax (fun own=>lG hd k (aH κ) t b13_4 u a_n vars dims (fun b13_5 x9 v99 b20_1 v110=>jm hd k (aH κ) own t b13_4 b13_5 x9 u a_n vars dims v99 k b20_1 v110) own) rfl (fun _=>rfl) fun r b13_5 v99=>Eq.trans (b:=lG hd k (aH κ) t b13_4 u a_n vars dims (fun b13_5 x9 v99 b20_1 v110=>(dU hd k).lp κ 22 [r] k (uW t b13_4 b13_5 x9 u a_n vars dims v99 b20_1 v110)) (fun b13_5 v99=>r (gn t b13_4 u a_n vars dims b13_5 v99)) b13_5 v99) (by kernel_rfl) (by simp only [CN])
theorem CL: ∀n b13_4 v68,(dU hd k).lp κ 12 [] n (oH t u a_n vars dims b13_4 v68)=n8 hd k (aH κ) t u a_n vars dims n b13_4 v68:=ax (fun own=>lE hd k (aH κ) t u a_n vars dims (fun b13_4 b13_5 v99=>f0 hd k (aH κ) t b13_4 u a_n vars dims k b13_5 v99) own) rfl (fun _=>rfl) fun r b13_4 v68=>Eq.trans (b:=lE hd k (aH κ) t u a_n vars dims (fun b13_4 b13_5 v99=>(dU hd k).lp κ 18 [] k (gn t b13_4 u a_n vars dims b13_5 v99)) (fun b13_4 v68=>r (oH t u a_n vars dims b13_4 v68)) b13_4 v68) (by kernel_rfl) (by simp only [CM])
end
theorem t8 {S:Type} (o:Obj) (ho:ad o): ∀k:Nat,Tl o 95 (pg (dB k:bX S))
 |0=>cv fun t a_n u vars dims κ x h=>by cases h
 |k+1=>af (dU (dB k) k) ⟨dj o ho k,mZ o ho k,t8 o ho k,EP o ho k,trivial⟩ Tryz.func95 (by kernel_rfl) fun t a_n u vars dims κ x h=>Eq.trans (b:=zw (dB k) k (aH κ) (fun b13_4 v68=>(dU (dB k) k).lp κ 12 [] k (oH t u a_n vars dims b13_4 v68)) t a_n u vars dims) (by kernel_rfl) (Eq.trans (by simp only [CL];rfl) h)
def gK {S:Type} (hd:aR S):Rw S:=ae be xn fun t κ=>hd t (ap κ)
def wv {S:Type} (hd:aR S) (k:Nat):Rw S:=ae jb aD fun a_k p p' c0 κ=>aa k (mD hd k a_k p p' c0) (aL κ)
def Ax {S:Type} (hd:aR S) (k:Nat):Fx S:=fp 12 [(96,gK hd)] [] k Tryz.f145 1
theorem EQ {S:Type} (o:Obj) (ho:ad o) (hd:aR S) (Hd:Tl o 96 (gK hd)) (k:Nat):Tl o 145 (wv hd k:Rw S):=af (Ax hd k) ⟨Hd,trivial⟩ Tryz.func145 (by kernel_rfl) fun a_k p p' c0 κ x h=>Eq.trans (by kernel_rfl) (ag h)
def wx {S:Type} (hd:aR S) (k:Nat):Rw S:=ae HD aD fun t c0 κ=>aa k (ta hd k t c0) (aL κ)
def dV {S:Type} (hd:aR S) (k:Nat):Fx S:=fp 60 [(36,cY k),(145,wv hd k)] [(2,ay [1,2,15,16,17] [(2,6),(1000000,1)],aj 4 5),(12,ay [1,9,40,41,42] [(1000000,1)],aj 7 47),(15,ay [1,9,40,41,42,47,48,49] [(1000000,1)],aj 15 13103)] k Tryz.f71 1
def oI (t:Tm) (e0_0 v17:Int):St UU:=⟨[(1,(.func 145 [] [(pt 1000000)])),(2,(pt 2)),(15,(sT t.kids)),(16,(.int .i64 (t.kids.length:Int))),(17,(iI v17))],[(2,bT t),(1000000,bI e0_0)],[],[]⟩
def gq (t:Tm) (e0_0' v42 more9:Int):St UU:=⟨[(1,(.func 145 [] [(pt 1000000)])),(9,(iI more9)),(40,(sB t.sys)),(41,(.int .i64 (t.sys.length:Int))),(42,(iI v42))],[(1000000,bI e0_0')],[],[]⟩
def uX (t:Tm) (v42:Int) (x4:(Br Tm)) (more9:Int) (e0_0'' v49:Int):St UU:=⟨[(1,(.func 145 [] [(pt 1000000)])),(9,(iI more9)),(40,(sB t.sys)),(41,(.int .i64 (t.sys.length:Int))),(42,(iI v42)),(47,(sT x4.kids)),(48,(.int .i64 (x4.kids.length:Int))),(49,(iI v49))],[(1000000,bI e0_0'')],[],[]⟩
section
variable {S:Type} (hd:aR S) (k:Nat) (t:Tm) (c0:Int) (κ:Out UU→Option S)
theorem CR (v42 x4 more9 κ1): ∀n e0_0'' v49,(dV hd k).lp κ 15 [κ1] n (uX t v42 x4 more9 e0_0'' v49)=js hd k (aL κ) (fun e0_0' v42 more9=>κ1 (gq t e0_0' v42 more9)) t v42 x4 more9 n e0_0'' v49:=ax (rc hd k (aL κ) t v42 x4 more9 (fun e0_0' v42 more9=>κ1 (gq t e0_0' v42 more9))) rfl (fun _=>rfl) fun r e0_0'' v49=>by kernel_rfl
theorem CQ: ∀n e0_0' v42 more9,(dV hd k).lp κ 12 [] n (gq t e0_0' v42 more9)=gc hd k (aL κ) t n e0_0' v42 more9:=bQ (fun own=>lU hd k (aL κ) t (fun v42 x4 more9 e0_0'' v49=>js hd k (aL κ) own t v42 x4 more9 k e0_0'' v49) own) rfl (fun _=>rfl) fun r e0_0' v42 more9=>Eq.trans (b:=lU hd k (aL κ) t (fun v42 x4 more9 e0_0'' v49=>(dV hd k).lp κ 15 [r] k (uX t v42 x4 more9 e0_0'' v49)) (fun e0_0' v42 more9=>r (gq t e0_0' v42 more9)) e0_0' v42 more9) (by kernel_rfl) (by simp only [CR])
theorem CO: ∀n e0_0 v17,(dV hd k).lp κ 2 [] n (oI t e0_0 v17)=ov hd k (aL κ) t n e0_0 v17:=ax (fun own=>lS hd k (aL κ) t (fun e0_0' v42 more9=>gc hd k (aL κ) t k e0_0' v42 more9) own) rfl (fun _=>rfl) fun r e0_0 v17=>Eq.trans (b:=lS hd k (aL κ) t (fun e0_0' v42 more9=>(dV hd k).lp κ 12 [] k (gq t e0_0' v42 more9)) (fun e0_0 v17=>r (oI t e0_0 v17)) e0_0 v17) (by kernel_rfl) (by simp only [CQ])
end
theorem ES {S:Type} (o:Obj) (ho:ad o) (hd:aR S) (Hd:Tl o 96 (gK hd)) (k:Nat):Tl o 71 (wx hd k:Rw S):=af (dV hd k) ⟨dj o ho k,EQ o ho hd Hd k,trivial⟩ Tryz.func71 (by kernel_rfl) fun t c0 κ x h=>Eq.trans (b:=zM hd k (aL κ) (fun e0_0 v17=>(dV hd k).lp κ 2 [] k (oI t e0_0 v17)) t c0) (by kernel_rfl) (Eq.trans (by simp only [CO];rfl) (ag h))
def Aw {S:Type} (hd:aR S) (k:Nat):Fx S:=fp 9 [(71,wx hd k)] [] k Tryz.f96 0
theorem t_ {S:Type} (o:Obj) (ho:ad o): ∀k:Nat,Tl o 96 (gK (eM k:aR S))
 |0=>cv fun t κ x h=>by cases h
 |k+1=>af (Aw (eM k) k) ⟨ES o ho (eM k) (t_ o ho k) k,trivial⟩ Tryz.func96 (by kernel_rfl) fun t κ x h=>Eq.trans (by kernel_rfl) h
def wy {S:Type} (k:Nat):Rw S:=ae HE xn fun t a_n u κ=>aa k (sO k t a_n u) (bJ κ)
def Az {S:Type} (k:Nat):Fx S:=⟨⟨49,(fun _=>[]),(fun _=>false),.none,fun|6=>true|7=>true|_=>false⟩,[(21,bi k),(92,gJ (ee k)),(93,pf (dA k)),(95,pg (dB k)),(96,gK (eM k))],[],k,Tryz.f55,false,[],0,some (eK 16 94 Tryz.f94 k)⟩
theorem EU {S:Type} (o:Obj) (ho:ad o) (k:Nat):Tl o 55 (wy k:Rw S):=kn (Az k) rfl (hX o Tryz.func94 (by kernel_rfl)) ⟨bn o ho k,t6 o ho k,t7 o ho k,t8 o ho k,t_ o ho k,trivial⟩ Tryz.func55 (by kernel_rfl) fun t a_n u κ x h=>Eq.trans (by kernel_rfl) (ag h)
def ph {S:Type} (k:Nat):Rw S:=ae HF aD fun t u c0 κ=>aa k (mB k t u c0) (bR κ)
def AB {S:Type} (k:Nat):Fx S:=fp 18 [(50,cZ k),(51,cW k),(55,wy k)] [] k Tryz.f25 1
theorem tp {S:Type} (o:Obj) (ho:ad o) (k:Nat):Tl o 25 (ph k:Rw S):=af (AB k) ⟨dk o ho k,dh o ho k,EU o ho k,trivial⟩ Tryz.func25 (by kernel_rfl) fun t u c0 κ x h=>Eq.trans (by kernel_rfl) (ag h)
def wz {S:Type} (k:Nat):Rw S:=ae nz aD fun t vars dims c0 κ=>aa k (sL k t vars dims c0) (bR κ)
def AC {S:Type} (k:Nat):Fx S:=fp 21 [(50,cZ k),(51,cW k),(56,j6 k)] [] k Tryz.f27 1
theorem EV {S:Type} (o:Obj) (ho:ad o) (k:Nat):Tl o 27 (wz k:Rw S):=af (AC k) ⟨dk o ho k,dh o ho k,mZ o ho k,trivial⟩ Tryz.func27 (by kernel_rfl) fun t vars dims c0 κ x h=>Eq.trans (by kernel_rfl) (ag h)
def gL {S:Type} (k:Nat):Rw S:=ae nx xn fun kind kids κ=>aa k (dz k kind kids) (o8 κ)
def AD {S:Type} (k:Nat):Fx S:=fx 8 (fun _=>[]) (fun _=>false) [] [] k Tryz.f28 true [] 0
theorem iH {S:Type} (o:Obj) (ho:ad o) (k:Nat):Tl o 28 (gL k:Rw S):=af (AD k) trivial Tryz.func28 (by kernel_rfl) fun kind kids κ x h=>Eq.trans (by kernel_rfl) (ag h)
def wA {S:Type} (k:Nat):Rw S:=ae HG MC fun p a_by a_x c0 c1 c3 κ=>aa k (mo k p a_by a_x c0 c1 c3) (jU c0 c1 κ)
def kL {S:Type} (k:Nat):Fx S:=fx 42 (fun _=>[]) (fun _=>false) [(27,wz k),(28,gL k)] [(3,⟨[(1,.none),(3,.none),(5,.none),(8,.none),(9,.none),(10,some (100010,false)),(18,.none),(19,.none),(20,.none)],[(8,[.none,.none,.none,.none,.none,.none]),(9,[.none,.none,.none,some (200579,true),some (200580,true),some (200581,true)]),(1000000,[.none,.none,.none,.none,.none,.none]),(1000001,[.none]),(1000002,[.none]),(1000003,[.none])]⟩,aj 5 11)] k Tryz.f26 true [] 4
def uY (c0:Tm) (c1:Int) (a_x:Tm) (a_by:Int) (e3_0:Int) (kids10:List Tm) (v20:Int):St UU:=⟨[(1,(iI a_by)),(3,(pt 1000000)),(5,(pt 1000002)),(8,(pt 8)),(9,(pt 9)),(10,(.own 100010 0)),(18,(a7 (List.drop (Int.toNat 1) (List.take (Int.toNat c1) c0.kids)) .none)),(19,(.int .i64 ((List.drop (Int.toNat 1) (List.take (Int.toNat c1) c0.kids)).length:Int))),(20,(iI v20))],[(8,bT a_x),(9,.cells [(iI 0),(iI 0),(.str ByteArray.empty),(.own 200579 0),(.own 200580 0),(.own 200581 0)]),(1000000,bT c0),(1000001,bI c1),(1000002,.cells [(pt 1000003)]),(1000003,bI e3_0)],[(200581,⟨0,ET.B,([]:List (Br Tm))⟩),(200580,⟨0,ET.T,([]:List Tm)⟩),(200579,⟨0,ET.C,([]:List Cl)⟩),(100010,⟨0,ET.T,kids10⟩)],[(200581,.wr),(200580,.wr),(200579,.wr),(100010,.app)]⟩
section
variable {S:Type} (k:Nat) (p:Tm) (a_by:Int) (a_x c0:Tm) (c1 c3:Int) (κ:Out UU→Option S)
theorem CS: ∀n e3_0 kids10 v20,(kL k).lp κ 3 [] n (uY c0 c1 a_x a_by e3_0 kids10 v20)=n1 k (jU c0 c1 κ) c0 c1 a_x a_by n e3_0 kids10 v20:=bQ (qJ k (jU c0 c1 κ) c0 c1 a_x a_by) rfl (fun _=>rfl) fun r e3_0 kids10 v20=>by kernel_rfl
end
theorem EW {S:Type} (o:Obj) (ho:ad o) (k:Nat):Tl o 26 (wA k:Rw S):=af (kL k) ⟨EV o ho k,iH o ho k,trivial⟩ Tryz.func26 (by kernel_rfl) fun p a_by a_x c0 c1 c3 κ x h=>Eq.trans (b:=zn k (jU c0 c1 κ) (fun e3_0 kids10 v20=>(kL k).lp κ 3 [] k (uY c0 c1 a_x a_by e3_0 kids10 v20)) p a_by a_x c0 c1 c3) (by kernel_rfl) (Eq.trans (by simp only [CS];rfl) (ag h))
def pi {S:Type} (k:Nat):Rw S:=ae HI xn fun f kids κ=>aa k (my k f kids) (Ja κ)
def AE {S:Type} (k:Nat):Fx S:=fp 8 [] [] k Tryz.f29 0
theorem tq {S:Type} (o:Obj) (ho:ad o) (k:Nat):Tl o 29 (pi k:Rw S):=af (AE k) trivial Tryz.func29 (by kernel_rfl) fun f kids κ x h=>Eq.trans (by kernel_rfl) (ag h)
def wB {S:Type} (k:Nat):Rw S:=ae dH aD fun line c0 κ=>aa k (rB k line c0) (bR κ)
def AF {S:Type} (k:Nat):Fx S:=fp 25 [(74,j_ k),(84,dM k),(123,jW k),(140,eB k)] [] k Tryz.f98 1
theorem EX {S:Type} (o:Obj) (ho:ad o) (k:Nat):Tl o 98 (wB k:Rw S):=af (AF k) ⟨m7 o ho k,eh o ho k,mQ o ho k,eS o ho k,trivial⟩ Tryz.func98 (by kernel_rfl) fun line c0 κ x h=>Eq.trans (by kernel_rfl) (ag h)
def wC {S:Type} (k:Nat):Rw S:=ae uy xn fun line a sys κ=>aa k (rz k line a sys) (bJ κ)
def kM {S:Type} (k:Nat):Fx S:=fp 78 [(22,bS (aJ k)),(80,pu k),(81,pr k),(82,j4 k),(84,dM k),(86,pd k),(87,py k),(98,wB k)] [(5,⟨[(3,.none),(6,.none),(8,.none),(9,.none),(36,.none),(37,.none),(38,.none)],[(3,[.none,.none,.none,.none,.none,.none]),(6,[.none,.none,.none,some (200387,true),some (200388,true),some (200389,true)]),(9,[.none,.none,.none,some (200579,true),.none,some (200581,true)]),(19000,[.none])]⟩,aj 7 47)] k Tryz.f57 0
def uZ (r3:Tm) (r9:Int×Int×ByteArray×List Tm) (r6:Tm) (b19000_0:Int) (b9_5:List (Br Tm)) (v38:Int):St UU:=⟨[(3,(pt 3)),(6,(pt 6)),(8,(pt 19000)),(9,(pt 9)),(36,(sB r6.sys)),(37,(.int .i64 (r6.sys.length:Int))),(38,(iI v38))],[(3,bT r3),(6,.cells [(iI 0),(iI 0),(.str ByteArray.empty),(.own 200387 0),(.own 200388 0),(.own 200389 0)]),(9,.cells [(iI r9.1),(iI r9.2.1),(.str r9.2.2.1),(.own 200579 0),(sT r9.2.2.2),(.own 200581 0)]),(19000,bI b19000_0)],[(200581,⟨0,ET.B,b9_5⟩),(200579,⟨0,ET.C,([]:List Cl)⟩),(200389,⟨0,ET.B,([]:List (Br Tm))⟩),(200388,⟨0,ET.T,([]:List Tm)⟩),(200387,⟨0,ET.C,([]:List Cl)⟩)],[(200581,.wr),(200579,.wr),(200389,.wr),(200388,.wr),(200387,.wr)]⟩
section
variable {S:Type} (k:Nat) (line a:Tm) (sys:List (Br Tm)) (κ:Out UU→Option S)
theorem CT (r3 r9 r6): ∀n b19000_0 b9_5 v38,(kM k).lp κ 5 [] n (uZ r3 r9 r6 b19000_0 b9_5 v38)=nE k (bJ κ) r3 r9 r6 n b19000_0 b9_5 v38:=bQ (qf k (bJ κ) r3 r9 r6) rfl (fun _=>rfl) fun r b19000_0 b9_5 v38=>by kernel_rfl
end
theorem EY {S:Type} (o:Obj) (ho:ad o) (k:Nat):Tl o 57 (wC k:Rw S):=af (kM k) ⟨cO o ho k,tA o ho k,tz o ho k,mX o ho k,eh o ho k,tl o ho k,tD o ho k,EX o ho k,trivial⟩ Tryz.func57 (by kernel_rfl) fun line a sys κ x h=>Eq.trans (b:=yU k (bJ κ) (fun r3 r9 r6 b19000_0 b9_5 v38=>(kM k).lp κ 5 [] k (uZ r3 r9 r6 b19000_0 b9_5 v38)) line a sys) (by kernel_rfl) (Eq.trans (by simp only [CT];rfl) (ag h))
def wD {S:Type} (k:Nat):Rw S:=ae uz aD fun line a sys c0 κ=>aa k (sH k line a sys c0) (bR κ)
def AG {S:Type} (k:Nat):Fx S:=fp 21 [(50,cZ k),(51,cW k),(57,wC k)] [] k Tryz.f31 1
theorem EZ {S:Type} (o:Obj) (ho:ad o) (k:Nat):Tl o 31 (wD k:Rw S):=af (AG k) ⟨dk o ho k,dh o ho k,EY o ho k,trivial⟩ Tryz.func31 (by kernel_rfl) fun line a sys c0 κ x h=>Eq.trans (by kernel_rfl) (ag h)
def jX {S:Type} (k:Nat):Rw S:=ae dH aD fun t c0 κ=>aa k (eb k t c0) (Jb κ)
def AH {S:Type} (k:Nat):Fx S:=fp 20 [(21,bi k),(22,bS (aJ k)),(50,cZ k),(51,cW k)] [] k Tryz.f30 1
theorem mR {S:Type} (o:Obj) (ho:ad o) (k:Nat):Tl o 30 (jX k:Rw S):=af (AH k) ⟨bn o ho k,cO o ho k,dk o ho k,dh o ho k,trivial⟩ Tryz.func30 (by kernel_rfl) fun t c0 κ x h=>Eq.trans (by kernel_rfl) (ag h)
def wF {S:Type} (k:Nat):Rw S:=ae be xn fun t κ=>aa k (sr k t) (aQ κ)
def fq {S:Type} (k:Nat):Fx S:=fp 119 [(21,bi k),(22,bS (aJ k)),(23,wj k),(24,wn k),(25,ph k),(26,wA k),(29,pi k),(30,jX k),(31,wD k)] [(1000007,⟨[(1,.none),(2,.none),(6,.none)],[(1,[.none,.none,.none,.none,.none,.none]),(2,[.none,.none,.none,some (200131,true),some (200132,true),some (200133,true)]),(6,[.none])]⟩,aj 4 15),(17,⟨[(2,.none),(8,.none),(10,.none),(11,.none),(12,.none),(13,.none),(14,some (100014,true)),(88,.none),(89,.none),(90,.none)],[(1,[.none,.none,.none,.none,.none,.none]),(2,[.none,.none,.none,some (200131,true),some (200132,true),some (200133,true)]),(6,[.none]),(8,[.none]),(10,[.none,.none,.none,.none,.none,.none]),(11,[.none,.none,.none,.none,.none,.none]),(13,[.none,.none,.none,some (200835,true),.none,some (200837,true)]),(53,[.none])]⟩,aj 16 24575)] k Tryz.f9 0
def u0 (t:Tm):St UU:=⟨[(1,(pt 1)),(2,(pt 2)),(6,(pt 6))],[(1,bT t),(2,.cells [(iI 0),(iI 0),(.str ByteArray.empty),(.own 200131 0),(.own 200132 0),(.own 200133 0)]),(6,.cells [(.int .i64 (IntKind.wrap .i64 ((t.kids.length:Int)-1)))])],[(200133,⟨0,ET.B,([]:List (Br Tm))⟩),(200132,⟨0,ET.T,([]:List Tm)⟩),(200131,⟨0,ET.C,([]:List Cl)⟩)],[(200133,.wr),(200132,.wr),(200131,.wr)]⟩
def u1 (r3:Tm) (r9 r10:Tm×Int) (r13:Int×Int×ByteArray×List Tm×Int) (t x4:Tm) (b53_0:Int) (sys14:List (Br Tm)) (v90:Int):St UU:=⟨[(2,(pt 2)),(8,(pt 8)),(10,(pt 10)),(11,(pt 11)),(12,(.func 26 [] [(pt 1),(pt 6),(pt 8)])),(13,(pt 13)),(14,(.own 100014 0)),(88,(sB x4.sys)),(89,(.int .i64 (x4.sys.length:Int))),(90,(iI v90))],[(1,bT r3),(2,.cells [(iI 0),(iI 0),(.str ByteArray.empty),(.own 200131 0),(.own 200132 0),(.own 200133 0)]),(6,.cells [(.int .i64 (IntKind.wrap .i64 ((t.kids.length:Int)-1)))]),(8,.cells [(pt 53)]),(10,bT r9.1),(11,bT r10.1),(13,.cells [(iI r13.1),(iI r13.2.1),(.str r13.2.2.1),(.own 200835 0),(sT r13.2.2.2.1),(.own 200837 0)]),(53,bI b53_0)],[(200837,⟨0,ET.B,([]:List (Br Tm))⟩),(200835,⟨0,ET.C,([]:List Cl)⟩),(200133,⟨0,ET.B,([]:List (Br Tm))⟩),(200132,⟨0,ET.T,([]:List Tm)⟩),(200131,⟨0,ET.C,([]:List Cl)⟩),(100014,⟨0,ET.B,sys14⟩)],[(200837,.wr),(200835,.wr),(200133,.wr),(200132,.wr),(200131,.wr),(100014,.wr)]⟩
section
variable {S:Type} (k:Nat) (t:Tm) (κ:Out UU→Option S)
theorem CV (r3 r9 r10 r13 x4): ∀n b53_0 sys14 v90,(fq k).lp κ 17 [] n (u1 r3 r9 r10 r13 t x4 b53_0 sys14 v90)=jh k (aQ κ) r3 r9 r10 r13 t x4 n b53_0 sys14 v90:=bQ (qI k (aQ κ) r3 r9 r10 r13 t x4) rfl (fun _=>rfl) fun r b53_0 sys14 v90=>by kernel_rfl
theorem CU: ∀n,(fq k).jn κ 1000007 [] n (u0 t)=uC k (aQ κ) t n:=i9 (lu k (aQ κ) t (fun r3 r9 r10 r13 x4 b53_0 sys14 v90=>jh k (aQ κ) r3 r9 r10 r13 t x4 k b53_0 sys14 v90)) rfl (fun _=>rfl) (Eq.trans (b:=lu k (aQ κ) t (fun r3 r9 r10 r13 x4 b53_0 sys14 v90=>(fq k).lp κ 17 [] k (u1 r3 r9 r10 r13 t x4 b53_0 sys14 v90))) (by kernel_rfl) (by simp only [CV]))
end
theorem E1 {S:Type} (o:Obj) (ho:ad o) (k:Nat):Tl o 9 (wF k:Rw S):=af (fq k) ⟨bn o ho k,cO o ho k,EH o ho k,EM o ho k,tp o ho k,EW o ho k,tq o ho k,mR o ho k,EZ o ho k,trivial⟩ Tryz.func9 (by kernel_rfl) fun t κ x h=>Eq.trans (b:=zm k (aQ κ) ((fq k).jn κ 1000007 [] k (u0 t)) t) (by kernel_rfl) (Eq.trans (by simp only [CU];rfl) (ag h))
def jY {S:Type} (k:Nat):Rw S:=ae HJ xn fun kind a_r kids κ=>aa k (ec k kind a_r kids) (Jd κ)
def AI {S:Type} (k:Nat):Fx S:=fx 11 (fun _=>[]) (fun _=>false) [] [] k Tryz.f39 true [] 0
theorem mS {S:Type} (o:Obj) (ho:ad o) (k:Nat):Tl o 39 (jY k:Rw S):=af (AI k) trivial Tryz.func39 (by kernel_rfl) fun kind a_r kids κ x h=>Eq.trans (by kernel_rfl) (ag h)
def pj {S:Type} (k:Nat):Rw S:=ae ux aD fun t a_r c0 κ=>aa k (mC k t a_r c0) (bR κ)
def AJ {S:Type} (k:Nat):Fx S:=fp 18 [(50,cZ k),(51,cW k),(123,jW k)] [] k Tryz.f73 1
theorem tr {S:Type} (o:Obj) (ho:ad o) (k:Nat):Tl o 73 (pj k:Rw S):=af (AJ k) ⟨dk o ho k,dh o ho k,mQ o ho k,trivial⟩ Tryz.func73 (by kernel_rfl) fun t a_r c0 κ x h=>Eq.trans (by kernel_rfl) (ag h)
def pk {S:Type} (k:Nat):Rw S:=ae dH aD fun t c0 κ=>aa k (mA k t c0) (bR κ)
def AK {S:Type} (k:Nat):Fx S:=fp 9 [(73,pj k),(74,j_ k)] [] k Tryz.f40 1
theorem tt {S:Type} (o:Obj) (ho:ad o) (k:Nat):Tl o 40 (pk k:Rw S):=af (AK k) ⟨tr o ho k,m7 o ho k,trivial⟩ Tryz.func40 (by kernel_rfl) fun t c0 κ x h=>Eq.trans (by kernel_rfl) (ag h)
def wG {S:Type} (k:Nat):Rw S:=ae HK aD fun f a_by c0 κ=>aa k (sK k f a_by c0) (vV κ)
def AL {S:Type} (k:Nat):Fx S:=fp 23 [(50,cZ k),(51,cW k),(75,eC k)] [] k Tryz.f41 1
theorem E2 {S:Type} (o:Obj) (ho:ad o) (k:Nat):Tl o 41 (wG k:Rw S):=af (AL k) ⟨dk o ho k,dh o ho k,eT o ho k,trivial⟩ Tryz.func41 (by kernel_rfl) fun f a_by c0 κ x h=>Eq.trans (by kernel_rfl) (ag h)
def wH {S:Type} (k:Nat):Rw S:=ae nC aD fun t a_by c0 κ=>aa k (sJ k t a_by c0) (bR κ)
def AM {S:Type} (k:Nat):Fx S:=fp 18 [(50,cZ k),(51,cW k),(54,j7 k)] [] k Tryz.f42 1
theorem E3 {S:Type} (o:Obj) (ho:ad o) (k:Nat):Tl o 42 (wH k:Rw S):=af (AM k) ⟨dk o ho k,dh o ho k,m0 o ho k,trivial⟩ Tryz.func42 (by kernel_rfl) fun t a_by c0 κ x h=>Eq.trans (by kernel_rfl) (ag h)
def wI {S:Type} (k:Nat):Rw S:=ae HL xn fun kind l kids κ=>aa k (sN k kind l kids) (vU κ)
def AN {S:Type} (k:Nat):Fx S:=fx 11 (fun _=>[]) (fun _=>false) [] [] k Tryz.f43 true [] 0
theorem E4 {S:Type} (o:Obj) (ho:ad o) (k:Nat):Tl o 43 (wI k:Rw S):=af (AN k) trivial Tryz.func43 (by kernel_rfl) fun kind l kids κ x h=>Eq.trans (by kernel_rfl) (ag h)
def wJ {S:Type} (k:Nat):Rw S:=ae be xn fun t κ=>aa k (sq k t) (aQ κ)
def kN {S:Type} (k:Nat):Fx S:=fp 133 [(21,bi k),(22,bS (aJ k)),(29,pi k),(30,jX k),(39,jY k),(40,pk k),(41,wG k),(42,wH k),(43,wI k)] [(20,⟨[(1,.none),(2,.none),(6,.none),(8,.none),(9,.none),(10,.none),(11,some (100011,true)),(94,.none),(95,.none),(96,.none)],[(1,[.none,.none,.none,.none,.none,.none]),(2,[.none,.none,.none,some (200131,true),some (200132,true),some (200133,true)]),(6,[.none,.none,.none,.none,.none,.none]),(9,[.none,.none,.none,.none,.none,.none]),(10,[.none,.none,.none,.none,.none,some (200645,true)]),(44,[.none])]⟩,aj 21 769727)] k Tryz.f14 0
def u3 (r3:Tm) (r15:Int×Int×ByteArray×List Cl×List Tm) (x4:Tm) (r13:Tm×Int) (x5:Tm) (b44_0:Int) (sys11:List (Br Tm)) (v96:Int):St UU:=⟨[(1,(pt 1)),(2,(pt 2)),(6,(pt 6)),(8,(pt 44)),(9,(pt 9)),(10,(pt 10)),(11,(.own 100011 0)),(94,(sB x5.sys)),(95,(.int .i64 (x5.sys.length:Int))),(96,(iI v96))],[(1,bT r3),(2,.cells [(iI 0),(iI 0),(.str ByteArray.empty),(.own 200131 0),(.own 200132 0),(.own 200133 0)]),(6,bT x4),(9,bT r13.1),(10,.cells [(iI r15.1),(iI r15.2.1),(.str r15.2.2.1),(sC r15.2.2.2.1),(sT r15.2.2.2.2),(.own 200645 0)]),(44,bI b44_0)],[(200645,⟨0,ET.B,([]:List (Br Tm))⟩),(200133,⟨0,ET.B,([]:List (Br Tm))⟩),(200132,⟨0,ET.T,([]:List Tm)⟩),(200131,⟨0,ET.C,([]:List Cl)⟩),(100011,⟨0,ET.B,sys11⟩)],[(200645,.wr),(200133,.wr),(200132,.wr),(200131,.wr),(100011,.wr)]⟩
section
variable {S:Type} (k:Nat) (t:Tm) (κ:Out UU→Option S)
theorem CW (r3 r15 x4 r13 x5): ∀n b44_0 sys11 v96,(kN k).lp κ 20 [] n (u3 r3 r15 x4 r13 x5 b44_0 sys11 v96)=nZ k (aQ κ) r3 r15 x4 r13 x5 n b44_0 sys11 v96:=bQ (qH k (aQ κ) r3 r15 x4 r13 x5) rfl (fun _=>rfl) fun r b44_0 sys11 v96=>by kernel_rfl
end
theorem E5 {S:Type} (o:Obj) (ho:ad o) (k:Nat):Tl o 14 (wJ k:Rw S):=af (kN k) ⟨bn o ho k,cO o ho k,tq o ho k,mR o ho k,mS o ho k,tt o ho k,E2 o ho k,E3 o ho k,E4 o ho k,trivial⟩ Tryz.func14 (by kernel_rfl) fun t κ x h=>Eq.trans (b:=zl k (aQ κ) (fun r3 r15 x4 r13 x5 b44_0 sys11 v96=>(kN k).lp κ 20 [] k (u3 r3 r15 x4 r13 x5 b44_0 sys11 v96)) t) (by kernel_rfl) (Eq.trans (by simp only [CW];rfl) (ag h))
section
variable {S:Type} (k:Nat) (a b:List Cl) (κ:Out UU→Option S)
end
section
variable {S:Type} (hd:p6 S) (k:Nat) (a b:List Tm) (κ:Out UU→Option S)
end
section
variable {S:Type} (hd:p6 S) (k:Nat) (a b:Tm) (κ:Out UU→Option S)
end
end
end Go.Proofs.YtfkkpkhfjpaafaaGreatDoor
namespace Go.Proofs.YtfkkpkhfjpaafaaGreatDoor
open Go PI
set_option linter.unusedVariables false
set_option maxRecDepth 100000
noncomputable section
section
variable {S:Type} (hd:Cn S) (k:Nat) (t:Tm) (κ:Out UU→Option S)
end
section
variable {S:Type} (hd:Co S) (k:Nat) (t:Tm) (κ:Out UU→Option S)
end
section
variable {S:Type} (hd:Cp S) (k:Nat) (t:Tm) (κ:Out UU→Option S)
end
def wL {S:Type} (k:Nat):Rw S:=ae dp xn fun kind κ=>aa k (iD k kind) (ap κ)
def AP {S:Type} (k:Nat):Fx S:=fp 14 [] [] k Tryz.f45 0
theorem E7 {S:Type} (o:Obj) (ho:ad o) (k:Nat):Tl o 45 (wL k:Rw S):=af (AP k) trivial Tryz.func45 (by kernel_rfl) fun kind κ x h=>Eq.trans (by kernel_rfl) (ag h)
section
variable {S:Type} (k:Nat) (s:ByteArray) (κ:Out UU→Option S)
end
section
variable {S:Type} (k:Nat) (a_n:Int) (κ:Out UU→Option S)
end
section
variable {S:Type} (k:Nat) (l:List Cl) (c:Cl) (κ:Out UU→Option S)
end
section
variable {S:Type} (k:Nat) (l:List Cl) (κ:Out UU→Option S)
end
section
variable {S:Type} (k:Nat) (l:List Int) (κ:Out UU→Option S)
end
section
variable {S:Type} (k:Nat) (f:List Cl) (κ:Out UU→Option S)
end
section
variable {S:Type} (k:Nat) (s:Int) (κ:Out UU→Option S)
end
section
variable {S:Type} (k:Nat) (kind kid:Int) (κ:Out UU→Option S)
end
section
variable {S:Type} (k:Nat) (c:Cl) (κ:Out UU→Option S)
end
section
variable {S:Type} (k:Nat) (f:List Cl) (κ:Out UU→Option S)
end
section
variable {S:Type} (hd:Ck S) (k:Nat) (t:Tm) (vars dims:Int) (bound:Bool) (κ:Out UU→Option S)
end
section
variable {S:Type} (k:Nat) (kind:Int) (l:List (Br Tm)) (κ:Out UU→Option S)
end
section
variable {S:Type} (k:Nat) (l:List Tm) (κ:Out UU→Option S)
end
section
variable {S:Type} (k:Nat) (s a_from a_by:Int) (κ:Out UU→Option S)
end
end
end Go.Proofs.YtfkkpkhfjpaafaaGreatDoor
namespace Go.Proofs.YtfkkpkhfjpaafaaGreatDoor
open Go PI
set_option linter.unusedVariables false
set_option maxRecDepth 100000
noncomputable section
section
variable {S:Type} (k:Nat) (f:List Cl) (a_from a_by:Int) (κ:Out UU→Option S)
end
section
variable {S:Type} (hd:Cq S) (k:Nat) (t:Tm) (v vby d dby:Int) (κ:Out UU→Option S)
end
section
variable {S:Type} (k:Nat) (kind:Int) (kids:List Tm) (κ:Out UU→Option S)
end
section
variable {S:Type} (k:Nat) (s i:Int) (κ:Out UU→Option S)
end
section
variable {S:Type} (k:Nat) (l:List Cl) (κ:Out UU→Option S)
end
section
variable {S:Type} (k:Nat) (c:Cl) (κ:Out UU→Option S)
end
section
variable {S:Type} (k:Nat) (a b:Int) (κ:Out UU→Option S)
end
section
variable {S:Type} (k:Nat) (f g:List Cl) (κ:Out UU→Option S)
end
section
variable {S:Type} (k:Nat) (f:List Cl) (κ:Out UU→Option S)
end
section
variable {S:Type} (k:Nat) (f g:List Cl) (κ:Out UU→Option S)
end
section
variable {S:Type} (k:Nat) (f:List Cl) (i:Int) (a_r:List Cl) (κ:Out UU→Option S)
end
section
variable {S:Type} (k:Nat) (f:List Cl) (i:Int) (a_r:List Cl) (κ:Out UU→Option S)
end
section
variable {S:Type} (k:Nat) (s i:Int) (κ:Out UU→Option S)
end
section
variable {S:Type} (k:Nat) (f:List Cl) (i:Int) (κ:Out UU→Option S)
end
section
variable {S:Type} (hd:Cu S) (k:Nat) (t:Tm) (i:Int) (a_r:List Cl) (depth:Int) (drop:Bool) (κ:Out UU→Option S)
end
end
end Go.Proofs.YtfkkpkhfjpaafaaGreatDoor
namespace Go.Proofs.YtfkkpkhfjpaafaaGreatDoor
open Go PI
set_option linter.unusedVariables false
set_option maxRecDepth 100000
noncomputable section
section
variable {S:Type} (k:Nat) (t a:Tm) (sys:List (Br Tm)) (κ:Out UU→Option S)
end
section
variable {S:Type} (hd:Cr S) (k:Nat) (t:Tm) (a_n:Int) (κ:Out UU→Option S)
end
section
variable {S:Type} (k:Nat) (t:Tm) (a_from a_by:Int) (κ:Out UU→Option S)
end
section
variable {S:Type} (k:Nat) (t:Tm) (vars dims:Int) (κ:Out UU→Option S)
end
section
variable {S:Type} (hd:Ct S) (k:Nat) (t:Tm) (a_n:Int) (u:Tm) (vars dims:Int) (κ:Out UU→Option S)
end
section
variable {S:Type} (k:Nat) (line a:Tm) (sys:List (Br Tm)) (κ:Out UU→Option S)
end
section
variable {S:Type} (k:Nat) (t:Tm) (κ:Out UU→Option S)
end
section
variable {S:Type} (hd:Cj S) (k:Nat) (t:Tm) (κ:Out UU→Option S)
end
def wR {S:Type} (k:Nat):Rw S:=ae fW xn fun t vars dims κ=>aa k (s8 k t vars dims) (ap κ)
def AW {S:Type} (k:Nat):Fx S:=fp 28 [(37,pc k),(38,fe (dC k))] [] k Tryz.f13 0
theorem Fc {S:Type} (o:Obj) (ho:ad o) (k:Nat):Tl o 13 (wR k:Rw S):=af (AW k) ⟨tk o ho k,nk o ho k,trivial⟩ Tryz.func13 (by kernel_rfl) fun t vars dims κ x h=>Eq.trans (by kernel_rfl) (ag h)
section
variable {S:Type} (k:Nat) (t:Tm) (vars many:Int) (κ:Out UU→Option S)
end
def pn {S:Type} (k:Nat):Rw S:=ae be xn fun t κ=>aa k (fN k t) (ap κ)
def kP {S:Type} (k:Nat):Fx S:=fp 26 [(44,pe k)] [(1000015,ay [1,3] [(1,6)],aj 3 7)] k Tryz.f16 0
def u6 (t:Tm) (v3:Int):St UU:=⟨[(1,(pt 1)),(3,(iI v3))],[(1,bT t)],[],[]⟩
section
variable {S:Type} (k:Nat) (t:Tm) (κ:Out UU→Option S)
theorem C0: ∀n v3,(kP k).jn κ 1000015 [] n (u6 t v3)=f7 k (ap κ) t n v3:=nq (lH k (ap κ) t) rfl (fun _=>rfl) (fun v3=>by kernel_rfl)
end
theorem tv {S:Type} (o:Obj) (ho:ad o) (k:Nat):Tl o 16 (pn k:Rw S):=af (kP k) ⟨tn o ho k,trivial⟩ Tryz.func16 (by kernel_rfl) fun t κ x h=>Eq.trans (b:=pU k (ap κ) (fun v3=>(kP k).jn κ 1000015 [] k (u6 t v3)) t) (by kernel_rfl) (Eq.trans (by simp only [C0];rfl) (ag h))
def wS {S:Type} (k:Nat):Rw S:=ae be xn fun t κ=>aa k (iE k t) (ap κ)
def AX {S:Type} (k:Nat):Fx S:=fp 24 [(45,wL k)] [] k Tryz.f17 0
theorem Fe {S:Type} (o:Obj) (ho:ad o) (k:Nat):Tl o 17 (wS k:Rw S):=af (AX k) ⟨E7 o ho k,trivial⟩ Tryz.func17 (by kernel_rfl) fun t κ x h=>Eq.trans (by kernel_rfl) (ag h)
def wT {S:Type} (k:Nat):Rw S:=ae nx xn fun kind kids κ=>aa k (d_ k kind kids) (o8 κ)
def AY {S:Type} (k:Nat):Fx S:=fx 8 (fun _=>[]) (fun _=>false) [] [] k Tryz.f47 true [] 0
theorem Ff {S:Type} (o:Obj) (ho:ad o) (k:Nat):Tl o 47 (wT k:Rw S):=af (AY k) trivial Tryz.func47 (by kernel_rfl) fun kind kids κ x h=>Eq.trans (by kernel_rfl) (ag h)
def wU {S:Type} (k:Nat):Rw S:=ae G3 xn fun b κ=>aa k (sZ k b) (ar κ)
def AZ {S:Type} (k:Nat):Fx S:=fp 15 [] [] k Tryz.f282 0
theorem Fg {S:Type} (o:Obj) (ho:ad o) (k:Nat):Tl o 282 (wU k:Rw S):=af (AZ k) trivial Tryz.func282 (by kernel_rfl) fun b κ x h=>Eq.trans (by kernel_rfl) (ag h)
end
end Go.Proofs.YtfkkpkhfjpaafaaGreatDoor
namespace Go.Proofs.YtfkkpkhfjpaafaaGreatDoor
open Go PI
set_option linter.unusedVariables false
set_option maxRecDepth 100000
noncomputable section
def wV {S:Type} (k:Nat):Rw S:=ae G4 xn fun s κ=>aa k (sW k s) (ap κ)
def kQ {S:Type} (k:Nat):Fx S:=fp 19 [(282,wU k)] [(2,ay [0,1,7,8] [],aj 4 5)] k Tryz.f281 0
def u7 (s:List (Br Tm)) (v8:Int):St UU:=⟨[(0,(sB s)),(1,(.func 282 [] [])),(7,(.int .i64 (s.length:Int))),(8,(iI v8))],[],[],[]⟩
section
variable {S:Type} (k:Nat) (s:List (Br Tm)) (κ:Out UU→Option S)
theorem C1: ∀n v8,(kQ k).lp κ 2 [] n (u7 s v8)=oe k (ap κ) s n v8:=bo (qT k (ap κ) s) rfl (fun _=>rfl) fun r v8=>by kernel_rfl
end
theorem Fh {S:Type} (o:Obj) (ho:ad o) (k:Nat):Tl o 281 (wV k:Rw S):=af (kQ k) ⟨Fg o ho k,trivial⟩ Tryz.func281 (by kernel_rfl) fun s κ x h=>Eq.trans (b:=zC k (ap κ) (fun v8=>(kQ k).lp κ 2 [] k (u7 s v8)) s) (by kernel_rfl) (Eq.trans (by simp only [C1];rfl) (ag h))
def wW {S:Type} (k:Nat):Rw S:=ae um xn fun l κ=>aa k (sY k l) (ap κ)
def A0 {S:Type} (k:Nat):Fx S:=fp 5 [(281,wV k)] [] k Tryz.f235 0
theorem Fi {S:Type} (o:Obj) (ho:ad o) (k:Nat):Tl o 235 (wW k:Rw S):=af (A0 k) ⟨Fh o ho k,trivial⟩ Tryz.func235 (by kernel_rfl) fun l κ x h=>Eq.trans (by kernel_rfl) (ag h)
def wX {S:Type} (k:Nat):Rw S:=ae dH aD fun t c0 κ=>aa k (d7 k t c0) (o9 κ)
def A1 {S:Type} (k:Nat):Fx S:=fp 50 [(28,gL k),(40,pk k),(235,wW k)] [] k Tryz.f177 1
theorem Fj {S:Type} (o:Obj) (ho:ad o) (k:Nat):Tl o 177 (wX k:Rw S):=af (A1 k) ⟨iH o ho k,tt o ho k,Fi o ho k,trivial⟩ Tryz.func177 (by kernel_rfl) fun t c0 κ x h=>Eq.trans (by kernel_rfl) (ag h)
def j0 {S:Type} (k:Nat):Rw S:=ae cP xn fun a_r κ=>aa k (ie k a_r) (ap κ)
def A2 {S:Type} (k:Nat):Fx S:=fp 18 [] [] k Tryz.f176 0
theorem mU {S:Type} (o:Obj) (ho:ad o) (k:Nat):Tl o 176 (j0 k:Rw S):=af (A2 k) trivial Tryz.func176 (by kernel_rfl) fun a_r κ x h=>Eq.trans (by kernel_rfl) (ag h)
def wZ {S:Type} (k:Nat):Rw S:=ae dH aD fun t c0 κ=>aa k (rt k t c0) (o9 κ)
def A3 {S:Type} (k:Nat):Fx S:=fp 38 [(73,pj k),(176,j0 k)] [] k Tryz.f172 1
theorem Fl {S:Type} (o:Obj) (ho:ad o) (k:Nat):Tl o 172 (wZ k:Rw S):=af (A3 k) ⟨tr o ho k,mU o ho k,trivial⟩ Tryz.func172 (by kernel_rfl) fun t c0 κ x h=>Eq.trans (by kernel_rfl) (ag h)
def w1 {S:Type} (k:Nat):Rw S:=ae be xn fun t κ=>aa k (ma k t) (ez κ)
def A4 {S:Type} (k:Nat):Fx S:=fp 22 [(28,gL k),(176,j0 k)] [] k Tryz.f173 0
theorem Fo {S:Type} (o:Obj) (ho:ad o) (k:Nat):Tl o 173 (w1 k:Rw S):=af (A4 k) ⟨iH o ho k,mU o ho k,trivial⟩ Tryz.func173 (by kernel_rfl) fun t κ x h=>Eq.trans (by kernel_rfl) (ag h)
def w5 {S:Type} (k:Nat):Rw S:=ae be xn fun t κ=>aa k (rq k t) (ez κ)
def A5 {S:Type} (k:Nat):Fx S:=fp 36 [(39,jY k)] [] k Tryz.f174 0
theorem Fp {S:Type} (o:Obj) (ho:ad o) (k:Nat):Tl o 174 (w5 k:Rw S):=af (A5 k) ⟨mS o ho k,trivial⟩ Tryz.func174 (by kernel_rfl) fun t κ x h=>Eq.trans (by kernel_rfl) (ag h)
def w6 {S:Type} (k:Nat):Rw S:=ae be xn fun t κ=>aa k (ry k t) (ez κ)
def A6 {S:Type} (k:Nat):Fx S:=fp 48 [(28,gL k),(39,jY k)] [] k Tryz.f175 0
theorem Fq {S:Type} (o:Obj) (ho:ad o) (k:Nat):Tl o 175 (w6 k:Rw S):=af (A6 k) ⟨iH o ho k,mS o ho k,trivial⟩ Tryz.func175 (by kernel_rfl) fun t κ x h=>Eq.trans (by kernel_rfl) (ag h)
def w7 {S:Type} (k:Nat):Rw S:=ae dH aD fun t c0 κ=>aa k (rx k t c0) (o9 κ)
def A7 {S:Type} (k:Nat):Fx S:=fp 120 [(25,ph k),(172,wZ k),(173,w1 k),(174,w5 k),(175,w6 k),(176,j0 k),(177,wX k)] [] k Tryz.f130 1
theorem Fr {S:Type} (o:Obj) (ho:ad o) (k:Nat):Tl o 130 (w7 k:Rw S):=af (A7 k) ⟨tp o ho k,Fl o ho k,Fo o ho k,Fp o ho k,Fq o ho k,mU o ho k,Fj o ho k,trivial⟩ Tryz.func130 (by kernel_rfl) fun t c0 κ x h=>Eq.trans (by kernel_rfl) (ag h)
def w8 {S:Type} (k:Nat):Rw S:=ae be xn fun t κ=>aa k (rp k t) (aQ κ)
def A8 {S:Type} (k:Nat):Fx S:=fp 33 [(21,bi k),(22,bS (aJ k)),(30,jX k),(130,w7 k)] [] k Tryz.f76 0
theorem Fs {S:Type} (o:Obj) (ho:ad o) (k:Nat):Tl o 76 (w8 k:Rw S):=af (A8 k) ⟨bn o ho k,cO o ho k,mR o ho k,Fr o ho k,trivial⟩ Tryz.func76 (by kernel_rfl) fun t κ x h=>Eq.trans (by kernel_rfl) (ag h)
def w9 {S:Type} (k:Nat):Rw S:=ae uh xn fun defs t κ=>aa k (sX k defs t) (ez κ)
def kS {S:Type} (k:Nat):Fx S:=fp 32 [(13,wR k),(22,bS (aJ k))] [(4,⟨[(3,.none),(4,.none),(12,.none),(13,.none),(14,.none)],[(3,[.none,.none,.none,.none,.none,.none]),(4,[.none,.none,.none,some (200259,true),some (200260,true),some (200261,true)])]⟩,aj 5 11)] k Tryz.f79 0
def u_ (t:Tm) (defs:List Df) (v14:Int):St UU:=⟨[(3,(pt 3)),(4,(pt 4)),(12,(gV defs .none)),(13,(.int .i64 (defs.length:Int))),(14,(iI v14))],[(3,bT t),(4,.cells [(iI 0),(iI 0),(.str ByteArray.empty),(.own 200259 0),(.own 200260 0),(.own 200261 0)])],[(200261,⟨0,ET.B,([]:List (Br Tm))⟩),(200260,⟨0,ET.T,([]:List Tm)⟩),(200259,⟨0,ET.C,([]:List Cl)⟩)],[(200261,.wr),(200260,.wr),(200259,.wr)]⟩
section
variable {S:Type} (k:Nat) (defs:List Df) (t:Tm) (κ:Out UU→Option S)
theorem C4: ∀n v14,(kS k).lp κ 4 [] n (u_ t defs v14)=oi k (ez κ) t defs n v14:=bo (qV k (ez κ) t defs) rfl (fun _=>rfl) fun r v14=>by kernel_rfl
end
theorem Ft {S:Type} (o:Obj) (ho:ad o) (k:Nat):Tl o 79 (w9 k:Rw S):=af (kS k) ⟨Fc o ho k,cO o ho k,trivial⟩ Tryz.func79 (by kernel_rfl) fun defs t κ x h=>Eq.trans (b:=zE k (ez κ) (fun v14=>(kS k).lp κ 4 [] k (u_ t defs v14)) defs t) (by kernel_rfl) (Eq.trans (by simp only [C4];rfl) (ag h))
def w_ {S:Type} (k:Nat):Rw S:=ae nC kr fun t a_e c0_0 c0_1 c0_2 c0_3 c0_4 c0_5 c0_6 c0_7 κ=>aa k (sM k t a_e c0_0 c0_1 c0_2 c0_3 c0_4 c0_5 c0_6 c0_7) (Je κ)
def A9 {S:Type} (k:Nat):Fx S:=fp 23 [] [] k Tryz.f51 1
theorem Fv {S:Type} (o:Obj) (ho:ad o) (k:Nat):Tl o 51 (w_ k:Rw S):=af (A9 k) trivial Tryz.func51 (by kernel_rfl) fun t a_e c0_0 c0_1 c0_2 c0_3 c0_4 c0_5 c0_6 c0_7 κ x h=>Eq.trans (by kernel_rfl) (ag h)
def Ji {S:Type} (k:Nat):Rw S:=ae fX kr fun c0_0 c0_1 c0_2 c0_3 c0_4 c0_5 c0_6 c0_7 κ=>aa k (fM k c0_0 c0_1 c0_2 c0_3 c0_4 c0_5 c0_6 c0_7) (vX c0_0 c0_1 c0_2 c0_3 c0_4 c0_5 c0_6 c0_7 κ)
def xa {S:Type} (k:Nat):Rw S:=ae fX kr fun c0_0 c0_1 c0_2 c0_3 c0_4 c0_5 c0_6 c0_7 κ=>aa k (fM k c0_0 c0_1 c0_2 c0_3 c0_4 c0_5 c0_6 c0_7) (ar κ)
def A_ {S:Type} (k:Nat):Fx S:=fp 8 [] [] k Tryz.f50 1
theorem Fy {S:Type} (o:Obj) (ho:ad o) (k:Nat):Tl o 50 (Ji k:Rw S):=af (A_ k) trivial Tryz.func50 (by kernel_rfl) fun c0_0 c0_1 c0_2 c0_3 c0_4 c0_5 c0_6 c0_7 κ x h=>Eq.trans (by kernel_rfl) (ag h)
theorem Fw {S:Type} (o:Obj) (ho:ad o) (k:Nat):Tl o 50 (xa k:Rw S):=zQ (Fy o ho k) fun c0_0 c0_1 c0_2 c0_3 c0_4 c0_5 c0_6 c0_7 κ x h=>Eq.trans (b:=aa k (fM k c0_0 c0_1 c0_2 c0_3 c0_4 c0_5 c0_6 c0_7) (vX c0_0 c0_1 c0_2 c0_3 c0_4 c0_5 c0_6 c0_7 (ic _ κ))) (by kernel_rfl) (Eq.trans (congrArg (aa k (fM k c0_0 c0_1 c0_2 c0_3 c0_4 c0_5 c0_6 c0_7)) (funext fun r=>if_pos rfl)) h)
def xb {S:Type} (k:Nat):Rw S:=ae dH kr fun t c0_0 c0_1 c0_2 c0_3 c0_4 c0_5 c0_6 c0_7 κ=>aa k (mz k t c0_0 c0_1 c0_2 c0_3 c0_4 c0_5 c0_6 c0_7) (Jf κ)
def Bb {S:Type} (k:Nat):Fx S:=fp 20 [(21,bi k),(22,bS (aJ k)),(50,xa k),(51,w_ k)] [] k Tryz.f30 1
theorem Fz {S:Type} (o:Obj) (ho:ad o) (k:Nat):Tl o 30 (xb k:Rw S):=af (Bb k) ⟨bn o ho k,cO o ho k,Fw o ho k,Fv o ho k,trivial⟩ Tryz.func30 (by kernel_rfl) fun t c0_0 c0_1 c0_2 c0_3 c0_4 c0_5 c0_6 c0_7 κ x h=>Eq.trans (by kernel_rfl) (ag h)
def xd {S:Type} (k:Nat):Rw S:=ae be xn fun t κ=>aa k (td k t) (aQ κ)
def Bc {S:Type} (k:Nat):Fx S:=fp 100 [(14,wJ k),(21,bi k),(22,bS (aJ k)),(30,xb k)] [] k Tryz.f77 0
theorem FA {S:Type} (o:Obj) (ho:ad o) (k:Nat):Tl o 77 (xd k:Rw S):=af (Bc k) ⟨E5 o ho k,bn o ho k,cO o ho k,Fz o ho k,trivial⟩ Tryz.func77 (by kernel_rfl) fun t κ x h=>Eq.trans (by kernel_rfl) (ag h)
def xe {S:Type} (k:Nat):Rw S:=ae be xn fun t κ=>aa k (so k t) (Jg κ)
def Bd {S:Type} (k:Nat):Fx S:=fx 89 (fun _=>[]) (fun _=>false) [(21,bi k),(22,bS (aJ k))] [] k Tryz.f78 true [] 0
theorem FB {S:Type} (o:Obj) (ho:ad o) (k:Nat):Tl o 78 (xe k:Rw S):=af (Bd k) ⟨bn o ho k,cO o ho k,trivial⟩ Tryz.func78 (by kernel_rfl) fun t κ x h=>Eq.trans (by kernel_rfl) (ag h)
def xg {S:Type} (k:Nat):Rw S:=ae uh xn fun defs t κ=>aa k (iF k defs t) (aQ κ)
def fy {S:Type} (k:Nat):Fx S:=fp 79 [(9,wF k),(21,bi k),(76,w8 k),(77,xd k),(78,xe k),(79,w9 k)] [(7,⟨[(0,.none),(3,.none),(4,.none),(8,.none),(9,.none),(10,.none),(20,.none)],[(3,[.none,.none,.none,.none,.none,.none]),(4,[.none,.none,.none,some (200259,true),some (200260,true),some (200261,true)]),(8,[.none,.none,.none,.none,.none,.none])]⟩,aj 9 189),(1000022,⟨[(0,.none),(3,.none),(4,.none)],[(3,[.none,.none,.none,.none,.none,.none]),(4,[.none,.none,.none,some (200259,true),some (200260,true),some (200261,true)])]⟩,aj 8 253)] k Tryz.f46 0
def oK (t:Tm) (defs:List Df) (b8_0 b8_1:Int) (b8_2:ByteArray) (b8_3:List Cl) (b8_4:List Tm) (b8_5:List (Br Tm)) (v10 v20:Int) (told9:Bool):St UU:=⟨[(0,(gV defs .none)),(3,(pt 3)),(4,(pt 4)),(8,(pt 8)),(9,(.bool told9)),(10,(iI v10)),(20,(iI v20))],[(3,bT t),(4,.cells [(iI 0),(iI 0),(.str ByteArray.empty),(.own 200259 0),(.own 200260 0),(.own 200261 0)]),(8,.cells [(iI b8_0),(iI b8_1),(.str b8_2),(sC b8_3),(sT b8_4),(sB b8_5)])],[(200261,⟨0,ET.B,([]:List (Br Tm))⟩),(200260,⟨0,ET.T,([]:List Tm)⟩),(200259,⟨0,ET.C,([]:List Cl)⟩)],[(200261,.wr),(200260,.wr),(200259,.wr)]⟩
def vc (t:Tm) (defs:List Df):St UU:=⟨[(0,(gV defs .none)),(3,(pt 3)),(4,(pt 4))],[(3,bT t),(4,.cells [(iI 0),(iI 0),(.str ByteArray.empty),(.own 200259 0),(.own 200260 0),(.own 200261 0)])],[(200261,⟨0,ET.B,([]:List (Br Tm))⟩),(200260,⟨0,ET.T,([]:List Tm)⟩),(200259,⟨0,ET.C,([]:List Cl)⟩)],[(200261,.wr),(200260,.wr),(200259,.wr)]⟩
section
variable {S:Type} (k:Nat) (defs:List Df) (t:Tm) (κ:Out UU→Option S)
theorem C7: ∀n,(fy k).jn κ 1000022 [] n (vc t defs)=oh k (aQ κ) t defs n:=i9 (qU k (aQ κ) t defs) rfl (fun _=>rfl) (by kernel_rfl)
theorem C6: ∀n b8_0 b8_1 b8_2 b8_3 b8_4 b8_5 v10 v20 told9,(fy k).lp κ 7 [] n (oK t defs b8_0 b8_1 b8_2 b8_3 b8_4 b8_5 v10 v20 told9)=og k (aQ κ) t defs n b8_0 b8_1 b8_2 b8_3 b8_4 b8_5 v10 v20 told9:=H0 (fun own=>lJ k (aQ κ) t defs (oh k (aQ κ) t defs k) own) rfl (fun _=>rfl) fun r b8_0 b8_1 b8_2 b8_3 b8_4 b8_5 v10 v20 told9=>Eq.trans (b:=lJ k (aQ κ) t defs ((fy k).jn κ 1000022 [] k (vc t defs)) (fun b8_0 b8_1 b8_2 b8_3 b8_4 b8_5 v10 v20 told9=>r (oK t defs b8_0 b8_1 b8_2 b8_3 b8_4 b8_5 v10 v20 told9)) b8_0 b8_1 b8_2 b8_3 b8_4 b8_5 v10 v20 told9) (by kernel_rfl) (by simp only [C7])
end
theorem FC {S:Type} (o:Obj) (ho:ad o) (k:Nat):Tl o 46 (xg k:Rw S):=af (fy k) ⟨E1 o ho k,bn o ho k,Fs o ho k,FA o ho k,FB o ho k,Ft o ho k,trivial⟩ Tryz.func46 (by kernel_rfl) fun defs t κ x h=>Eq.trans (b:=zD k (aQ κ) (fun b8_0 b8_1 b8_2 b8_3 b8_4 b8_5 v10 v20 told9=>(fy k).lp κ 7 [] k (oK t defs b8_0 b8_1 b8_2 b8_3 b8_4 b8_5 v10 v20 told9)) defs t) (by kernel_rfl) (Eq.trans (by simp only [C6];rfl) (ag h))
def xh {S:Type} (k:Nat):Rw S:=ae cn xn fun κ=>aa k (iw k) (ar κ)
def Be {S:Type} (k:Nat):Fx S:=fp 78 [(16,pn k),(46,xg k),(47,wT k)] [] k Tryz.f18 0
theorem FD {S:Type} (o:Obj) (ho:ad o) (k:Nat):Tl o 18 (xh k:Rw S):=af (Be k) ⟨tv o ho k,FC o ho k,Ff o ho k,trivial⟩ Tryz.func18 (by kernel_rfl) fun κ x h=>Eq.trans (by kernel_rfl) (ag h)
def xj {S:Type} (k:Nat):Rw S:=ae be xn fun t κ=>aa k (mq k t) (ar κ)
def Bf {S:Type} (k:Nat):Fx S:=fp 11 [(16,pn k),(17,wS k),(18,xh k)] [] k Tryz.f5 0
theorem FE {S:Type} (o:Obj) (ho:ad o) (k:Nat):Tl o 5 (xj k:Rw S):=af (Bf k) ⟨tv o ho k,Fe o ho k,FD o ho k,trivial⟩ Tryz.func5 (by kernel_rfl) fun t κ x h=>Eq.trans (by kernel_rfl) (ag h)
section
variable {S:Type} (k:Nat) (l:List (List Cl)) (κ:Out UU→Option S)
end
theorem Mh {S:Type} (o:Obj) (ho:ad o) (k:Nat):Tl o 5 (xj k:Rw S):=FE o ho k
end
end Go.Proofs.YtfkkpkhfjpaafaaGreatDoor
namespace Go.Proofs.YtfkkpkhfjpaafaaGreatDoor
open Go PI
set_option linter.unusedVariables false
set_option linter.unusedSimpArgs false
set_option maxRecDepth 20000
variable {S:Type} {k:Nat}
theorem uA (kd:Int):(kd<0∨kd>28)∨(∃n:Nat,n<29∧kd=n):=by
 by_cases h:kd<0∨kd>28
 ·omega
 ·exact .inr ⟨kd.toNat,by omega,by omega⟩
theorem JI (kd:Int) (ret:Int→Option S):fO k kd ret=ret (ci kd):=by
 simp only [fO,zG]
 rcases uA kd with h|⟨n,hn,rfl⟩
 ·simp only [JP,beq_iff_eq]
  unfold ci
  rw [if_pos h]
  repeat rw [if_neg (by omega)]
 ·unfold ci
  rw [if_neg (by omega),Int.toNat_natCast]
  match n,hn with
  |0,_=>rfl
  |1,_=>rfl
  |2,_=>rfl
  |3,_=>rfl
  |4,_=>rfl
  |5,_=>rfl
  |6,_=>rfl
  |7,_=>rfl
  |8,_=>rfl
  |9,_=>rfl
  |10,_=>rfl
  |11,_=>rfl
  |12,_=>rfl
  |13,_=>rfl
  |14,_=>rfl
  |15,_=>rfl
  |16,_=>rfl
  |17,_=>rfl
  |18,_=>rfl
  |19,_=>rfl
  |20,_=>rfl
  |21,_=>rfl
  |22,_=>rfl
  |23,_=>rfl
  |24,_=>rfl
  |25,_=>rfl
  |26,_=>rfl
  |27,_=>rfl
  |28,_=>rfl
  |n+29,h=>omega
theorem JL (kd:Int) (ret:Int→Option S):iD k kd ret=ret (ci kd):=by
 simp only [iD,zx,pQ]
 unfold ci
 rcases uA kd with h|⟨n,hn,rfl⟩
 ·grind
 ·rw [if_neg (by omega),if_neg (by omega),if_neg (by omega),Ei (by omega),tX,Int.toNat_natCast]
  simp_all [kidsT]
end Go.Proofs.YtfkkpkhfjpaafaaGreatDoor
namespace Go.Proofs.YtfkkpkhfjpaafaaGreatDoor
open Go PI
set_option linter.unusedVariables false
set_option linter.unusedSimpArgs false
set_option maxRecDepth 20000
variable {S:Type} {k:Nat}
end Go.Proofs.YtfkkpkhfjpaafaaGreatDoor
namespace Go.Proofs.YtfkkpkhfjpaafaaGreatDoor
open Go PI
set_option linter.unusedVariables false
set_option linter.unusedSimpArgs false
set_option maxRecDepth 20000
variable {S:Type} {k:Nat}
abbrev Fd (k n:Nat):Prop:=4294967296+n≤k
theorem Fd.fu {n:Nat} (h:Fd k n):Fu k:=by omega
theorem Fd.pos {n:Nat} (h:Fd k n): ∃q,k=q+1∧ ∀j,j+1≤n→Fd q j:=⟨k-1,by omega,fun j hj=>by omega⟩
theorem Es (t:Tm):b8 t=max (ef t.kids) (fP t.sys)+1:=by cases t;rfl
theorem JT (t:Tm):bj t=1+bz t.kids+ct t.sys:=by cases t;rfl
theorem Mk {Q:Tm→Prop} (h: ∀t,(∀x∈t.kids,Q x)→(∀b∈t.sys,∀x∈b.kids,Q x)→Q t) (t:Tm):Q t:=zR (fun kd n nm r ks sys h1 h2=>h (.mk kd n nm r ks sys) h1 h2) t
section
variable {hd:Tm→Int→(Bool→Option S)→Option S} {c0:Int} {t:Tm} {Q:Tm→Bool}
end
section
variable {hd:Tm→Int→(Bool×Int→Option S)→Option S} {t:Tm}
end
section
variable {hd:Tm→Int→Int→Bool→(Bool→Option S)→Option S} {vars dims:Int} {bd:Bool} {t:Tm}
end
end Go.Proofs.YtfkkpkhfjpaafaaGreatDoor
namespace Go.Proofs.YtfkkpkhfjpaafaaGreatDoor
open Go PI
set_option linter.unusedVariables false
set_option linter.unusedSimpArgs false
set_option maxRecDepth 20000
variable {S:Type} {k:Nat}
theorem te: ∀ {l:List Tm},(∀x∈l,b8 x≤bj x)→ef l≤bz l:=by
 intro l
 induction l<;>grind [ef,bz]
theorem Er: ∀ {l:List (Br Tm)},(∀b∈l,∀x∈b.kids,b8 x≤bj x)→fP l≤ct l:=by
 intro l
 induction l<;>grind [fP,ct,Ep,yM,te]
theorem tf (t:Tm):b8 t≤bj t:=by
 induction t using Mk<;>grind [Es,JT,te,Er]
section
variable {hd:Tm→(Int→Option S)→Option S} {t:Tm}
end
section
variable {hd:Tm→(Int→Option S)→Option S} {t:Tm}
end
section
variable {hd:Tm→Int→Int→Bool→(Bool→Option S)→Option S} {vars dims:Int} {bd:Bool} {t:Tm}
end
section
variable {hd:Tm→Tm→(Bool→Option S)→Option S}
end
section
variable {hd:Tm→Int→(Int→Option S)→Option S} {t:Tm}
end
end Go.Proofs.YtfkkpkhfjpaafaaGreatDoor
namespace Go.Proofs.YtfkkpkhfjpaafaaGreatDoor
open Go PI
set_option linter.unusedVariables false
set_option linter.unusedSimpArgs false
variable {S:Type} {k:Nat}
mutual
def dw:Tm→Prop
 | .mk kd n nm r ks sys=>(RF r∧(kd=1→r=[])∧0≤kd)∧d3 ks∧g6 sys
def d3:List Tm→Prop
 |[]=>True
 |t::l=>dw t∧d3 l
def g6:List (Br Tm)→Prop
 |[]=>True
 |b::l=>lk b∧g6 l
def lk:Br Tm→Prop
 | .mk f ks=>RF f∧d3 ks
end
theorem Jw: ∀ {l:List Tm},d3 l↔ ∀t∈l,dw t:=by
 intro l
 induction l<;>grind [d3]
theorem Jv {b:Br Tm}:lk b↔RF b.face∧ ∀t∈b.kids,dw t:=by cases b;rw [lk,Jw]
theorem Jx: ∀ {l:List (Br Tm)},g6 l↔ ∀b∈l,RF b.face∧ ∀t∈b.kids,dw t:=by
 intro l
 induction l<;>grind [g6,Jv]
end Go.Proofs.YtfkkpkhfjpaafaaGreatDoor
namespace Go.Proofs.YtfkkpkhfjpaafaaGreatDoor
open Go PI
set_option linter.unusedVariables false
set_option linter.unusedSimpArgs false
variable {S:Type} {k:Nat}
inductive F2 {α β:Type} (R:α→β→Prop):List α→List β→Prop
 |nil:F2 R [] []
 |cons {a:α} {b:β} {l:List α} {m:List β}:R a b→F2 R l m→F2 R (a::l) (b::m)
theorem F2.len {α β:Type} {R:α→β→Prop} {l:List α} {m:List β} (h:F2 R l m):m.length=l.length:=by
 induction h<;>grind
theorem F2.imp {α β:Type} {R Q:α→β→Prop} {l:List α} {m:List β} (h:F2 R l m) (hq: ∀a b,R a b→Q a b):F2 Q l m:=by
 induction h<;>grind [nil,cons]
theorem HO {kd:Int} {n:Nat} (h:ci kd=n):0≤kd:=by
 grind [ci]
theorem DP {bd:Bool} (t:Tm): ∀ {vars dims:Int},OkT t→df bd vars dims t=true→dw t:=by
 induction t using zR with
 |h kd n nm r ks sys ih1 ih2=>
  intro vars dims hok h
  rw [df,Bool.and_eq_true,Bool.and_eq_true,Bool.and_eq_true] at h
  obtain ⟨_,a,b,c⟩:=h
  obtain ⟨o1,o2,o3,o4,o5,o6,o7⟩:=hok.node
  have hok':=hok
  rw [OkT] at hok'
  obtain ⟨_,ok,os⟩:=hok'
  have hkids: ∀ {l:List Tm} {i:Nat},(∀x∈l,∀ {vars dims:Int},OkT x→df bd vars dims x=true→dw x)→dZ l→g8 bd vars dims kd i l=true→d3 l:=by
   intro l
   induction l<;>grind [d3,g8,dZ]
  rw [DN,List.all_eq_true] at c
  unfold vT at a
  simp only [Bool.and_eq_true,decide_eq_true_eq] at a
  obtain ⟨⟨a1,a2,a3,a4⟩,a5⟩:=a
  have r0: ∀ {l:List Cl},l.length=0→RF l:=fun h=>by
   grind [Ju]
  rw [dw]
  have hfaces:(sys=[]∨sys.all (lY kd dims)=true)∧RF r∧(kd=1→r=[]):=by
   have nosys:oZ kd=0→sys=[]:=fun h=>List.length_eq_zero_iff.1 (a4 h)
   by_cases c1:kd=1
   ·rw [if_pos c1] at a5
    simp only [Bool.and_eq_true,decide_eq_true_eq] at a5
    exact ⟨.inl (nosys (by subst c1;decide)),r0 a5.1,fun _=>List.length_eq_zero_iff.1 a5.1⟩
   ·rw [if_neg c1] at a5
    by_cases c2:kd=2
    ·rw [if_pos c2] at a5
     simp only [Bool.and_eq_true,decide_eq_true_eq] at a5
     exact ⟨.inl (nosys (by subst c2;decide)),r0 a5.1,fun h=>absurd h c1⟩
    ·rw [if_neg c2] at a5
     by_cases c3:kd=13∨kd=21∨kd=26
     ·rw [if_pos c3,Bool.and_eq_true] at a5
      exact ⟨.inl (nosys (by rcases c3 with rfl|rfl|rfl<;>decide)),(pH o4).1 a5.1,fun h=>absurd h c1⟩
     ·rw [if_neg c3] at a5
      by_cases c4:kd=14
      ·rw [if_pos c4,Bool.and_eq_true] at a5
       unfold kg at a5
       rw [Bool.and_eq_true] at a5
       exact ⟨.inl (nosys (by subst c4;decide)),(pH o4).1 a5.1.1,fun h=>absurd h c1⟩
      grind
  refine ⟨⟨hfaces.2.1,hfaces.2.2,HO a1⟩,hkids (fun x hx=>ih1 x hx) ok b, ?_⟩
  rw [Jx]
  intro br hbr
  have hc:=c br hbr
  rw [List.all_eq_true] at hc
  have hob:=hok.br hbr
  refine ⟨?_,fun x hx=>ih2 br hbr x hx (hob.2 x hx) (hc x hx)⟩
  rcases hfaces.1 with h|h<;>grind [lY,kg,pH]
end Go.Proofs.YtfkkpkhfjpaafaaGreatDoor
namespace Go.Proofs.YtfkkpkhfjpaafaaGreatDoor
open Go PI
set_option linter.unusedVariables false
set_option linter.unusedSimpArgs false
variable {S:Type} {k:Nat}
abbrev p9:=Int→List Cl→Except Int (List Cl)
section
variable {fo fa:p9} {G:Int→List Cl→List Cl}
end
end Go.Proofs.YtfkkpkhfjpaafaaGreatDoor
namespace Go.Proofs.YtfkkpkhfjpaafaaGreatDoor
open Go PI
set_option linter.unusedVariables false
set_option linter.unusedSimpArgs false
set_option maxRecDepth 20000
variable {S:Type} {k:Nat}
def Ic:Tm:= .mk 0 0 ByteArray.empty [] [] []
def tE:Except Int Tm→Tm×Int
 | .ok t=>(t,0)
 | .error e=>(Ic,e)
section
variable {hd:Int→Int→Tm→Int→Int→(Pan Int Tm→Option S)→Option S} {vb db v d:Int} {t:Tm}
end
section
variable {hd:Tm→Int→Int→Int→Int→(Tm→Option S)→Option S} {vb db v d:Int} {t:Tm}
end
end Go.Proofs.YtfkkpkhfjpaafaaGreatDoor
namespace Go.Proofs.YtfkkpkhfjpaafaaGreatDoor
open Go PI
set_option linter.unusedVariables false
set_option linter.unusedSimpArgs false
set_option maxRecDepth 20000
variable {S:Type} {k:Nat}
theorem tR {t:Tm} (h:m_ t=0):b8 t≤200∧bj t≤20000∧df false (-1) 24 t=true:=by
 grind [m_]
def Fm (t:Tm):Prop:=OkT t∧m_ t=0
theorem Fm.ok {t:Tm} (h:Fm t):OkT t:=h.1
theorem Fm.rows {t:Tm} (h:Fm t):dw t:=DP t h.1 (tR h.2).2.2
theorem Fm.dep {t:Tm} (h:Fm t):b8 t≤200:=(tR h.2).1
abbrev F3 (k:Nat):Prop:=4294968296≤k
theorem F3.fu (h:F3 k):Fu k:=by omega
theorem F3.fd (h:F3 k) {n:Nat} (hn:n≤1000):Fd k n:=by omega
theorem Fm.fd {t:Tm} (h:Fm t) (hk:F3 k):Fd k (b8 t):=hk.fd (by have:=h.dep;omega)
end Go.Proofs.YtfkkpkhfjpaafaaGreatDoor
namespace Go.Proofs.YtfkkpkhfjpaafaaGreatDoor
open Go PI
set_option linter.unusedVariables false
set_option linter.unusedSimpArgs false
set_option maxRecDepth 20000
variable {S:Type} {k:Nat}
section
variable {i d:Int} {r f:List Cl}
end
end Go.Proofs.YtfkkpkhfjpaafaaGreatDoor
namespace Go.Proofs.YtfkkpkhfjpaafaaGreatDoor
open Go PI
set_option linter.unusedVariables false
set_option linter.unusedSimpArgs false
set_option maxRecDepth 20000
variable {S:Type} {k:Nat}
section
variable {fo fa:p9} (hfo: ∀d f e,fo d f= .error e→0<e∧e≤1000) (hfa: ∀d f e,fa d f= .error e→0<e∧e≤1000)
include hfo hfa
end
section
variable {hd:Tm→Int→Int→List Cl→(Tm×Int→Option S)→Option S} {i d:Int} {t:Tm} {r:List Cl}
end
section
variable {hd:Tm→Int→Int→(Tm×Int→Option S)→Option S} {i d:Int} {t:Tm}
end
end Go.Proofs.YtfkkpkhfjpaafaaGreatDoor
namespace Go.Proofs.YtfkkpkhfjpaafaaGreatDoor
open Go PI
set_option linter.unusedVariables false
set_option linter.unusedSimpArgs false
set_option maxRecDepth 20000
variable {S:Type} {k:Nat}
section
variable {hd:Tm→Int→List Cl→Int→Bool→(Tm→Option S)→Option S} {i d:Int} {r:List Cl} {t:Tm}
end
end Go.Proofs.YtfkkpkhfjpaafaaGreatDoor
namespace Go.Proofs.YtfkkpkhfjpaafaaGreatDoor
open Go PI
set_option linter.unusedVariables false
set_option linter.unusedSimpArgs false
set_option maxRecDepth 20000
variable {S:Type} {k:Nat}
def In (k:Nat) (t:Tm):Prop:=OkT t∧Fd k (b8 t)∧bj t<1099511627776
theorem In.dep {t:Tm} (h:In k t):b8 t<1099511627776:=by have:=tf t;have:=h.2.2;omega
section
variable {c:Int}
end
end Go.Proofs.YtfkkpkhfjpaafaaGreatDoor
namespace Go.Proofs.YtfkkpkhfjpaafaaGreatDoor
open Go PI
set_option linter.unusedVariables false
set_option linter.unusedSimpArgs false
set_option maxRecDepth 100000
variable {S:Type} {k:Nat}
def eY (kd:Int):Int:=if kd=6∨kd=9∨kd=10∨kd=13∨kd=18∨kd=15∨kd=14 then 0 else if kd=22 then 3 else if kd=27 then 4 else-1
def oR:List Int:=[(-1),(-1),(-1),(-1),(-1),(-1),0,(-1),(-1),0,0,(-1),(-1),0,0,0,(-1),(-1),0,(-1),(-1),(-1),3,(-1),(-1),(-1),(-1),4,(-1)]
theorem H4: ∀n:Fin 29,oR[n.val]? =some (eY (n.val:Int)):=by decide
theorem H3 {kd:Int} (h:0≤kd∧kd<29):ah oR kd=some (eY kd):=by
 obtain ⟨n,rfl⟩: ∃n:Nat,kd=n:=⟨kd.toNat,by omega⟩
 rw [tX]
 exact H4 ⟨n,by omega⟩
theorem vE {kd:Int} (h:kd<0∨kd>28):eY kd= -1:=by
 unfold eY
 rw [if_neg (by omega),if_neg (by omega),if_neg (by omega)]
def jy (t:Tm):Int:=if (t.kids.length:Int)<ci t.kind then-1 else eY t.kind
theorem JJ (hk:Fu k) (t:Tm) (ret:Int→Option S):fN k t ret=ret (jy t):=by
 have J: ∀v:Int,f7 k ret t k v=ret (if (t.kids.length:Int)<ci t.kind then-1 else v):=fun v=>by
  obtain ⟨q,hq⟩: ∃q,k=q+1:=⟨k-1,by have:4294967296≤k:=hk;omega⟩
  have: ∀j,j=q+1→f7 k ret t j v=ret (if (t.kids.length:Int)<ci t.kind then-1 else v):=by
   rintro j rfl
   simp only [f7,lH,l7 hk,JI,pQ]
   split<;>rfl
  exact this k hq
 simp only [fN,pU,J]
 unfold jy eY
 by_cases h1:t.kind=6
 ·simp [h1,bU]
 rw [beq_false_of_ne h1,cr]
 by_cases h2:t.kind=9
 ·simp [h2,bU]
 rw [beq_false_of_ne h2,cr]
 by_cases h3:t.kind=10
 ·simp [h3,bU]
 rw [beq_false_of_ne h3,cr]
 by_cases h4:t.kind=13
 ·simp [h4,bU]
 rw [beq_false_of_ne h4,cr]
 by_cases h5:t.kind=18
 ·simp [h5,bU]
 rw [beq_false_of_ne h5,cr]
 by_cases h6:t.kind=15
 ·simp [h6,bU]
 rw [beq_false_of_ne h6,cr]
 by_cases h7:t.kind=14
 ·simp [h7,bU]
 rw [beq_false_of_ne h7,cr,if_neg (show ¬ (t.kind=6∨t.kind=9∨t.kind=10∨t.kind=13∨t.kind=18∨t.kind=15∨t.kind=14) by omega)]
 by_cases h8:t.kind=22
 ·simp [h8,bU]
 rw [beq_false_of_ne h8,cr,if_neg h8]
 by_cases h9:t.kind=27
 ·simp [h9,bU]
 rw [beq_false_of_ne h9,cr,if_neg h9]
theorem JM (hk:Fu k) (t:Tm) (ret:Int→Option S):iE k t ret=ret (jy t):=by
 simp only [iE,zy,l7 hk,JL,pQ]
 unfold jy
 split
 ·rfl
 split
 ·rename_i h;rw [vE (.inl h)]
 split
 ·rename_i h;rw [vE (.inr h)]
 rw [rg _ (by omega)]
 have:=H3 (kd:=t.kind) (by omega)
 unfold oR at this
 rw [this];rfl
theorem Ms (q:Nat) (ret:Bool→Option S):iw (q+400) ret=ret true:=by kernel_rfl
theorem JN (hk:F3 k) (ret:Bool→Option S):iw k ret=ret true:=by
 have hk:4294968296≤k:=hk
 obtain ⟨q,rfl⟩: ∃q,k=q+400:=⟨k-400,by omega⟩
 exact Ms q ret
theorem JK (hk:F3 k) {t:Tm} (ht:In k t) (ret:Bool→Option S):mq k t ret=ret true:=by
 simp only [mq,zo,l7 hk.fu,Gv,JJ hk.fu,JM hk.fu,beq_self_eq_true,bU,JN hk]
end Go.Proofs.YtfkkpkhfjpaafaaGreatDoor
namespace Go.Proofs.YtfkkpkhfjpaafaaGreatDoor
open Go PI Go.ChangeShapes Go.WideShapes Go.ChangeAt Go.RowKit
set_option linter.unusedVariables false
set_option linter.unusedSimpArgs false
set_option maxRecDepth 100000
set_option maxHeartbeats 4000000
theorem GT {k:Nat} (hk:4296016872≤k) {H:Type} {t:Tm} {d:DataW H} (h:QT t d) (hb:Rows.uptoBulk d≤1048576):In k t:=by
 have h1:=h.1
 have h2:=tf t
 exact ⟨h.2 (by omega),by unfold Fd;omega,by omega⟩
theorem HT {k:Nat} (hk:4296016872≤k) {o:Obj} (ho:ad o) {t0:Tm} (h0:In k t0):
  aE (LL o) 5 [.agg (a8 ET.T t0)] [] (.ret (.bool true) []):=by
 have hF:F3 k:=by unfold F3;omega
 obtain ⟨j,rfl⟩: ∃j,k=j+1:=⟨k-1,by omega⟩
 obtain ⟨out,hout,hx⟩:=Mh (S:=Out UU) o ho (j+1) [.agg (a8 ET.T t0)] [] some (.ret (.bool true) []) (by
  cases t0
  exact Eq.trans (by kernel_rfl) (JK hF h0 fun r=>some (Out.ret (U:=UU) (.bool r) [])))
 injection hx with hx
 exact hx▸hout
theorem HS (H:Type) (enc:TypeId×Value→H) (W:World) (base:Nat) (args:Array Value) (ds gs:List (DataW H)) (before:List MemPlace)
  (hval: ∀ (j:Nat) t v,Tryz.f5.params[j]? =some t→args[j]? =some v→Value.okWide Tryz.prog W .any base t v)
  (hW:DataW.Whole enc Tryz.prog Tryz.f5.params.toList Rows.stepMainsSpec.vars false W args.toList ds gs before) (hL:laidMetH Tryz.prog Rows.stepMainsRow.laid W) (hb:Rows.uptoBulkAll (ds++gs)≤1048576):
  Calls Tryz.prog 5 args W fun e W'=> ∃v,e= .returned v∧Rows.stepMainsSpec.post enc Tryz.prog Tryz.f5 false true false false W args v W':=by
 have hW':=hW
 obtain ⟨p,q,hA0,hV,rfl,hfz,hnd⟩:=hW
 have hA:DataW.TrodAll enc Tryz.prog W 0 (fun _=>true) true Tryz.f5.params.toList args.toList ds p:=hA0
 rw [Tryz.params5] at hA hval
 obtain ⟨v0,vs0,d0,ds0,p0,q0,hargs,rfl,rfl,h0,r0⟩:=trodAll_cons hA
 obtain ⟨rfl,rfl,rfl⟩:=trodAll_nil r0
 obtain rfl:args= #[v0]:=by cases args;simp_all
 obtain ⟨rfl,rfl⟩:=trodVars_none hV
 obtain ⟨o,ho,hh⟩:=Me hL
 simp only [List.append_nil,Rows.uptoBulkAll,Nat.add_zero] at hb
 obtain ⟨t0,e0,k0⟩:=DU (o:=o) (g:=gB UU 0 fun _=>0) Ib h0
 have hk:(4296016872:Nat)≤4296016872:=Nat.le_refl _
 generalize hkk:(4296016872:Nat)=k at hk
 have hok:=HT (k:=k) (by omega) ho (GT (by omega) k0 (by omega))
 refine (Ec hok (GO hh rfl rfl fun j p hj=> ?_)).mono ?_
 ·match j,hj with
  |0,hj=>cases hj;exact e0
  |j+1,hj=>simp at hj
 ·rintro e W' ⟨rfl,hkept⟩
  refine ⟨_,rfl,IP rfl rfl (fun t ht=> ?_) rfl hW' hkept⟩
  rw [Tryz.params5] at ht
  have ht':t=26:=by simpa using ht
  rcases ht' with rfl<;>exact of_decide_eq_true (by kernel_rfl)
noncomputable def ox (os:Os):World:=
 {World.holding Tryz.prog os ⟨#[],#[],[]⟩ with heap:=(World.holding Tryz.prog os ⟨#[],#[],[]⟩).heap.modify 0 fun
   | .cells _ t frozen=> .cells (Lib.deBruijn32tab.map fun n:Nat=>Value.int .u8 n).toArray t frozen
   |o=>o}
def MG:Value:= .agg #[.int .i64 0,.int .i64 0,.string ByteArray.empty,.slice none 0 0,.slice none 0 0,.slice none 0 0]
def zeroArgs:Array Value:= #[MG]
def ME {H:Type}:DataW H:= .agg [.lit (.int .i64 0),.lit (.int .i64 0),.lit (.string []),.nil,.nil,.nil]
theorem HP (os:Os):laidMet Tryz.prog Rows.stepMainsRow.laid ((ox os).forCall (fun _ _=>0) ⟨#[],zeroArgs,[]⟩).memory:=
 laidMet_of_run' 8 (by kernel_rfl) (by kernel_rfl)
theorem Jl (os:Os) {H:Type} (enc:TypeId×Value→H): ∃places,DataW.whole enc Tryz.prog ((ox os).forCall (fun _ _=>0) ⟨#[],zeroArgs,[]⟩).memory Tryz.f5.params.toList Rows.stepMainsSpec.vars false zeroArgs.toList 8=some ([ME],[],places):=
 ⟨[],by kernel_rfl⟩
theorem HW (os:Os) (started:os.Started) (H:Type) (enc:TypeId×Value→H) (F:Stop.Interp):
  ReturnsInHanded {} Tryz.checked os 5 .any ((Rows.OpenSpec.upto Rows.stepMainsSpec).preRow enc Tryz.prog Tryz.f5 Rows.stepMainsUptoRow.domain false Rows.stepMainsUptoRow.laid) (((Rows.OpenSpec.upto Rows.stepMainsSpec).at F).post enc Tryz.prog Tryz.f5 false true false false):=by
 obtain ⟨places,hx⟩:=Jl os enc
 refine returnsInHanded_of_row (C:=Tryz.checked) (s:=Rows.OpenSpec.upto Rows.stepMainsSpec) own started (by kernel_rfl) Tryz.func5
  (witness_row_at (enc:=enc) (C:=Tryz.checked) false (ox os) zeroArgs rfl (by kernel_rfl) (by kernel_rfl) (by kernel_rfl)
   (OpenSpec.preRow_of_cond 8 hx (by kernel_rfl) (fun k hk=>by cases hk;kernel_rfl) (by kernel_rfl) (HP os))) ?_
 intro W base args ds gs before hval hW _ hcond _ hL _ _
 exact HS H enc W base args ds gs before hval hW hL (of_decide_eq_true (hcond _ rfl))
theorem JO:Rows.StepMainsUptoSaid:=
 OpenClaim.holds_of_cond 5 Tryz.f5 rfl rfl rfl rfl rfl rfl rfl ⟨rfl,rfl,rfl,rfl,rfl⟩ rfl rfl rfl rfl rfl (by as_aux_lemma=>kernel_rfl) Tryz.func5 G2
  (of_decide_eq_true (by as_aux_lemma=>kernel_rfl)) (by unfold Func.isWrapper;first|(rw [if_pos (by decide+kernel)];kernel_rfl)|(rw [if_neg (by decide+kernel)];exact ⟨rfl,rfl⟩))
  (fun os started H enc _ F=>by rw [OpenClaim.pre_eq_preRow];exact HW os started H enc F)
theorem plain (f:FuncId) (fn:Func) (hf:Tryz.pinned.checked.prog.funcNamed "hypercube/hypercubelaw21.StepMains" =some f) (hfn:Tryz.pinned.checked.prog.funcs[f]? =some fn):
  true=Tryz.pinned.checked.prog.looks []∧ ∀ (j:Nat) t,fn.params[j]? =some t→Tryz.pinned.checked.prog.wantsStandIn t=false:=by
 obtain rfl:f=5:=Option.some.inj ((show Tryz.prog.funcNamed "hypercube/hypercubelaw21.StepMains" =some 5 by kernel_rfl).symm.trans hf)|>.symm
 obtain rfl:fn=Tryz.f5:=(Option.some.inj (Tryz.func5.symm.trans hfn)).symm
 refine ⟨by kernel_rfl,fun j t ht=> ?_⟩
 rw [Tryz.params5] at ht
 have ht':t=26:=by simpa using Array.mem_of_getElem? ht
 rcases ht' with rfl
 ·exact (show Tryz.prog.wantsStandIn 26=false by kernel_rfl)
theorem stepMains_holds:Rows.StepMainsUptoCardSaid:=
 Claim7.holds_tied_plain_at .later [] _ _ _ _ JO (fun _ h=>by cases h) (by as_aux_lemma=>kernel_rfl) (fun _ h=>by cases h) stepMainsUpto_row_tie rfl ⟨rfl,rfl⟩ (by as_aux_lemma=>kernel_rfl) rfl plain (by as_aux_lemma=>kernel_rfl)
#print axioms stepMains_holds
end Go.Proofs.YtfkkpkhfjpaafaaGreatDoor
