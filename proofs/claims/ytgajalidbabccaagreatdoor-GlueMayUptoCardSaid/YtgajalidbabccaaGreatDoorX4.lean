/- Part 4 of a proof: the sources, with their names and remarks, lie in wip/. -/
import Derived.Test.YtgajalidbabccaaGreatDoorX3
open Bool renaming and_eq_true→af,not_false→ef,not_true→dL
open ByteArray renaming empty→aw
open Eq renaming trans→aq
open Go.IntKind renaming wrap→aj
open Int renaming add_zero→eb,le_refl→f_,toNat_natCast→gQ
open List renaming all_cons→fq,all_eq_true→dU,nil_append→eF
open Option renaming bind_some→bD
set_option linter.unusedVariables false
set_option linter.unusedSimpArgs false
namespace Go.Proofs.YtgajalidbabccaaGreatDoor
open Go PI _root_.Go.Proofs.Tryz
set_option maxRecDepth 100000
noncomputable section
variable {S:Type} {o:Obj} (k:Nat)
def FI (hd:lj S):Rw S:=ah EE xn fun t most Z=>hd t most (dt Z)
def pu (hd:lj S) (k:Nat):Fx S:=fp 119 [(9,FI hd)] [(5,dJ [1,2,5,6] [(2,6)],bG 6 23),(9,dJ [1,2,5,7] [(2,6)],bG 7 47),(15,dJ [1,2,5,7,8] [(2,6)],bG 15 14639)] k f9 0
def Fa (t:Tm) (most:Int) (v5 i6:Int):St UU:=⟨[(1,(iI most)),(2,(pt 2)),(5,(iI v5)),(6,(iI i6))],[(2,bT t)],[],[]⟩
def vV (t:Tm) (most:Int) (v5' i7:Int):St UU:=⟨[(1,(iI most)),(2,(pt 2)),(5,(iI v5')),(7,(iI i7))],[(2,bT t)],[],[]⟩
def KK (t:Tm) (most i7:Int) (v5'' v8:Int):St UU:=⟨[(1,(iI most)),(2,(pt 2)),(5,(iI v5'')),(7,(iI i7)),(8,(iI v8))],[(2,bT t)],[],[]⟩
section
variable (hd:lj S) (k:Nat) (t:Tm) (most:Int) (Z:Out UU->Option S)
theorem S9 (i7 Z1): ∀n v5'' v8,(pu hd k).lp Z 15 [Z1] n (KK t most i7 v5'' v8)=nz hd k (dt Z) (fun v5' i7=>Z1 (vV t most v5' i7)) t most i7 n v5'' v8:=dQ (yi hd k (dt Z) t most i7 (fun v5' i7=>Z1 (vV t most v5' i7)))
theorem S8: ∀n v5' i7,(pu hd k).lp Z 9 [] n (vV t most v5' i7)=mu hd k (dt Z) t most n v5' i7:=dQ (fun own=>uB hd k (dt Z) t most (fun i7 v5'' v8=>nz hd k (dt Z) own t most i7 k v5'' v8) own) rfl (fun _=>rfl) fun r v5' i7=>aq (b:=uB hd k (dt Z) t most (fun i7 v5'' v8=>(pu hd k).lp Z 15 [r] k (KK t most i7 v5'' v8)) (fun v5' i7=>r (vV t most v5' i7)) v5' i7) (by kernel_rfl) (by simp only [S9])
theorem S7: ∀n v5 i6,(pu hd k).lp Z 5 [] n (Fa t most v5 i6)=qj hd k (dt Z) t most n v5 i6:=dQ (fun own=>uA hd k (dt Z) t most (fun v5' i7=>mu hd k (dt Z) t most k v5' i7) own) rfl (fun _=>rfl) fun r v5 i6=>aq (b:=uA hd k (dt Z) t most (fun v5' i7=>(pu hd k).lp Z 9 [] k (vV t most v5' i7)) (fun v5 i6=>r (Fa t most v5 i6)) v5 i6) (by kernel_rfl) (by simp only [S8])
end
theorem JQ (o:Obj) (ho:ai o): ∀k:Nat,Tl o 9 (FI (kO k:lj S))
 |0=>mJ fun t most Z x h=>by cases h
 |k+1=>al (pu (kO k) k) ⟨JQ o ho k,trivial⟩ func9 fun t most Z x h=>aq (b:=Hu (kO k) k (dt Z) (fun v5 i6=>(pu (kO k) k).lp Z 5 [] k (Fa t most v5 i6)) t most) (by kernel_rfl) (aq (by simp only [S7];rfl) h)
def qJ:Rw S:=ah Zi xn fun kind kid Z=>aa k (nd k kind kid) (qX2 Z)
def RH:Fx S:=fp 26 [] [] k f49 0
theorem rT (ho:ai o):Tl o 49 (qJ k:Rw S):=al (RH k) trivial func49 fun kind kid Z x h=>aA h
def wD (hd:fY S):Rw S:=ah EE xn fun t left Z=>hd t left (bN Z)
def NM (hd:fY S) (k:Nat):Rw S:=ah Kc eo fun a_k p p' c0 Z=>aa k (vj hd k a_k p p' c0) (iY c0 Z)
def R6 (hd:fY S) (k:Nat):Fx S:=fp 12 [(113,wD hd)] [] k f198 1
theorem Xa (o:Obj) (ho:ai o) (hd:fY S) (Hd:Tl o 113 (wD hd)) (k:Nat):Tl o 198 (NM hd k:Rw S):=al (R6 hd k) ⟨Hd,trivial⟩ func198 fun a_k p p' c0 Z x h=>aA h
def NR (hd:fY S) (k:Nat):Rw S:=ah Zx eo fun t c0 Z=>aa k (DU hd k t c0) (iY c0 Z)
def pz (hd:fY S) (k:Nat):Fx S:=fp 60 [(49,qJ k),(198,NM hd k)] [(2,dJ [1,2,15,16,17] [(2,6),(1000000,1)],bG 4 5),(12,dJ [1,9,40,41,42] [(1000000,1)],bG 7 47),(15,dJ [1,9,40,41,42,47,48,49] [(1000000,1)],bG 15 13103)] k f116 1
def Fg (c0:Int) (t:Tm) (v17:Int):St UU:=⟨[(1,(.func 198 [] [(pt 1000000)])),(2,(pt 2)),(15,(sT t.kids)),(16,(iI t.kids.length)),(17,(iI v17))],[(2,bT t),(1000000,bI c0)],[],[]⟩
def v6 (c0:Int) (t:Tm) (v42 more9:Int):St UU:=⟨[(1,(.func 198 [] [(pt 1000000)])),(9,(iI more9)),(40,(sB t.sys)),(41,(iI t.sys.length)),(42,(iI v42))],[(1000000,bI c0)],[],[]⟩
def Lu (c0:Int) (t:Tm) (v42:Int) (x4:(Br Tm)) (more9:Int) (v49:Int):St UU:=⟨[(1,(.func 198 [] [(pt 1000000)])),(9,(iI more9)),(40,(sB t.sys)),(41,(iI t.sys.length)),(42,(iI v42)),(47,(sT x4.kids)),(48,(iI x4.kids.length)),(49,(iI v49))],[(1000000,bI c0)],[],[]⟩
section
variable (hd:fY S) (k:Nat) (t:Tm) (c0:Int) (Z:Out UU->Option S)
theorem T5 (v42 x4 more9 Z1): ∀n v49,(pz hd k).lp Z 15 [Z1] n (Lu c0 t v42 x4 more9 v49)=qm hd k (iY c0 Z) (fun v42 more9=>Z1 (v6 c0 t v42 more9)) c0 t v42 x4 more9 n v49:=iA (yu hd k (iY c0 Z) c0 t v42 x4 more9 (fun v42 more9=>Z1 (v6 c0 t v42 more9)))
theorem T4: ∀n v42 more9,(pz hd k).lp Z 12 [] n (v6 c0 t v42 more9)=mw hd k (iY c0 Z) c0 t n v42 more9:=dQ (fun own=>uH hd k (iY c0 Z) c0 t (fun v42 x4 more9 v49=>qm hd k (iY c0 Z) own c0 t v42 x4 more9 k v49) own) rfl (fun _=>rfl) fun r v42 more9=>aq (b:=uH hd k (iY c0 Z) c0 t (fun v42 x4 more9 v49=>(pz hd k).lp Z 15 [r] k (Lu c0 t v42 x4 more9 v49)) (fun v42 more9=>r (v6 c0 t v42 more9)) v42 more9) (by kernel_rfl) (by simp only [T5])
theorem T3: ∀n v17,(pz hd k).lp Z 2 [] n (Fg c0 t v17)=td hd k (iY c0 Z) c0 t n v17:=iA (fun own=>uG hd k (iY c0 Z) c0 t (fun v42 more9=>mw hd k (iY c0 Z) c0 t k v42 more9) own) rfl (fun _=>rfl) fun r v17=>aq (b:=uG hd k (iY c0 Z) c0 t (fun v42 more9=>(pz hd k).lp Z 12 [] k (v6 c0 t v42 more9)) (fun v17=>r (Fg c0 t v17)) v17) (by kernel_rfl) (by simp only [T4])
end
theorem Xg (o:Obj) (ho:ai o) (hd:fY S) (Hd:Tl o 113 (wD hd)) (k:Nat):Tl o 116 (NR hd k:Rw S):=al (pz hd k) ⟨rT k ho,Xa o ho hd Hd k,trivial⟩ func116 fun t c0 Z x h=>aq (b:=HE hd k (iY c0 Z) (fun v17=>(pz hd k).lp Z 2 [] k (Fg c0 t v17)) t c0) (by kernel_rfl) (aq (by simp only [T3];rfl) (dq h))
def RV (hd:fY S) (k:Nat):Fx S:=fp 12 [(116,NR hd k)] [] k f113 0
theorem JR (o:Obj) (ho:ai o): ∀k:Nat,Tl o 113 (wD (mj k:fY S))
 |0=>mJ fun t left Z x h=>by cases h
 |k+1=>al (RV (mj k) k) ⟨Xg o ho (mj k) (JR o ho k) k,trivial⟩ func113 fun t left Z x h=>aq (by kernel_rfl) h
def BD (hd:gP S):Rw S:=ah ZE QA fun t c1 Z=>hd t c1 (kz Z)
def F6 (hd:gP S) (k:Nat):Rw S:=ah Kq xX9 fun t c0 Z=>aa k (rQ hd k t c0) (qX6 Z)
def Su (hd:gP S) (k:Nat):Fx S:=fp 14 [(116,BD hd)] [] k f199 2
theorem Je (o:Obj) (ho:ai o) (hd:gP S) (Hd:Tl o 116 (BD hd)) (k:Nat):Tl o 199 (F6 hd k:Rw S):=al (Su hd k) ⟨Hd,trivial⟩ func199 fun t c0 Z x h=>aA h
def N_ (hd:gP S) (k:Nat):Rw S:=ah Kc QA fun a_k p p' c1 Z=>aa k (vl hd k a_k p p' c1) (kz Z)
def SF (hd:gP S) (k:Nat):Fx S:=fp 11 [(199,F6 hd k)] [] k f200 2
theorem Xw (o:Obj) (ho:ai o) (hd:gP S) (Hd:Tl o 116 (BD hd)) (k:Nat):Tl o 200 (N_ hd k:Rw S):=al (SF hd k) ⟨Je o ho hd Hd k,trivial⟩ func200 fun a_k p p' c1 Z x h=>aA h
def pA (hd:gP S) (k:Nat):Fx S:=fp 60 [(49,qJ k),(200,N_ hd k)] [(2,dJ [1,2,15,16,17] [(2,6),(1000000,1),(1000001,1)],bG 4 5),(12,dJ [1,9,40,41,42] [(1000000,1),(1000001,1)],bG 7 47),(15,dJ [1,9,40,41,42,47,48,49] [(1000000,1),(1000001,1)],bG 15 13103)] k f116 2
def Fh (t:Tm) (dp v17:Int):St UU:=⟨[(1,(.func 200 [] [(pt 1000000)])),(2,(pt 2)),(15,(sT t.kids)),(16,(iI t.kids.length)),(17,(iI v17))],[(2,bT t),(1000000,.cells [(.func 199 [] [(pt 1000001),(pt 1000000)])]),(1000001,bI dp)],[],[]⟩
def v_ (t:Tm) (e1_0' v42 more9:Int):St UU:=⟨[(1,(.func 200 [] [(pt 1000000)])),(9,(iI more9)),(40,(sB t.sys)),(41,(iI t.sys.length)),(42,(iI v42))],[(1000000,.cells [(.func 199 [] [(pt 1000001),(pt 1000000)])]),(1000001,bI e1_0')],[],[]⟩
def Lx (t:Tm) (v42:Int) (x4:(Br Tm)) (more9:Int) (e1_0'' v49:Int):St UU:=⟨[(1,(.func 200 [] [(pt 1000000)])),(9,(iI more9)),(40,(sB t.sys)),(41,(iI t.sys.length)),(42,(iI v42)),(47,(sT x4.kids)),(48,(iI x4.kids.length)),(49,(iI v49))],[(1000000,.cells [(.func 199 [] [(pt 1000001),(pt 1000000)])]),(1000001,bI e1_0'')],[],[]⟩
section
variable (hd:gP S) (k:Nat) (t:Tm) (c1:Int) (Z:Out UU->Option S)
theorem T_ (v42 x4 more9 Z1): ∀n e1_0'' v49,(pA hd k).lp Z 15 [Z1] n (Lx t v42 x4 more9 e1_0'' v49)=nA hd k (kz Z) (fun e1_0' v42 more9=>Z1 (v_ t e1_0' v42 more9)) t v42 x4 more9 n e1_0'' v49:=dQ (yq hd k (kz Z) t v42 x4 more9 (fun e1_0' v42 more9=>Z1 (v_ t e1_0' v42 more9)))
theorem T9: ∀n e1_0' v42 more9,(pA hd k).lp Z 12 [] n (v_ t e1_0' v42 more9)=lH hd k (kz Z) t n e1_0' v42 more9:=ko (fun own=>uD hd k (kz Z) t (fun v42 x4 more9 e1_0'' v49=>nA hd k (kz Z) own t v42 x4 more9 k e1_0'' v49) own) rfl (fun _=>rfl) fun r e1_0' v42 more9=>aq (b:=uD hd k (kz Z) t (fun v42 x4 more9 e1_0'' v49=>(pA hd k).lp Z 15 [r] k (Lx t v42 x4 more9 e1_0'' v49)) (fun e1_0' v42 more9=>r (v_ t e1_0' v42 more9)) e1_0' v42 more9) (by kernel_rfl) (by simp only [T_])
theorem T8: ∀n dp v17,(pA hd k).lp Z 2 [] n (Fh t dp v17)=qk hd k (kz Z) t n dp v17:=dQ (fun own=>uC hd k (kz Z) t (fun e1_0' v42 more9=>lH hd k (kz Z) t k e1_0' v42 more9) own) rfl (fun _=>rfl) fun r dp v17=>aq (b:=uC hd k (kz Z) t (fun e1_0' v42 more9=>(pA hd k).lp Z 12 [] k (v_ t e1_0' v42 more9)) (fun dp v17=>r (Fh t dp v17)) dp v17) (by kernel_rfl) (by simp only [T9])
end
theorem JT (o:Obj) (ho:ai o): ∀k:Nat,Tl o 116 (BD (jE k:gP S))
 |0=>mJ fun t c1 Z x h=>by cases h
 |k+1=>al (pA (jE k) k) ⟨rT k ho,Xw o ho (jE k) (JT o ho k) k,trivial⟩ func116 fun t c1 Z x h=>aq (b:=HC (jE k) k (kz Z) (fun dp v17=>(pA (jE k) k).lp Z 2 [] k (Fh t dp v17)) t c1) (by kernel_rfl) (aq (by simp only [T8];rfl) h)
def Oh:Rw S:=ah EE xn fun t most Z=>aa k (zN k t most) (bN Z)
def SL:Fx S:=fp 10 [(199,F6 (jE k) k)] [] k f114 0
theorem XD (ho:ai o):Tl o 114 (Oh k:Rw S):=al (SL k) ⟨Je o ho (jE k) (JT o ho k) k,trivial⟩ func114 fun t most Z x h=>aA h
def FJ:Rw S:=ah np xn fun t Z=>aa k (vk k t) (dt Z)
def QI:Fx S:=fp 11 [(113,wD (mj k)),(114,Oh k)] [] k f50 0
theorem IX (ho:ai o):Tl o 50 (FJ k:Rw S):=al (QI k) ⟨JR o ho k,XD k ho,trivial⟩ func50 fun t Z x h=>aA h
def MH:Rw S:=ah nq xn fun kind Z=>aa k (zK k kind) (dt Z)
def QQ:Fx S:=fp 38 [] [] k f201 0
theorem VZ (ho:ai o):Tl o 201 (MH k:Rw S):=al (QQ k) trivial func201 fun kind Z x h=>aA h
def ML:Rw S:=ah nq xn fun kind Z=>aa k (n7 k kind) (dt Z)
def QY:Fx S:=fp 10 [] [] k f202 0
theorem V3 (ho:ai o):Tl o 202 (ML k:Rw S):=al (QY k) trivial func202 fun kind Z x h=>aA h
def MN:Rw S:=ah Zb xn fun s Z=>aa k (zM k s) (bN Z)
def uc:Fx S:=fp 49 [] [(2,dJ [0,7,8] [],bG 4 5),(1000006,dJ [0,3,4,5,7,8] [],bG 12 3685)] k f203 0
def vW (s:ByteArray) (v8:Int):St UU:=⟨[(0,(.str s)),(7,(.int .i64 (s.size:Int))),(8,(iI v8))],[],[],[]⟩
def KS (s:ByteArray) (v8:Int) (x1:UInt8) (letter5:Bool):St UU:=⟨[(0,(.str s)),(3,(iI v8)),(4,(.int .u8 (x1.toNat:Int))),(5,(.bool letter5)),(7,(.int .i64 (s.size:Int))),(8,(iI v8))],[],[],[]⟩
section
variable (k:Nat) (s:ByteArray) (Z:Out UU->Option S)
theorem Th (v8 x1 Z0): ∀n letter5,(uc k).jn Z 1000006 [Z0] n (KS s v8 x1 letter5)=AC k (bN Z) (fun v8=>Z0 (vW s v8)) s v8 x1 n letter5:=JY (C5 k (bN Z) s v8 x1 (fun v8=>Z0 (vW s v8)))
theorem Tg: ∀n v8,(uc k).lp Z 2 [] n (vW s v8)=qn k (bN Z) s n v8:=iA (fun own=>uI k (bN Z) s (fun v8 x1 letter5=>AC k (bN Z) own s v8 x1 k letter5) own) rfl (fun _=>rfl) fun r v8=>aq (b:=uI k (bN Z) s (fun v8 x1 letter5=>(uc k).jn Z 1000006 [r] k (KS s v8 x1 letter5)) (fun v8=>r (vW s v8)) v8) (by kernel_rfl) (by simp only [Th])
end
theorem V5 (ho:ai o):Tl o 203 (MN k:Rw S):=al (uc k) trivial func203 fun s Z x h=>aq (b:=HF k (bN Z) (fun v8=>(uc k).lp Z 2 [] k (vW s v8)) s) (by kernel_rfl) (aq (by simp only [Tg];rfl) (dq h))
def MO:Rw S:=ah EH xn fun s Z=>aa k (rM k s) (bN Z)
def Q3:Fx S:=fp 6 [] [] k f276 0
theorem V6 (ho:ai o):Tl o 276 (MO k:Rw S):=al (Q3 k) trivial func276 fun s Z x h=>aA h
def FP:Rw S:=ah Ay xn fun c Z=>aa k (uR k c) (bN Z)
def Q7:Fx S:=fp 11 [(276,MO k)] [] k f224 0
theorem I2 (ho:ai o):Tl o 224 (FP k:Rw S):=al (Q7 k) ⟨V6 k ho,trivial⟩ func224 fun c Z x h=>aA h
def Bu:Rw S:=ah J9 xn fun a b Z=>aa k (rA k a b) (qX7 Z)
def Re:Fx S:=fp 16 [] [] k f278 0
theorem D4 (ho:ai o):Tl o 278 (Bu k:Rw S):=al (Re k) trivial func278 fun a b Z x h=>aA h
def M4:Rw S:=ah J9 xn fun a b Z=>aa k (yS k a b) (bN Z)
def Rn:Fx S:=fp 10 [(278,Bu k)] [] k f229 0
theorem Wn (ho:ai o):Tl o 229 (M4 k:Rw S):=al (Rn k) ⟨D4 k ho,trivial⟩ func229 fun a b Z x h=>aA h
def Nc:Rw S:=ah Az xe fun d c0 Z=>aa k (yU k d c0) (My c0 Z)
def Ry:Fx S:=fp 12 [(229,M4 k)] [] k f228 1
theorem Wx (ho:ai o):Tl o 228 (Nc k:Rw S):=al (Ry k) ⟨Wn k ho,trivial⟩ func228 fun d c0 Z x h=>aA h
def Nm:Rw S:=ah J_ xe fun s c0 Z=>aa k (DS k s c0) (Bn c0 Z)
def Cy:Fx S:=fp 19 [(228,Nc k)] [(2,dJ [0,1,7,8] [(1000000,2)],bG 4 5)] k f277 1
def K6 (c0:Cl) (s:List Cl) (v8:Int):St UU:=⟨[(0,(sC s)),(1,(.func 228 [] [(pt 1000000)])),(7,(iI s.length)),(8,(iI v8))],[(1000000,bC c0)],[],[]⟩
section
variable (k:Nat) (s:List Cl) (c0:Cl) (Z:Out UU->Option S)
theorem Tv: ∀n v8,(Cy k).lp Z 2 [] n (K6 c0 s v8)=s_ k (Bn c0 Z) c0 s n v8:=iA (ym k (Bn c0 Z) c0 s)
end
theorem WI (ho:ai o):Tl o 277 (Nm k:Rw S):=al (Cy k) ⟨Wx k ho,trivial⟩ func277 fun s c0 Z x h=>aq (b:=Hy k (Bn c0 Z) (fun v8=>(Cy k).lp Z 2 [] k (K6 c0 s v8)) s c0) (by kernel_rfl) (aq (by simp only [Tv];rfl) (dq h))
def Np:Rw S:=ah J_ xe fun s c0 Z=>aa k (DQ k s c0) (My c0 Z)
def RI:Fx S:=fp 9 [(277,Nm k)] [] k f227 1
theorem WK (ho:ai o):Tl o 227 (Np k:Rw S):=al (RI k) ⟨WI k ho,trivial⟩ func227 fun s c0 Z x h=>aA h
def Nq:Rw S:=ah Az aho fun c c0 Z=>aa k (yT k c c0) (acZ c0 Z)
def RJ:Fx S:=fp 7 [(227,Np k)] [] k f226 1
theorem WL (ho:ai o):Tl o 226 (Nq k:Rw S):=al (RJ k) ⟨WK k ho,trivial⟩ func226 fun c c0 Z x h=>aA h
def lU:Rw S:=ah nr xn fun l Z=>aa k (j9 k l) (cK Z)
def ue:Fx S:=fx 55 (fun _=>[]) (fun|53=>true|_=>false) [(224,FP k),(226,Nq k)] [(4,⟨[(4,ab),(5,ab),(13,ab),(14,ab),(15,ab)],[(5,[bA 200320]),(12,[])]⟩,bG 6 23),(15,⟨[(8,ab),(9,bA 100009),(34,ab),(35,ab),(36,ab)],[(5,[ab])]⟩,bG 9 191)] k f146 false [] 0
def Fb (l:List Cl) (hJ:List (Cl×Bool)) (b5_0:List Cl) (v15:Int):St UU:=⟨[(4,(.mp 12)),(5,(pt 5)),(13,(sC l)),(14,(iI l.length)),(15,(iI v15))],[(5,.cells [(.own 200320 0)]),(12,.map ET.C hJ)],[(200320,⟨0,ET.C,b5_0⟩)],[(200320,.wr)]⟩
def K7 (b5_0:List Cl) (v36:Int) (kept9:List Cl):St UU:=⟨[(8,(.func 226 [] [(pt 5)])),(9,(.own 100009 0)),(34,(sC b5_0)),(35,(iI b5_0.length)),(36,(iI v36))],[(5,.cells [(sC b5_0)])],[(100009,⟨0,ET.C,kept9⟩)],[(100009,.wr)]⟩
section
variable (k:Nat) (l:List Cl) (Z:Out UU->Option S)
theorem Tx (b5_0): ∀n v36 kept9,(ue k).lp Z 15 [] n (K7 b5_0 v36 kept9)=p9 k (cK Z) b5_0 n v36 kept9:=dQ (xw k (cK Z) b5_0)
theorem Tw: ∀n hJ b5_0 v15,(ue k).lp Z 4 [] n (Fb l hJ b5_0 v15)=sr k (cK Z) l n hJ b5_0 v15:=ko (fun own=>uo k (cK Z) l (fun b5_0 v36 kept9=>p9 k (cK Z) b5_0 k v36 kept9) own) rfl (fun _=>rfl) fun r hJ b5_0 v15=>aq (b:=uo k (cK Z) l (fun b5_0 v36 kept9=>(ue k).lp Z 15 [] k (K7 b5_0 v36 kept9)) (fun hJ b5_0 v15=>r (Fb l hJ b5_0 v15)) hJ b5_0 v15) (by kernel_rfl) (by simp only [Tx])
end
theorem mn (ho:ai o):Tl o 146 (lU k:Rw S):=al (ue k) ⟨I2 k ho,WL k ho,trivial⟩ func146 fun l Z x h=>aq (b:=GW k (cK Z) (fun hJ b5_0 v15=>(ue k).lp Z 4 [] k (Fb l hJ b5_0 v15)) l) (by kernel_rfl) (aq (by simp only [Tw];rfl) (dq h))
def Nr:Rw S:=ah p8 xn fun s1 s2 Z=>aa k (zJ k s1 s2) (bN Z)
def CC:Fx S:=fp 26 [] [(4,dJ [0,1,12,13] [],bG 5 11)] k f223 0
def K8 (s1 s2:List Cl) (v13:Int):St UU:=⟨[(0,(sC s1)),(1,(sC s2)),(12,(iI s1.length)),(13,(iI v13))],[],[],[]⟩
section
variable (k:Nat) (s1 s2:List Cl) (Z:Out UU->Option S)
theorem Tz: ∀n v13,(CC k).lp Z 4 [] n (K8 s1 s2 v13)=s9 k (bN Z) s1 s2 n v13:=iA (yl k (bN Z) s1 s2)
end
theorem WM (ho:ai o):Tl o 223 (Nr k:Rw S):=al (CC k) trivial func223 fun s1 s2 Z x h=>aq (b:=Hx k (bN Z) (fun v13=>(CC k).lp Z 4 [] k (K8 s1 s2 v13)) s1 s2) (by kernel_rfl) (aq (by simp only [Tz];rfl) (dq h))
def qK:Rw S:=ah nr xn fun f Z=>aa k (lv k f) (bN Z)
def RL:Fx S:=fp 17 [(146,lU k),(223,Nr k)] [] k f140 0
theorem rU (ho:ai o):Tl o 140 (qK k:Rw S):=al (RL k) ⟨mn k ho,WM k ho,trivial⟩ func140 fun f Z x h=>aA h
def wC:Rw S:=ah nq xn fun i Z=>aa k (pR k i) (bN Z)
def RM:Fx S:=fp 9 [] [] k f232 0
theorem zV (ho:ai o):Tl o 232 (wC k:Rw S):=al (RM k) trivial func232 fun i Z x h=>aA h
def Bw:Rw S:=ah AB xn fun s i Z=>aa k (nc k s i) (oU Z)
def RN:Fx S:=fp 16 [(232,wC k)] [] k f233 0
theorem D6 (ho:ai o):Tl o 233 (Bw k:Rw S):=al (RN k) ⟨zV k ho,trivial⟩ func233 fun s i Z x h=>aA h
def Bx:Rw S:=ah nr xn fun f Z=>aa k (rD k f) (oU Z)
def CE:Fx S:=fp 22 [(233,Bw k)] [(3,dJ [3,6,7,8] [],bG 5 11)] k f150 0
def Lc (f:List Cl) (s3 v8:Int):St UU:=⟨[(3,(iU s3)),(6,(sC f)),(7,(iI f.length)),(8,(iI v8))],[],[],[]⟩
section
variable (k:Nat) (f:List Cl) (Z:Out UU->Option S)
theorem TF: ∀n s3 v8,(CE k).lp Z 3 [] n (Lc f s3 v8)=sI k (oU Z) f n s3 v8:=dQ (xM k (oU Z) f)
end
theorem D7 (ho:ai o):Tl o 150 (Bx k:Rw S):=al (CE k) ⟨D6 k ho,trivial⟩ func150 fun f Z x h=>aq (b:=Hb k (oU Z) (fun s3 v8=>(CE k).lp Z 3 [] k (Lc f s3 v8)) f) (by kernel_rfl) (aq (by simp only [TF];rfl) (dq h))
def NA:Rw S:=ah Ka xn fun f dims Z=>aa k (n8 k f dims) (bN Z)
def RT:Fx S:=fp 15 [(150,Bx k)] [] k f204 0
theorem WV (ho:ai o):Tl o 204 (NA k:Rw S):=al (RT k) ⟨D7 k ho,trivial⟩ func204 fun f dims Z x h=>aA h
def FW:Rw S:=ah Ay xn fun c Z=>aa k (uQ k c) (bN Z)
def RU:Fx S:=fp 9 [] [] k f269 0
theorem I9 (ho:ai o):Tl o 269 (FW k:Rw S):=al (RU k) trivial func269 fun c Z x h=>aA h
def NC:Rw S:=ah Kb xn fun s Z=>aa k (DT k s) (dt Z)
def CI:Fx S:=fp 19 [(269,FW k)] [(2,dJ [0,1,7,8] [],bG 4 5)] k f277 0
def Ld (s:List Cl) (v8:Int):St UU:=⟨[(0,(sC s)),(1,(.func 269 [] [])),(7,(iI s.length)),(8,(iI v8))],[],[],[]⟩
section
variable (k:Nat) (s:List Cl) (Z:Out UU->Option S)
theorem TG: ∀n v8,(CI k).lp Z 2 [] n (Ld s v8)=ta k (dt Z) s n v8:=iA (yn k (dt Z) s)
end
theorem WW (ho:ai o):Tl o 277 (NC k:Rw S):=al (CI k) ⟨I9 k ho,trivial⟩ func277 fun s Z x h=>aq (b:=Hz k (dt Z) (fun v8=>(CI k).lp Z 2 [] k (Ld s v8)) s) (by kernel_rfl) (aq (by simp only [TG];rfl) (dq h))
def ND:Rw S:=ah Kb xn fun s Z=>aa k (DR k s) (bN Z)
def RW:Fx S:=fp 9 [(277,NC k)] [] k f227 0
theorem WX (ho:ai o):Tl o 227 (ND k:Rw S):=al (RW k) ⟨WW k ho,trivial⟩ func227 fun s Z x h=>aA h
def tG:Rw S:=ah nr xn fun f Z=>aa k (m7 k f) (bN Z)
def RY:Fx S:=fp 10 [(140,qK k),(227,ND k)] [] k f205 0
theorem vr (ho:ai o):Tl o 205 (tG k:Rw S):=al (RY k) ⟨rU k ho,WX k ho,trivial⟩ func205 fun f Z x h=>aA h
def NF:Rw S:=ah vH xn fun t vars dims Z=>aa k (vi k t vars dims) (bN Z)
def ug:Fx S:=fp 138 [(140,qK k),(201,MH k),(202,ML k),(203,MN k),(204,NA k),(205,tG k)] [(1000003,dJ [1,2,3] [(3,6)],bG 2 3),(15,dJ [2,3,107,108,109] [(3,6)],bG 6 23)] k f115 0
def Lj (t:Tm) (vars dims:Int):St UU:=⟨[(1,(iI vars)),(2,(iI dims)),(3,(pt 3))],[(3,bT t)],[],[]⟩
def Lk (t:Tm) (dims:Int) (v109:Int):St UU:=⟨[(2,(iI dims)),(3,(pt 3)),(107,(sB t.sys)),(108,(iI t.sys.length)),(109,(iI v109))],[(3,bT t)],[],[]⟩
section
variable (k:Nat) (t:Tm) (vars dims:Int) (Z:Out UU->Option S)
theorem TP: ∀n v109,(ug k).lp Z 15 [] n (Lk t dims v109)=nC k (bN Z) t dims n v109:=iA (yv k (bN Z) t dims)
theorem TO: ∀n,(ug k).jn Z 1000003 [] n (Lj t vars dims)=AD k (bN Z) t vars dims n:=EC (uJ k (bN Z) t vars dims (fun v109=>nC k (bN Z) t dims k v109)) rfl (fun _=>rfl) (aq (b:=uJ k (bN Z) t vars dims (fun v109=>(ug k).lp Z 15 [] k (Lk t dims v109))) (by kernel_rfl) (by simp only [TP]))
end
theorem WZ (ho:ai o):Tl o 115 (NF k:Rw S):=al (ug k) ⟨rU k ho,VZ k ho,V3 k ho,V5 k ho,WV k ho,vr k ho,trivial⟩ func115 fun t vars dims Z x h=>aq (b:=HG k (bN Z) ((ug k).jn Z 1000003 [] k (Lj t vars dims)) t vars dims) (by kernel_rfl) (aq (by simp only [TO];rfl) (dq h))
def tH (hd:fX S):Rw S:=ah Zj xn fun t vars dims bound Z=>hd t vars dims bound (bN Z)
def NJ (hd:fX S) (k:Nat):Rw S:=ah Zk Qw fun a_k v d c0 c1 c2 Z=>aa k (vg hd k a_k v d c0 c1 c2) (kx c0 c1 c2 Z)
def R4 (hd:fX S) (k:Nat):Fx S:=fp 21 [(51,tH hd)] [] k f117 3
theorem W8 (o:Obj) (ho:ai o) (hd:fX S) (Hd:Tl o 51 (tH hd)) (k:Nat):Tl o 117 (NJ hd k:Rw S):=al (R4 hd k) ⟨Hd,trivial⟩ func117 fun a_k v d c0 c1 c2 Z x h=>aA h
def NK (hd:fX S) (k:Nat):Rw S:=ah Zl Qw fun t c0 c1 c2 Z=>aa k (zL hd k t c0 c1 c2) (kx c0 c1 c2 Z)
def py (hd:fX S) (k:Nat):Fx S:=fp 60 [(49,qJ k),(117,NJ hd k)] [(2,dJ [1,2,15,16,17] [(2,6),(1000000,1),(1000001,1),(1000002,1)],bG 4 5),(12,dJ [1,9,40,41,42] [(1000000,1),(1000001,1),(1000002,1)],bG 7 47),(15,dJ [1,9,40,41,42,47,48,49] [(1000000,1),(1000001,1),(1000002,1)],bG 15 13103)] k f116 3
def Fe (c0 c1:Int) (c2:Bool) (t:Tm) (v17:Int):St UU:=⟨[(1,(.func 117 [] [(pt 1000000),(pt 1000001),(pt 1000002)])),(2,(pt 2)),(15,(sT t.kids)),(16,(iI t.kids.length)),(17,(iI v17))],[(2,bT t),(1000000,bI c0),(1000001,bI c1),(1000002,.cells [(.bool c2)])],[],[]⟩
def vY (c0 c1:Int) (c2:Bool) (t:Tm) (v42 more9:Int):St UU:=⟨[(1,(.func 117 [] [(pt 1000000),(pt 1000001),(pt 1000002)])),(9,(iI more9)),(40,(sB t.sys)),(41,(iI t.sys.length)),(42,(iI v42))],[(1000000,bI c0),(1000001,bI c1),(1000002,.cells [(.bool c2)])],[],[]⟩
def Ll (c0 c1:Int) (c2:Bool) (t:Tm) (v42:Int) (x4:(Br Tm)) (more9:Int) (v49:Int):St UU:=⟨[(1,(.func 117 [] [(pt 1000000),(pt 1000001),(pt 1000002)])),(9,(iI more9)),(40,(sB t.sys)),(41,(iI t.sys.length)),(42,(iI v42)),(47,(sT x4.kids)),(48,(iI x4.kids.length)),(49,(iI v49))],[(1000000,bI c0),(1000001,bI c1),(1000002,.cells [(.bool c2)])],[],[]⟩
section
variable (hd:fX S) (k:Nat) (t:Tm) (c0 c1:Int) (c2:Bool) (Z:Out UU->Option S)
theorem TS (v42 x4 more9 Z1): ∀n v49,(py hd k).lp Z 15 [Z1] n (Ll c0 c1 c2 t v42 x4 more9 v49)=oO hd k (kx c0 c1 c2 Z) (fun v42 more9=>Z1 (vY c0 c1 c2 t v42 more9)) c0 c1 c2 t v42 x4 more9 n v49:=iA (yr hd k (kx c0 c1 c2 Z) c0 c1 c2 t v42 x4 more9 (fun v42 more9=>Z1 (vY c0 c1 c2 t v42 more9)))
theorem TR: ∀n v42 more9,(py hd k).lp Z 12 [] n (vY c0 c1 c2 t v42 more9)=lJ hd k (kx c0 c1 c2 Z) c0 c1 c2 t n v42 more9:=dQ (fun own=>uF hd k (kx c0 c1 c2 Z) c0 c1 c2 t (fun v42 x4 more9 v49=>oO hd k (kx c0 c1 c2 Z) own c0 c1 c2 t v42 x4 more9 k v49) own) rfl (fun _=>rfl) fun r v42 more9=>aq (b:=uF hd k (kx c0 c1 c2 Z) c0 c1 c2 t (fun v42 x4 more9 v49=>(py hd k).lp Z 15 [r] k (Ll c0 c1 c2 t v42 x4 more9 v49)) (fun v42 more9=>r (vY c0 c1 c2 t v42 more9)) v42 more9) (by kernel_rfl) (by simp only [TS])
theorem TQ: ∀n v17,(py hd k).lp Z 2 [] n (Fe c0 c1 c2 t v17)=ql hd k (kx c0 c1 c2 Z) c0 c1 c2 t n v17:=iA (fun own=>uE hd k (kx c0 c1 c2 Z) c0 c1 c2 t (fun v42 more9=>lJ hd k (kx c0 c1 c2 Z) c0 c1 c2 t k v42 more9) own) rfl (fun _=>rfl) fun r v17=>aq (b:=uE hd k (kx c0 c1 c2 Z) c0 c1 c2 t (fun v42 more9=>(py hd k).lp Z 12 [] k (vY c0 c1 c2 t v42 more9)) (fun v17=>r (Fe c0 c1 c2 t v17)) v17) (by kernel_rfl) (by simp only [TR])
end
theorem W9 (o:Obj) (ho:ai o) (hd:fX S) (Hd:Tl o 51 (tH hd)) (k:Nat):Tl o 116 (NK hd k:Rw S):=al (py hd k) ⟨rT k ho,W8 o ho hd Hd k,trivial⟩ func116 fun t c0 c1 c2 Z x h=>aq (b:=HD hd k (kx c0 c1 c2 Z) (fun v17=>(py hd k).lp Z 2 [] k (Fe c0 c1 c2 t v17)) t c0 c1 c2) (by kernel_rfl) (aq (by simp only [TQ];rfl) (dq h))
def R3 (hd:fX S) (k:Nat):Fx S:=fp 24 [(115,NF k),(116,NK hd k)] [] k f51 0
theorem Ew (o:Obj) (ho:ai o): ∀k:Nat,Tl o 51 (tH (jD k:fX S))
 |0=>mJ fun t vars dims bound Z x h=>by cases h
 |k+1=>al (R3 (jD k) k) ⟨WZ k ho,W9 o ho (jD k) (Ew o ho k) k,trivial⟩ func51 fun t vars dims bound Z x h=>aq (by kernel_rfl) h
def nJ:Rw S:=ah np xn fun t Z=>aa k (lw k t) (dt Z)
def R5:Fx S:=fp 12 [(50,FJ k),(51,tH (jD k))] [] k f40 0
theorem oh (ho:ai o):Tl o 40 (nJ k:Rw S):=al (R5 k) ⟨IX k ho,Ew o ho k,trivial⟩ func40 fun t Z x h=>aA h
def oV (hd:jb S):Rw S:=ah np xn fun t Z=>hd t (A3 Z)
def NL (hd:jb S) (k:Nat):Rw S:=ah Kd xn fun l Z=>aa k (vh hd k l) (A4 Z)
def CK (hd:jb S) (k:Nat):Fx S:=fp 19 [(41,oV hd)] [(3,⟨[(3,bA 100003),(6,ab),(7,ab),(8,ab)],[]⟩,bG 5 11)] k f92 0
def Ln (l:List Tm) (out3:List Tm) (v8:Int):St UU:=⟨[(3,(.own 100003 0)),(6,(sT l)),(7,(iI l.length)),(8,(iI v8))],[],[(100003,⟨0,ET.T,out3⟩)],[(100003,.wr)]⟩
section
variable (hd:jb S) (k:Nat) (l:List Tm) (Z:Out UU->Option S)
theorem TU: ∀n out3 v8,(CK hd k).lp Z 3 [] n (Ln l out3 v8)=tc hd k (A4 Z) l n out3 v8:=dQ (yp hd k (A4 Z) l)
end
theorem W_ (o:Obj) (ho:ai o) (hd:jb S) (Hd:Tl o 41 (oV hd)) (k:Nat):Tl o 92 (NL hd k:Rw S):=al (CK hd k) ⟨Hd,trivial⟩ func92 fun l Z x h=>aq (b:=HB hd k (A4 Z) (fun out3 v8=>(CK hd k).lp Z 3 [] k (Ln l out3 v8)) l) (by kernel_rfl) (aq (by simp only [TU];rfl) (dq h))
def CJ (hd:jb S) (k:Nat):Fx S:=fp 40 [(91,Gq),(92,NL hd k)] [(3,⟨[(2,ab),(3,ab),(20,ab),(21,ab),(22,ab)],[(2,[ab,ab,ab,bA 200131,bA 200132,bA 200133]),(3,[ab,ab,ab,ab,ab,bA 200197])]⟩,bG 5 11)] k f41 0
def Lm (t:Tm) (r1:List Cl) (r2:List Tm) (b3_5:List (Br Tm)) (v22:Int):St UU:=⟨[(2,(pt 2)),(3,(pt 3)),(20,(sB t.sys)),(21,(iI t.sys.length)),(22,(iI v22))],[(2,.cells [(iI 0),(iI 0),lb,(.own 200131 0),(.own 200132 0),(.own 200133 0)]),(3,.cells [(iI t.kind),(iI t.n),(.str t.name),(sC r1),(sT r2),(.own 200197 0)])],[(200197,⟨0,ET.B,b3_5⟩),(200133,jF),(200132,kf),(200131,jk)],[(200197,.wr),(200133,.wr),(200132,.wr),(200131,.wr)]⟩
section
variable (hd:jb S) (k:Nat) (t:Tm) (Z:Out UU->Option S)
theorem TT (r1 r2): ∀n b3_5 v22,(CJ hd k).lp Z 3 [] n (Lm t r1 r2 b3_5 v22)=tb hd k (A3 Z) t r1 r2 n b3_5 v22:=dQ (yo hd k (A3 Z) t r1 r2)
end
theorem sk (o:Obj) (ho:ai o): ∀k:Nat,Tl o 41 (oV (fF k:jb S))
 |0=>mJ fun t Z x h=>by cases h
 |k+1=>al (CJ (fF k) k) ⟨agq o ho,W_ o ho (fF k) (sk o ho k) k,trivial⟩ func41 fun t Z x h=>aq (b:=HA (fF k) k (A3 Z) (fun r1 r2 b3_5 v22=>(CJ (fF k) k).lp Z 3 [] k (Lm t r1 r2 b3_5 v22)) t) (by kernel_rfl) (aq (by simp only [TT];rfl) h)
def nK:Rw S:=ah Zm eo fun t a_e c0 Z=>aa k (kN k t a_e c0) (lS Z)
def R7:Fx S:=fp 23 [] [] k f93 1
theorem oi (ho:ai o):Tl o 93 (nK k:Rw S):=al (R7 k) trivial func93 fun t a_e c0 Z x h=>aA h
def adL:Rw S:=ah vI eo fun c0 Z=>aa k (fE k c0) (iY c0 Z)
def nL:Rw S:=ah vI eo fun c0 Z=>aa k (fE k c0) (bN Z)
def R8:Fx S:=fp 8 [] [] k f94 1
theorem Xb (ho:ai o):Tl o 94 (adL k:Rw S):=al (R8 k) trivial func94 fun c0 Z x h=>aA h
theorem oj (ho:ai o):Tl o 94 (nL k:Rw S):=tlS (Xb k ho) fun c0 Z x h=>aq (b:=aa k (fE k c0) (iY c0 (Dt _ Z))) (by kernel_rfl) (aq (congrArg (aa k (fE k c0)) (funext fun r=>if_pos rfl)) h)
def FY:Rw S:=ah vJ eo fun t c0 Z=>aa k (mi k t c0) (ac2 Z)
def R9:Fx S:=fp 20 [(40,nJ k),(41,oV (fF k)),(93,nK k),(94,nL k)] [] k f42 1
theorem I_ (ho:ai o):Tl o 42 (FY k:Rw S):=al (R9 k) ⟨oh k ho,sk o ho k,oi k ho,oj k ho,trivial⟩ func42 fun t c0 Z x h=>aA h
def Bz:Rw S:=ah Ke xn fun l Z=>aa k (rF k l) (dt Z)
def CL:Fx S:=fp 15 [(140,qK k)] [(2,dJ [5,6,7] [],bG 4 5)] k f141 0
def Lo (l:List (List Cl)) (v7:Int):St UU:=⟨[(5,(BT l .none)),(6,(iI l.length)),(7,(iI v7))],[],[],[]⟩
section
variable (k:Nat) (l:List (List Cl)) (Z:Out UU->Option S)
theorem TV: ∀n v7,(CL k).lp Z 2 [] n (Lo l v7)=sN k (dt Z) l n v7:=iA (xS k (dt Z) l)
end
theorem D8 (ho:ai o):Tl o 141 (Bz k:Rw S):=al (CL k) ⟨rU k ho,trivial⟩ func141 fun l Z x h=>aq (b:=Hi k (dt Z) (fun v7=>(CL k).lp Z 2 [] k (Lo l v7)) l) (by kernel_rfl) (aq (by simp only [TV];rfl) (dq h))
def BB:Rw S:=ah cn xn fun Z=>aa k (pN k) (ac3 Z)
def R_:Fx S:=fx 1 (fun _=>[]) (fun _=>false) [] [] k f143 false [true] 0
theorem D9 (ho:ai o):Tl o 143 (BB k:Rw S):=al (R_ k) trivial func143 fun Z x h=>aA h
def FZ:Rw S:=ah nq xn fun i Z=>aa k (rN k i) (oU Z)
def Sa:Fx S:=fp 9 [] [] k f244 0
theorem Ja (ho:ai o):Tl o 244 (FZ k:Rw S):=al (Sa k) trivial func244 fun i Z x h=>aA h
def NN:Rw S:=ah Zn xn fun s a_from a_by Z=>aa k (n5 k s a_from a_by) (ac4 Z)
def Sb:Fx S:=fp 46 [(244,FZ k)] [] k f225 0
theorem Xc (ho:ai o):Tl o 225 (NN k:Rw S):=al (Sb k) ⟨Ja k ho,trivial⟩ func225 fun s a_from a_by Z x h=>aA h
def NO:Rw S:=ah Zo xn fun c a_from a_by Z=>aa k (yV k c a_from a_by) (ac6 Z)
def Sc:Fx S:=fp 42 [(224,FP k),(225,NN k)] [] k f145 0
theorem Xd (ho:ai o):Tl o 145 (NO k:Rw S):=al (Sc k) ⟨I2 k ho,Xc k ho,trivial⟩ func145 fun c a_from a_by Z x h=>aA h
def NP:Rw S:=ah Zp Cc fun a_have c c0 c1 Z=>aa k (DG k a_have c c0 c1) (ac7 c0 c1 Z)
def Sd:Fx S:=fx 22 (fun _=>[]) (fun _=>false) [(145,NO k)] [] k f144 false [true,false] 2
theorem Xe (ho:ai o):Tl o 144 (NP k:Rw S):=al (Sd k) ⟨Xd k ho,trivial⟩ func144 fun a_have c c0 c1 Z x h=>aA h
def NQ:Rw S:=ah Zq Cc fun l a_from c0 c1 Z=>aa k (zj k l a_from c0 c1) (A5 c0 c1 Z)
def CM:Fx S:=fx 33 (fun|23=>[true,false]|_=>[]) (fun _=>false) [(144,NP k)] [(2,⟨[(1,bA 100001),(2,ab),(13,ab),(14,ab),(15,ab)],[(1000000,[ab]),(1000001,[ab])]⟩,bG 4 5)] k f142 false [] 2
def Lp (c0 c1:Int) (l:List Cl) (v1:List Cl) (v15:Int):St UU:=⟨[(1,(.own 100001 0)),(2,(.func 144 [] [(pt 1000000),(pt 1000001)])),(13,(sC l)),(14,(iI l.length)),(15,(iI v15))],[(1000000,bI c0),(1000001,bI c1)],[(100001,⟨0,ET.C,v1⟩)],[(100001,.wr)]⟩
section
variable (k:Nat) (l a_from:List Cl) (c0 c1:Int) (Z:Out UU->Option S)
theorem TW: ∀n v1 v15,(CM k).lp Z 2 [] n (Lp c0 c1 l v1 v15)=sL k (A5 c0 c1 Z) c0 c1 l n v1 v15:=dQ (xP k (A5 c0 c1 Z) c0 c1 l)
end
theorem Xf (ho:ai o):Tl o 142 (NQ k:Rw S):=al (CM k) ⟨Xe k ho,trivial⟩ func142 fun l a_from c0 c1 Z x h=>aq (b:=Hf k (A5 c0 c1 Z) (fun v1 v15=>(CM k).lp Z 2 [] k (Lp c0 c1 l v1 v15)) l a_from c0 c1) (by kernel_rfl) (aq (by simp only [TW];rfl) (dq h))
def tI:Rw S:=ah Zr xn fun f a_from a_by Z=>aa k (n3 k f a_from a_by) (cK Z)
def Se:Fx S:=fx 31 (fun|21=>[false,true,false]|_=>[]) (fun _=>false) [(141,Bz k),(142,NQ k),(143,BB k),(146,lU k)] [] k f75 false [] 0
theorem vt (ho:ai o):Tl o 75 (tI k:Rw S):=al (Se k) ⟨D8 k ho,Xf k ho,D9 k ho,mn k ho,trivial⟩ func75 fun f a_from a_by Z x h=>aA h
def NS:Rw S:=ah Zs xn fun l_0 l_1 f a_from Z=>aa k (vc k l_0 l_1 f a_from) (ac8 Z)
def Sf:Fx S:=fp 31 [(75,tI k)] [] k f165 0
theorem Xh (ho:ai o):Tl o 165 (NS k:Rw S):=al (Sf k) ⟨vt k ho,trivial⟩ func165 fun l_0 l_1 f a_from Z x h=>aA h
def BC (hd:jT S):Rw S:=ah Zt xn fun l_0 l_1 t v d Z=>hd l_0 l_1 t v d (iX Z)
def mT (hd:jT S) (k:Nat):Fx S:=fp 128 [(49,qJ k),(85,BC hd),(165,NS k)] [(1000006,⟨[(2,ab),(3,ab),(4,ab),(5,ab),(8,ab),(9,ab)],[(4,[ab,ab]),(5,[ab,ab,ab,ab,ab,ab]),(8,[ab,ab,ab,bA 200515,bA 200516,bA 200517]),(9,[ab,ab,ab,ab,bA 200580,bA 200581])]⟩,bG 3 7),(7,⟨[(2,ab),(3,ab),(4,ab),(5,ab),(8,ab),(9,ab),(55,ab),(56,ab),(57,ab)],[(4,[ab,ab]),(5,[ab,ab,ab,ab,ab,ab]),(8,[ab,ab,ab,bA 200515,bA 200516,bA 200517]),(9,[ab,ab,ab,ab,bA 200580,bA 200581])]⟩,bG 6 23),(16,⟨[(2,ab),(3,ab),(4,ab),(8,ab),(9,ab),(14,ab),(88,ab),(89,ab),(90,ab)],[(4,[ab,ab]),(8,[ab,ab,ab,bA 200515,bA 200516,bA 200517]),(9,[ab,ab,ab,ab,bA 200580,bA 200581])]⟩,bG 9 191),(20,⟨[(2,ab),(3,ab),(4,ab),(8,ab),(9,ab),(14,ab),(17,ab),(88,ab),(89,ab),(90,ab),(101,ab),(102,ab),(103,ab)],[(4,[ab,ab]),(8,[ab,ab,ab,bA 200515,bA 200516,bA 200517]),(9,[ab,ab,ab,ab,bA 200580,bA 200581]),(17,[ab,bA 201089])]⟩,bG 19 183487)] k f85 0
def Lq (l_0 l_1:Int) (t:Tm) (r2:List Cl) (v d:Int) (bP:Int):St UU:=⟨[(2,(iI v)),(3,(iI d)),(4,(pt 4)),(5,(pt 5)),(8,(pt 8)),(9,(pt 9))],[(4,.cells [(iI l_0),(iI l_1)]),(5,bT t),(8,.cells [(iI 0),(iI 0),lb,(.own 200515 0),(.own 200516 0),(.own 200517 0)]),(9,.cells [(iI t.kind),(iI bP),(.str t.name),(sC r2),(.own 200580 0),(.own 200581 0)])],[(200581,jF),(200580,kf),(200517,jF),(200516,kf),(200515,jk)],[(200581,.wr),(200580,.wr),(200517,.wr),(200516,.wr),(200515,.wr)]⟩
def Ff (l_0 l_1:Int) (t:Tm) (bP:Int) (r2:List Cl) (v d:Int) (b9_4:List Tm) (v57:Int):St UU:=⟨[(2,(iI v)),(3,(iI d)),(4,(pt 4)),(5,(pt 5)),(8,(pt 8)),(9,(pt 9)),(55,(sT t.kids)),(56,(iI t.kids.length)),(57,(iI v57))],[(4,.cells [(iI l_0),(iI l_1)]),(5,bT t),(8,.cells [(iI 0),(iI 0),lb,(.own 200515 0),(.own 200516 0),(.own 200517 0)]),(9,.cells [(iI t.kind),(iI bP),(.str t.name),(sC r2),(.own 200580 0),(.own 200581 0)])],[(200581,jF),(200580,⟨0,ET.T,b9_4⟩),(200517,jF),(200516,kf),(200515,jk)],[(200581,.wr),(200580,.wr),(200517,.wr),(200516,.wr),(200515,.wr)]⟩
def vZ (l_0 l_1:Int) (t:Tm) (bP:Int) (r2:List Cl) (b9_4:List Tm) (v d:Int) (b9_5:List (Br Tm)) (more14 v90:Int):St UU:=⟨[(2,(iI v)),(3,(iI d)),(4,(pt 4)),(8,(pt 8)),(9,(pt 9)),(14,(iI more14)),(88,(sB t.sys)),(89,(iI t.sys.length)),(90,(iI v90))],[(4,.cells [(iI l_0),(iI l_1)]),(8,.cells [(iI 0),(iI 0),lb,(.own 200515 0),(.own 200516 0),(.own 200517 0)]),(9,.cells [(iI t.kind),(iI bP),(.str t.name),(sC r2),(.own 200580 0),(.own 200581 0)])],[(200581,⟨0,ET.B,b9_5⟩),(200580,⟨0,ET.T,b9_4⟩),(200517,jF),(200516,kf),(200515,jk)],[(200581,.wr),(200580,.wr),(200517,.wr),(200516,.wr),(200515,.wr)]⟩
def Lr (r12:List Cl) (l_0 l_1:Int) (t:Tm) (bP:Int) (r2:List Cl) (b9_4:List Tm) (b9_5:List (Br Tm)) (x10:(Br Tm)) (more14 v d v90:Int) (b17_1:List Tm) (v103:Int):St UU:=⟨[(2,(iI v)),(3,(iI d)),(4,(pt 4)),(8,(pt 8)),(9,(pt 9)),(14,(iI more14)),(17,(pt 17)),(88,(sB t.sys)),(89,(iI t.sys.length)),(90,(iI v90)),(101,(sT x10.kids)),(102,(iI x10.kids.length)),(103,(iI v103))],[(4,.cells [(iI l_0),(iI l_1)]),(8,.cells [(iI 0),(iI 0),lb,(.own 200515 0),(.own 200516 0),(.own 200517 0)]),(9,.cells [(iI t.kind),(iI bP),(.str t.name),(sC r2),(.own 200580 0),(.own 200581 0)]),(17,.cells [(sC r12),(.own 201089 0)])],[(201089,⟨0,ET.T,b17_1⟩),(200581,⟨0,ET.B,b9_5⟩),(200580,⟨0,ET.T,b9_4⟩),(200517,jF),(200516,kf),(200515,jk)],[(201089,.wr),(200581,.wr),(200580,.wr),(200517,.wr),(200516,.wr),(200515,.wr)]⟩
section
variable (hd:jT S) (k:Nat) (l_0 l_1:Int) (t:Tm) (v d:Int) (Z:Out UU->Option S)
theorem T0 (r12 bP r2 b9_4 b9_5 x10 more14 v90 Z2): ∀n b17_1 v103,(mT hd k).lp Z 20 [Z2] n (Lr r12 l_0 l_1 t bP r2 b9_4 b9_5 x10 more14 v d v90 b17_1 v103)=oN hd k (iX Z) (fun b9_5 more14 v90=>Z2 (vZ l_0 l_1 t bP r2 b9_4 v d b9_5 more14 v90)) r12 l_0 l_1 t bP r2 b9_4 b9_5 x10 more14 v d v90 n b17_1 v103:=dQ (yg hd k (iX Z) r12 l_0 l_1 t bP r2 b9_4 b9_5 x10 more14 v d v90 (fun b9_5 more14 v90=>Z2 (vZ l_0 l_1 t bP r2 b9_4 v d b9_5 more14 v90)))
theorem TZ (bP r2 b9_4): ∀n b9_5 more14 v90,(mT hd k).lp Z 16 [] n (vZ l_0 l_1 t bP r2 b9_4 v d b9_5 more14 v90)=lE hd k (iX Z) l_0 l_1 t bP r2 b9_4 v d n b9_5 more14 v90:=ko (fun own=>uz hd k (iX Z) l_0 l_1 t bP r2 b9_4 v d (fun r12 b9_5 x10 more14 v90 b17_1 v103=>oN hd k (iX Z) own r12 l_0 l_1 t bP r2 b9_4 b9_5 x10 more14 v d v90 k b17_1 v103) own) rfl (fun _=>rfl) fun r b9_5 more14 v90=>aq (b:=uz hd k (iX Z) l_0 l_1 t bP r2 b9_4 v d (fun r12 b9_5 x10 more14 v90 b17_1 v103=>(mT hd k).lp Z 20 [r] k (Lr r12 l_0 l_1 t bP r2 b9_4 b9_5 x10 more14 v d v90 b17_1 v103)) (fun b9_5 more14 v90=>r (vZ l_0 l_1 t bP r2 b9_4 v d b9_5 more14 v90)) b9_5 more14 v90) (by kernel_rfl) (by simp only [T0])
theorem TY (bP r2): ∀n b9_4 v57,(mT hd k).lp Z 7 [] n (Ff l_0 l_1 t bP r2 v d b9_4 v57)=ny hd k (iX Z) l_0 l_1 t bP r2 v d n b9_4 v57:=dQ (fun own=>uy hd k (iX Z) l_0 l_1 t bP r2 v d (fun b9_4 b9_5 more14 v90=>lE hd k (iX Z) l_0 l_1 t bP r2 b9_4 v d k b9_5 more14 v90) own) rfl (fun _=>rfl) fun r b9_4 v57=>aq (b:=uy hd k (iX Z) l_0 l_1 t bP r2 v d (fun b9_4 b9_5 more14 v90=>(mT hd k).lp Z 16 [] k (vZ l_0 l_1 t bP r2 b9_4 v d b9_5 more14 v90)) (fun b9_4 v57=>r (Ff l_0 l_1 t bP r2 v d b9_4 v57)) b9_4 v57) (by kernel_rfl) (by simp only [TZ])
theorem TX (r2): ∀n bP,(mT hd k).jn Z 1000006 [] n (Lq l_0 l_1 t r2 v d bP)=vL hd k (iX Z) l_0 l_1 t r2 v d n bP:=JY (C4 hd k (iX Z) l_0 l_1 t r2 v d (fun bP b9_4 v57=>ny hd k (iX Z) l_0 l_1 t bP r2 v d k b9_4 v57)) rfl (fun _=>rfl) (fun bP=>aq (b:=C4 hd k (iX Z) l_0 l_1 t r2 v d (fun bP b9_4 v57=>(mT hd k).lp Z 7 [] k (Ff l_0 l_1 t bP r2 v d b9_4 v57)) bP) (by kernel_rfl) (by simp only [TY]))
end
theorem Ey (o:Obj) (ho:ai o): ∀k:Nat,Tl o 85 (BC (gF k:jT S))
 |0=>mJ fun l_0 l_1 t v d Z x h=>by cases h
 |k+1=>al (mT (gF k) k) ⟨rT k ho,Ey o ho k,Xh k ho,trivial⟩ func85 fun l_0 l_1 t v d Z x h=>aq (b:=Hs (gF k) k (iX Z) (fun r2 bP=>(mT (gF k) k).jn Z 1000006 [] k (Lq l_0 l_1 t r2 v d bP)) l_0 l_1 t v d) (by kernel_rfl) (aq (by simp only [TX];rfl) h)
def NT:Rw S:=ah Kf Qx fun c0 c1 c2 Z=>aa k (zA k c0 c1 c2) (ac9 c0 c1 c2 Z)
def Sg:Fx S:=fp 11 [(85,BC (gF k))] [] k f206 3
theorem Xi (ho:ai o):Tl o 206 (NT k:Rw S):=al (Sg k) ⟨Ey o ho k,trivial⟩ func206 fun c0 c1 c2 Z x h=>aA h
def NU:Rw S:=ah Zu Qx fun t numbers c0 c1 c2 Z=>aa k (zD k t numbers c0 c1 c2) (A6 c0 c1 c2 Z)
def CN:Fx S:=⟨⟨30,(fun _=>[]),(fun _=>false),ab,fun|6=>true|7=>true|_=>false⟩,[(40,nJ k),(206,NT k)],[(5,⟨[(2,ab),(6,ab),(7,ab),(17,ab),(18,ab),(19,ab)],[(1000000,[ab]),(1000001,[ab]),(1000002,[ab,ab,ab,ab,ab,ab]),(5000006,[ab,ab,ab,bA 320200387,bA 320200388,bA 320200389]),(5000007,[ab])]⟩,bG 5 11)],k,f83,false,[],3,some (yG 16 164 f164 k)⟩
def Ls (c0 c1:Int) (c2:Tm) (numbers:List Int) (v19:Int):St UU:=⟨[(2,(.func 206 [] [(pt 1000000),(pt 1000001),(pt 1000002)])),(6,(pt 5000006)),(7,(pt 5000007)),(17,(qU numbers .none)),(18,(iI numbers.length)),(19,(iI v19))],[(1000000,bI c0),(1000001,bI c1),(1000002,bT c2),(5000006,.cells [(iI 0),(iI 0),lb,(.own 320200387 0),(.own 320200388 0),(.own 320200389 0)]),(5000007,bI 0)],[(320200389,jF),(320200388,kf),(320200387,jk)],[(320200389,.wr),(320200388,.wr),(320200387,.wr)]⟩
section
variable (k:Nat) (t:Tm) (numbers:List Int) (c0 c1:Int) (c2:Tm) (Z:Out UU->Option S)
theorem T1: ∀n v19,(CN k).lp Z 5 [] n (Ls c0 c1 c2 numbers v19)=qi k (A6 c0 c1 c2 Z) c0 c1 c2 numbers n v19:=iA (yf k (A6 c0 c1 c2 Z) c0 c1 c2 numbers)
end
theorem Xj (ho:ai o):Tl o 83 (NU k:Rw S):=PP (CN k) rfl (IA o func164 (by kernel_rfl)) ⟨oh k ho,Xi k ho,trivial⟩ func83 (by kernel_rfl) fun t numbers c0 c1 c2 Z x h=>aq (b:=B2 k (A6 c0 c1 c2 Z) (fun v19=>(CN k).lp Z 5 [] k (Ls c0 c1 c2 numbers v19)) t numbers c0 c1 c2) (by kernel_rfl) (aq (by simp only [T1];rfl) (dq h))
def F0:Rw S:=ah vH xn fun t vars dims Z=>aa k (pQ k t vars dims) (jP Z)
def Sh:Fx S:=fp 18 [(83,NU k)] [] k f119 0
theorem Jb (ho:ai o):Tl o 119 (F0 k:Rw S):=al (Sh k) ⟨Xj k ho,trivial⟩ func119 fun t vars dims Z x h=>aA h
def qL:Rw S:=ah Kg eo fun t vars dims c0 Z=>aa k (j_ k t vars dims c0) (lS Z)
def Si:Fx S:=fp 21 [(93,nK k),(94,nL k),(119,F0 k)] [] k f56 1
theorem rV (ho:ai o):Tl o 56 (qL k:Rw S):=al (Si k) ⟨oi k ho,oj k ho,Jb k ho,trivial⟩ func56 fun t vars dims c0 Z x h=>aA h
def nM:Rw S:=ah Zv eo fun a_e c0 Z=>aa k (kK k a_e c0) (ada Z)
def Sj:Fx S:=fp 13 [] [] k f270 1
theorem ol (ho:ai o):Tl o 270 (nM k:Rw S):=al (Sj k) trivial func270 fun a_e c0 Z x h=>aA h
def wE:Rw S:=ah Kd xn fun l Z=>aa k (m6 k l) (A7 Z)
def CO:Fx S:=fp 22 [(40,nJ k),(270,nM k)] [(3,dJ [3,8,9,10] [(7,1)],bG 5 11)] k f207 0
def Lt (l:List Tm) (j5 v10:Int):St UU:=⟨[(3,(pt 7)),(8,(sT l)),(9,(iI l.length)),(10,(iI v10))],[(7,bI j5)],[],[]⟩
section
variable (k:Nat) (l:List Tm) (Z:Out UU->Option S)
theorem T2: ∀n j5 v10,(CO k).lp Z 3 [] n (Lt l j5 v10)=sq k (A7 Z) l n j5 v10:=dQ (xv k (A7 Z) l)
end
theorem zW (ho:ai o):Tl o 207 (wE k:Rw S):=al (CO k) ⟨oh k ho,ol k ho,trivial⟩ func207 fun l Z x h=>aq (b:=GV k (A7 Z) (fun j5 v10=>(CO k).lp Z 3 [] k (Lt l j5 v10)) l) (by kernel_rfl) (aq (by simp only [T2];rfl) (dq h))
def nN:Rw S:=ah vI eo fun c0 Z=>aa k (ew k c0) (iY c0 Z)
def Sk:Fx S:=fp 8 [] [] k f210 1
theorem om (ho:ai o):Tl o 210 (nN k:Rw S):=al (Sk k) trivial func210 fun c0 Z x h=>aA h
def F1:Rw S:=ah Kh eo fun f c0 Z=>aa k (mg k f c0) (FH Z)
def Sl:Fx S:=fp 23 [(75,tI k),(210,nN k),(270,nM k)] [] k f211 1
theorem Jc (ho:ai o):Tl o 211 (F1 k:Rw S):=al (Sl k) ⟨vt k ho,om k ho,ol k ho,trivial⟩ func211 fun f c0 Z x h=>aA h
def NV:Rw S:=ah Ke xn fun l Z=>aa k (ze k l) (dt Z)
def CQ:Fx S:=fp 15 [(205,tG k)] [(2,dJ [5,6,7] [],bG 4 5)] k f337 0
def Lv (l:List (List Cl)) (v7:Int):St UU:=⟨[(5,(BT l .none)),(6,(iI l.length)),(7,(iI v7))],[],[],[]⟩
section
variable (k:Nat) (l:List (List Cl)) (Z:Out UU->Option S)
theorem T6: ∀n v7,(CQ k).lp Z 2 [] n (Lv l v7)=sH k (dt Z) l n v7:=iA (xL k (dt Z) l)
end
theorem Xk (ho:ai o):Tl o 337 (NV k:Rw S):=al (CQ k) ⟨vr k ho,trivial⟩ func337 fun l Z x h=>aq (b:=Ha k (dt Z) (fun v7=>(CQ k).lp Z 2 [] k (Lv l v7)) l) (by kernel_rfl) (aq (by simp only [T6];rfl) (dq h))
def F5:Rw S:=ah p8 xn fun f g Z=>aa k (uZ k f g) (cK Z)
def Sn:Fx S:=fp 14 [(146,lU k)] [] k f243 0
theorem Jd (ho:ai o):Tl o 243 (F5 k:Rw S):=al (Sn k) ⟨mn k ho,trivial⟩ func243 fun f g Z x h=>aA h
def NW:Rw S:=ah p8 xn fun f g Z=>aa k (y9 k f g) (cK Z)
def So:Fx S:=fp 19 [(243,F5 k),(337,NV k)] [] k f327 0
theorem Xl (ho:ai o):Tl o 327 (NW k:Rw S):=al (So k) ⟨Jd k ho,Xk k ho,trivial⟩ func327 fun f g Z x h=>aA h
def NX:Rw S:=ah Zw eo fun f g c0 Z=>aa k (nZ k f g c0) (FH Z)
def Sp:Fx S:=fp 26 [(210,nN k),(270,nM k),(327,NW k)] [] k f302 1
theorem Xm (ho:ai o):Tl o 302 (NX k:Rw S):=al (Sp k) ⟨om k ho,ol k ho,Xl k ho,trivial⟩ func302 fun f g c0 Z x h=>aA h
def NY:Rw S:=ah Kf Qy fun c0 c1 c2 Z=>aa k (zC k c0 c1 c2) (adb c0 c1 c2 Z)
def Sq:Fx S:=fp 10 [(85,BC (gF k))] [] k f84 3
theorem Xn (ho:ai o):Tl o 84 (NY k:Rw S):=al (Sq k) ⟨Ey o ho k,trivial⟩ func84 fun c0 c1 c2 Z x h=>aA h
def NZ:Rw S:=ah Zy Qy fun t numbers c0 c1 c2 Z=>aa k (DP k t numbers c0 c1 c2) (A8 c0 c1 c2 Z)
def CR:Fx S:=⟨⟨30,(fun _=>[]),(fun _=>false),ab,fun|6=>true|7=>true|_=>false⟩,[(40,nJ k),(84,NY k)],[(5,⟨[(2,ab),(6,ab),(7,ab),(17,ab),(18,ab),(19,ab)],[(1000000,[ab]),(1000001,[ab,ab,ab,ab,ab,ab]),(1000002,[ab]),(5000006,[ab,ab,ab,bA 320200387,bA 320200388,bA 320200389]),(5000007,[ab])]⟩,bG 5 11)],k,f83,false,[],3,some (yG 16 164 f164 k)⟩
def Lw (c0:Int) (c1:Tm) (c2:Int) (numbers:List Int) (v19:Int):St UU:=⟨[(2,(.func 84 [] [(pt 1000000),(pt 1000001),(pt 1000002)])),(6,(pt 5000006)),(7,(pt 5000007)),(17,(qU numbers .none)),(18,(iI numbers.length)),(19,(iI v19))],[(1000000,bI c0),(1000001,bT c1),(1000002,bI c2),(5000006,.cells [(iI 0),(iI 0),lb,(.own 320200387 0),(.own 320200388 0),(.own 320200389 0)]),(5000007,bI 0)],[(320200389,jF),(320200388,kf),(320200387,jk)],[(320200389,.wr),(320200388,.wr),(320200387,.wr)]⟩
section
variable (k:Nat) (t:Tm) (numbers:List Int) (c0:Int) (c1:Tm) (c2:Int) (Z:Out UU->Option S)
theorem T7: ∀n v19,(CR k).lp Z 5 [] n (Lw c0 c1 c2 numbers v19)=qh k (A8 c0 c1 c2 Z) c0 c1 c2 numbers n v19:=iA (ye k (A8 c0 c1 c2 Z) c0 c1 c2 numbers)
end
theorem Xo (ho:ai o):Tl o 83 (NZ k:Rw S):=PP (CR k) rfl (IA o func164 (by kernel_rfl)) ⟨oh k ho,Xn k ho,trivial⟩ func83 (by kernel_rfl) fun t numbers c0 c1 c2 Z x h=>aq (b:=Hr k (A8 c0 c1 c2 Z) (fun v19=>(CR k).lp Z 5 [] k (Lw c0 c1 c2 numbers v19)) t numbers c0 c1 c2) (by kernel_rfl) (aq (by simp only [T7];rfl) (dq h))
def N3:Rw S:=ah vH xn fun t a_from a_by Z=>aa k (zB k t a_from a_by) (jP Z)
def Sr:Fx S:=fp 16 [(83,NZ k)] [] k f35 0
theorem Xp (ho:ai o):Tl o 35 (N3 k:Rw S):=al (Sr k) ⟨Xo k ho,trivial⟩ func35 fun t a_from a_by Z x h=>aA h
def wF:Rw S:=ah AB xn fun s i Z=>aa k (mh k s i) (oU Z)
def Ss:Fx S:=fp 16 [(232,wC k)] [] k f222 0
theorem zX (ho:ai o):Tl o 222 (wF k:Rw S):=al (Ss k) ⟨zV k ho,trivial⟩ func222 fun s i Z x h=>aA h
def N4:Rw S:=ah EH xn fun a_x Z=>aa k (IN k a_x) (dt Z)
def Sv:Fx S:=fp 21 [] [] k f275 0
theorem Xq (ho:ai o):Tl o 275 (N4 k:Rw S):=al (Sv k) trivial func275 fun a_x Z x h=>aA h
def BE:Rw S:=ah EH xn fun s Z=>aa k (n4 k s) (dt Z)
def Sw:Fx S:=fp 6 [(275,N4 k)] [] k f221 0
theorem D_ (ho:ai o):Tl o 221 (BE k:Rw S):=al (Sw k) ⟨Xq k ho,trivial⟩ func221 fun s Z x h=>aA h
def N5:Rw S:=ah nq xn fun i Z=>aa k (yW k i) (bN Z)
def Sx:Fx S:=fp 7 [(221,BE k),(222,wF k)] [] k f139 0
theorem Xr (ho:ai o):Tl o 139 (N5 k:Rw S):=al (Sx k) ⟨D_ k ho,zX k ho,trivial⟩ func139 fun i Z x h=>aA h
def N6:Rw S:=ah Ki xn fun t i a_r Z=>aa k (y7 k t i a_r) (dt Z)
def Sy:Fx S:=fp 21 [(40,nJ k),(139,N5 k),(140,qK k)] [] k f74 0
theorem Xs (ho:ai o):Tl o 74 (N6 k:Rw S):=al (Sy k) ⟨oh k ho,Xr k ho,rU k ho,trivial⟩ func74 fun t i a_r Z x h=>aA h
def N7:Rw S:=ah Kj xg fun c0 c1 Z=>aa k (Dy k c0 c1) (adc c0 c1 Z)
def Sz:Fx S:=fp 6 [] [] k f147 2
theorem Xt (ho:ai o):Tl o 147 (N7 k:Rw S):=al (Sz k) trivial func147 fun c0 c1 Z x h=>aA h
def N8:Rw S:=ah Zz xg fun c0 c1 Z=>aa k (Dz k c0 c1) (ade c0 c1 Z)
def SA:Fx S:=fp 6 [] [] k f147 2
theorem Xu (ho:ai o):Tl o 147 (N8 k:Rw S):=al (SA k) trivial func147 fun c0 c1 Z x h=>aA h
def N9:Rw S:=ah ZA xn fun i a_r Z=>aa k (Dx k i a_r) (adf Z)
def SB:Fx S:=fp 12 [(147,nG (pW Kj xg) (N7 k) (N8 k))] [] k f76 0
theorem Xv (ho:ai o):Tl o 76 (N9 k:Rw S):=al (SB k) ⟨qF (Xt k ho) (Xu k ho),trivial⟩ func76 fun i a_r Z x h=>aA h
def tJ:Rw S:=ah AB xn fun s i Z=>aa k (kM k s i) (bN Z)
def SC:Fx S:=fp 15 [(232,wC k)] [] k f149 0
theorem vu (ho:ai o):Tl o 149 (tJ k:Rw S):=al (SC k) ⟨zV k ho,trivial⟩ func149 fun s i Z x h=>aA h
def F7:Rw S:=ah nr xn fun f Z=>aa k (uS k f) (tz Z)
def SD:Fx S:=fp 5 [] [] k f151 0
theorem Jf (ho:ai o):Tl o 151 (F7 k:Rw S):=al (SD k) trivial func151 fun f Z x h=>aA h
def F8:Rw S:=ah nq xn fun i Z=>aa k (uY k i) (bN Z)
def SE:Fx S:=fp 7 [(221,BE k),(222,wF k)] [] k f239 0
theorem Jg (ho:ai o):Tl o 239 (F8 k:Rw S):=al (SE k) ⟨D_ k ho,zX k ho,trivial⟩ func239 fun i Z x h=>aA h
def F9:Rw S:=ah Ay xn fun c Z=>aa k (uX k c) (adg Z)
def SG:Fx S:=fp 8 [(269,FW k)] [] k f284 0
theorem Jh (ho:ai o):Tl o 284 (F9 k:Rw S):=al (SG k) ⟨I9 k ho,trivial⟩ func284 fun c Z x h=>aA h
def Oa:Rw S:=ah ZB xn fun l Z=>aa k (zc k l) (tz Z)
def CS:Fx S:=fp 29 [(284,F9 k)] [(3,⟨[(1,ab),(5,bA 100005),(10,ab),(11,ab),(12,ab)],[]⟩,bG 5 11)] k f272 0
def Ly (l:List Cl) (v12:Int) (out5:List Cl):St UU:=⟨[(1,(.func 284 [] [])),(5,(.own 100005 0)),(10,(sC l)),(11,(iI l.length)),(12,(iI v12))],[],[(100005,⟨0,ET.C,out5⟩)],[(100005,.wr)]⟩
section
variable (k:Nat) (l:List Cl) (Z:Out UU->Option S)
theorem Ua: ∀n v12 out5,(CS k).lp Z 3 [] n (Ly l v12 out5)=sD k (tz Z) l n v12 out5:=dQ (xH k (tz Z) l)
end
theorem Xx (ho:ai o):Tl o 272 (Oa k:Rw S):=al (CS k) ⟨Jh k ho,trivial⟩ func272 fun l Z x h=>aq (b:=G8 k (tz Z) (fun v12 out5=>(CS k).lp Z 3 [] k (Ly l v12 out5)) l) (by kernel_rfl) (aq (by simp only [Ua];rfl) (dq h))
def F_:Rw S:=ah nr xn fun f Z=>aa k (uW k f) (cK Z)
def SH:Fx S:=fp 12 [(140,qK k),(146,lU k),(272,Oa k)] [] k f240 0
theorem Ji (ho:ai o):Tl o 240 (F_ k:Rw S):=al (SH k) ⟨rU k ho,mn k ho,Xx k ho,trivial⟩ func240 fun f Z x h=>aA h
def Oc:Rw S:=ah Az xe fun b c0 Z=>aa k (zd k b c0) (adh c0 Z)
def SI:Fx S:=fp 11 [(278,Bu k),(284,F9 k)] [] k f285 1
theorem Xy (ho:ai o):Tl o 285 (Oc k:Rw S):=al (SI k) ⟨D4 k ho,Jh k ho,trivial⟩ func285 fun b c0 Z x h=>aA h
def Od:Rw S:=ah ZC xe fun l c0 Z=>aa k (zb k l c0) (A9 c0 Z)
def CT:Fx S:=fp 29 [(285,Oc k)] [(3,⟨[(1,ab),(5,bA 100005),(10,ab),(11,ab),(12,ab)],[(1000000,[ab,ab])]⟩,bG 5 11)] k f272 1
def Lz (c0:Cl) (l:List Cl) (v12:Int) (out5:List Cl):St UU:=⟨[(1,(.func 285 [] [(pt 1000000)])),(5,(.own 100005 0)),(10,(sC l)),(11,(iI l.length)),(12,(iI v12))],[(1000000,bC c0)],[(100005,⟨0,ET.C,out5⟩)],[(100005,.wr)]⟩
section
variable (k:Nat) (l:List Cl) (c0:Cl) (Z:Out UU->Option S)
theorem Ub: ∀n v12 out5,(CT k).lp Z 3 [] n (Lz c0 l v12 out5)=sA k (A9 c0 Z) c0 l n v12 out5:=dQ (xG k (A9 c0 Z) c0 l)
end
theorem Xz (ho:ai o):Tl o 272 (Od k:Rw S):=al (CT k) ⟨Xy k ho,trivial⟩ func272 fun l c0 Z x h=>aq (b:=G7 k (A9 c0 Z) (fun v12 out5=>(CT k).lp Z 3 [] k (Lz c0 l v12 out5)) l c0) (by kernel_rfl) (aq (by simp only [Ub];rfl) (dq h))
def Oe:Rw S:=ah p8 xn fun f g Z=>aa k (rC k f g) (cK Z)
def CU:Fx S:=fp 25 [(146,lU k),(272,Od k)] [(3,⟨[(1,ab),(6,bA 100006),(9,ab),(10,ab),(11,ab)],[]⟩,bG 5 11)] k f241 0
def LA (g f:List Cl) (v11:Int) (out6:List Cl):St UU:=⟨[(1,(sC g)),(6,(.own 100006 0)),(9,(sC f)),(10,(iI f.length)),(11,(iI v11))],[],[(100006,⟨0,ET.C,out6⟩)],[(100006,.wr)]⟩
section
variable (k:Nat) (f g:List Cl) (Z:Out UU->Option S)
theorem Uc: ∀n v11 out6,(CU k).lp Z 3 [] n (LA g f v11 out6)=sF k (cK Z) g f n v11 out6:=dQ (xK k (cK Z) g f)
end
theorem XA (ho:ai o):Tl o 241 (Oe k:Rw S):=al (CU k) ⟨mn k ho,Xz k ho,trivial⟩ func241 fun f g Z x h=>aq (b:=G_ k (cK Z) (fun v11 out6=>(CU k).lp Z 3 [] k (LA g f v11 out6)) f g) (by kernel_rfl) (aq (by simp only [Uc];rfl) (dq h))
def wG:Rw S:=ah cn xn fun Z=>aa k (m8 k) (tz Z)
def SJ:Fx S:=fp 3 [] [] k f29 0
theorem zY (ho:ai o):Tl o 29 (wG k:Rw S):=al (SJ k) trivial func29 fun Z x h=>aA h
def Of:Rw S:=ah Ay xn fun c Z=>aa k (zm k c) (cK Z)
def uh:Fx S:=fp 43 [(146,lU k),(222,wF k),(314,Gp)] [(3,⟨[(1,ab),(4,bA 100004),(11,ab),(12,ab),(13,ab)],[(1,[ab,ab])]⟩,bG 5 11),(8,⟨[(4,bA 100004),(26,ab),(27,ab),(28,ab)],[]⟩,bG 6 23)] k f283 0
def Fi (c:Cl) (r1:List Int) (v13:Int) (out4:List Cl):St UU:=⟨[(1,(pt 1)),(4,(.own 100004 0)),(11,(qU r1 .none)),(12,(iI r1.length)),(13,(iI v13))],[(1,bC c)],[(100004,⟨0,ET.C,out4⟩)],[(100004,.wr)]⟩
def LD (r5:List Int) (v28:Int) (out4':List Cl):St UU:=⟨[(4,(.own 100004 0)),(26,(qU r5 .none)),(27,(iI r5.length)),(28,(iI v28))],[],[(100004,⟨0,ET.C,out4'⟩)],[(100004,.wr)]⟩
section
variable (k:Nat) (c:Cl) (Z:Out UU->Option S)
theorem Ue (r5): ∀n v28 out4',(uh k).lp Z 8 [] n (LD r5 v28 out4')=qb k (cK Z) r5 n v28 out4':=dQ (xR k (cK Z) r5)
theorem Ud (r1): ∀n v13 out4,(uh k).lp Z 3 [] n (Fi c r1 v13 out4)=sM k (cK Z) c r1 n v13 out4:=dQ (fun own=>ut k (cK Z) c r1 (fun r5 v28 out4'=>qb k (cK Z) r5 k v28 out4') own) rfl (fun _=>rfl) fun r v13 out4=>aq (b:=ut k (cK Z) c r1 (fun r5 v28 out4'=>(uh k).lp Z 8 [] k (LD r5 v28 out4')) (fun v13 out4=>r (Fi c r1 v13 out4)) v13 out4) (by kernel_rfl) (by simp only [Ue])
end
theorem XB (ho:ai o):Tl o 283 (Of k:Rw S):=al (uh k) ⟨mn k ho,zX k ho,agp o ho,trivial⟩ func283 fun c Z x h=>aq (b:=Hh k (cK Z) (fun r1 v13 out4=>(uh k).lp Z 3 [] k (Fi c r1 v13 out4)) c) (by kernel_rfl) (aq (by simp only [Ud];rfl) (dq h))
def Ga:Rw S:=ah p8 xn fun f g Z=>aa k (m9 k f g) (cK Z)
def ui:Fx S:=fp 35 [(146,lU k),(278,Bu k)] [(3,⟨[(1,ab),(6,bA 100006),(11,ab),(12,ab),(13,ab)],[]⟩,bG 5 11),(6,⟨[(1,ab),(6,bA 100006),(8,ab),(11,ab),(12,ab),(13,ab),(17,ab),(18,ab),(19,ab)],[(8,[ab,ab])]⟩,bG 13 3275)] k f236 0
def wa (g f:List Cl) (v13:Int) (out6:List Cl):St UU:=⟨[(1,(sC g)),(6,(.own 100006 0)),(11,(sC f)),(12,(iI f.length)),(13,(iI v13))],[],[(100006,⟨0,ET.C,out6⟩)],[(100006,.wr)]⟩
def LF (x1:Cl) (g f:List Cl) (v13:Int) (v19:Int) (out6':List Cl):St UU:=⟨[(1,(sC g)),(6,(.own 100006 0)),(8,(pt 8)),(11,(sC f)),(12,(iI f.length)),(13,(iI v13)),(17,(sC g)),(18,(iI g.length)),(19,(iI v19))],[(8,bC x1)],[(100006,⟨0,ET.C,out6'⟩)],[(100006,.wr)]⟩
section
variable (k:Nat) (f g:List Cl) (Z:Out UU->Option S)
theorem Ug (x1 v13 Z0): ∀n v19 out6',(ui k).lp Z 6 [Z0] n (LF x1 g f v13 v19 out6')=p_ k (cK Z) (fun v13 out6=>Z0 (wa g f v13 out6)) x1 g f v13 n v19 out6':=dQ (xQ k (cK Z) x1 g f v13 (fun v13 out6=>Z0 (wa g f v13 out6)))
theorem Uf: ∀n v13 out6,(ui k).lp Z 3 [] n (wa g f v13 out6)=oK k (cK Z) g f n v13 out6:=dQ (fun own=>ur k (cK Z) g f (fun x1 v13 v19 out6'=>p_ k (cK Z) own x1 g f v13 k v19 out6') own) rfl (fun _=>rfl) fun r v13 out6=>aq (b:=ur k (cK Z) g f (fun x1 v13 v19 out6'=>(ui k).lp Z 6 [r] k (LF x1 g f v13 v19 out6')) (fun v13 out6=>r (wa g f v13 out6)) v13 out6) (by kernel_rfl) (by simp only [Ug])
end
theorem Jj (ho:ai o):Tl o 236 (Ga k:Rw S):=al (ui k) ⟨mn k ho,D4 k ho,trivial⟩ func236 fun f g Z x h=>aq (b:=Hg k (cK Z) (fun v13 out6=>(ui k).lp Z 3 [] k (wa g f v13 out6)) f g) (by kernel_rfl) (aq (by simp only [Uf];rfl) (dq h))
def Og:Rw S:=ah ZD xn fun a_have c Z=>aa k (zk k a_have c) (cK Z)
def SK:Fx S:=fp 21 [(236,Ga k),(283,Of k)] [] k f282 0
theorem XC (ho:ai o):Tl o 282 (Og k:Rw S):=al (SK k) ⟨Jj k ho,XB k ho,trivial⟩ func282 fun a_have c Z x h=>aA h
def Oi:Rw S:=ah ZF xn fun l a_from Z=>aa k (DI k l a_from) (cK Z)
def CV:Fx S:=fp 33 [(282,Og k)] [(2,dJ [1,2,13,14,15] [],bG 4 5)] k f142 0
def LG (l:List Cl) (v1:List Cl) (v15:Int):St UU:=⟨[(1,(sC v1)),(2,(.func 282 [] [])),(13,(sC l)),(14,(iI l.length)),(15,(iI v15))],[],[],[]⟩
section
variable (k:Nat) (l a_from:List Cl) (Z:Out UU->Option S)
theorem Uh: ∀n v1 v15,(CV k).lp Z 2 [] n (LG l v1 v15)=sK k (cK Z) l n v1 v15:=dQ (xO k (cK Z) l)
end
theorem XE (ho:ai o):Tl o 142 (Oi k:Rw S):=al (CV k) ⟨XC k ho,trivial⟩ func142 fun l a_from Z x h=>aq (b:=He k (cK Z) (fun v1 v15=>(CV k).lp Z 2 [] k (LG l v1 v15)) l a_from) (by kernel_rfl) (aq (by simp only [Uh];rfl) (dq h))
def Gb:Rw S:=ah nr xn fun f Z=>aa k (rE k f) (cK Z)
def SM:Fx S:=fp 9 [(29,wG k),(142,Oi k)] [] k f237 0
theorem Jk (ho:ai o):Tl o 237 (Gb k:Rw S):=al (SM k) ⟨zY k ho,XE k ho,trivial⟩ func237 fun f Z x h=>aA h
def Oj:Rw S:=ah nr xn fun f Z=>aa k (zg k f) (cK Z)
def SN:Fx S:=fp 15 [(141,Bz k),(237,Gb k)] [] k f286 0
theorem XF (ho:ai o):Tl o 286 (Oj k:Rw S):=al (SN k) ⟨D8 k ho,Jk k ho,trivial⟩ func286 fun f Z x h=>aA h
def Ok:Rw S:=ah nr xn fun f Z=>aa k (y_ k f) (cK Z)
def SO:Fx S:=fp 18 [(240,F_ k),(286,Oj k)] [] k f242 0
theorem XG (ho:ai o):Tl o 242 (Ok k:Rw S):=al (SO k) ⟨Ji k ho,XF k ho,trivial⟩ func242 fun f Z x h=>aA h
def Ol:Rw S:=ah Kk xn fun f i a_r Z=>aa k (za k f i a_r) (cK Z)
def uj:Fx S:=fp 92 [(140,qK k),(149,tJ k),(205,tG k),(233,Bw k),(239,F8 k),(240,F_ k),(241,Oe k),(242,Ok k),(243,F5 k)] [(5,dJ [1,2,8,27,28,29] [],bG 6 23),(1000018,dJ [1,2,8,11,13,27,28,29] [],bG 16 63895)] k f153 0
def wc (i:Int) (a_r f:List Cl) (v29:Int) (v8:List Cl):St UU:=⟨[(1,(iI i)),(2,(sC a_r)),(8,(sC v8)),(27,(sC f)),(28,(iI f.length)),(29,(iI v29))],[],[],[]⟩
def LH (i:Int) (a_r f:List Cl) (v29:Int) (v8:List Cl) (g11:List Cl) (v13:Int):St UU:=⟨[(1,(iI i)),(2,(sC a_r)),(8,(sC v8)),(11,(sC g11)),(13,(iI v13)),(27,(sC f)),(28,(iI f.length)),(29,(iI v29))],[],[],[]⟩
section
variable (k:Nat) (f:List Cl) (i:Int) (a_r:List Cl) (Z:Out UU->Option S)
theorem Uj (v29 v8 Z0): ∀n g11 v13,(uj k).jn Z 1000018 [Z0] n (LH i a_r f v29 v8 g11 v13)=sz k (cK Z) (fun v29 v8=>Z0 (wc i a_r f v29 v8)) i a_r f v29 v8 n g11 v13:=JZ (xF k (cK Z) i a_r f v29 v8 (fun v29 v8=>Z0 (wc i a_r f v29 v8)))
theorem Ui: ∀n v29 v8,(uj k).lp Z 5 [] n (wc i a_r f v29 v8)=oJ k (cK Z) i a_r f n v29 v8:=dQ (fun own=>uq k (cK Z) i a_r f (fun v29 v8 g11 v13=>sz k (cK Z) own i a_r f v29 v8 k g11 v13) own) rfl (fun _=>rfl) fun r v29 v8=>aq (b:=uq k (cK Z) i a_r f (fun v29 v8 g11 v13=>(uj k).jn Z 1000018 [r] k (LH i a_r f v29 v8 g11 v13)) (fun v29 v8=>r (wc i a_r f v29 v8)) v29 v8) (by kernel_rfl) (by simp only [Uj])
end
theorem XH (ho:ai o):Tl o 153 (Ol k:Rw S):=al (uj k) ⟨rU k ho,vu k ho,vr k ho,D6 k ho,Jg k ho,Ji k ho,XA k ho,XG k ho,Jd k ho,trivial⟩ func153 fun f i a_r Z x h=>aq (b:=G6 k (cK Z) (fun v29 v8=>(uj k).lp Z 5 [] k (wc i a_r f v29 v8)) f i a_r) (by kernel_rfl) (aq (by simp only [Ui];rfl) (dq h))
def Gc:Rw S:=ah EI ahp fun f depth c0 c1 Z=>aa k (uT k f depth c0 c1) (adi c0 c1 Z)
def SP:Fx S:=fp 38 [(75,tI k),(149,tJ k),(150,Bx k),(151,F7 k),(153,Ol k)] [] k f148 3
theorem Jl (ho:ai o):Tl o 148 (Gc k:Rw S):=al (SP k) ⟨vt k ho,vu k ho,D7 k ho,Jf k ho,XH k ho,trivial⟩ func148 fun f depth c0 c1 Z x h=>aA h
def Om:Rw S:=ah nq xn fun i Z=>aa k (zf k i) (cK Z)
def SQ:Fx S:=fp 12 [(221,BE k),(222,wF k)] [] k f234 0
theorem XI (ho:ai o):Tl o 234 (Om k:Rw S):=al (SQ k) ⟨D_ k ho,zX k ho,trivial⟩ func234 fun i Z x h=>aA h
def On:Rw S:=ah p8 xn fun f g Z=>aa k (pO k f g) (cK Z)
def SR:Fx S:=fp 14 [(146,lU k)] [] k f238 0
theorem XJ (ho:ai o):Tl o 238 (On k:Rw S):=al (SR k) ⟨mn k ho,trivial⟩ func238 fun f g Z x h=>aA h
def Oo:Rw S:=ah ZG xg fun a_have c c0 c1 Z=>aa k (zi k a_have c c0 c1) (ww c0 c1 Z)
def SS:Fx S:=fp 63 [(149,tJ k),(233,Bw k),(236,Ga k),(237,Gb k),(238,On k)] [] k f235 2
theorem XK (ho:ai o):Tl o 235 (Oo k:Rw S):=al (SS k) ⟨vu k ho,D6 k ho,Jj k ho,Jk k ho,XJ k ho,trivial⟩ func235 fun a_have c c0 c1 Z x h=>aA h
def Oq:Rw S:=ah ZH xg fun l a_from c0 c1 Z=>aa k (DH k l a_from c0 c1) (ww c0 c1 Z)
def CW:Fx S:=fp 33 [(235,Oo k)] [(2,dJ [1,2,13,14,15] [(1000000,1),(1000001,1)],bG 4 5)] k f142 2
def LI (c0:Int) (c1 l:List Cl) (v1:List Cl) (v15:Int):St UU:=⟨[(1,(sC v1)),(2,(.func 235 [] [(pt 1000000),(pt 1000001)])),(13,(sC l)),(14,(iI l.length)),(15,(iI v15))],[(1000000,bI c0),(1000001,.cells [(sC c1)])],[],[]⟩
section
variable (k:Nat) (l a_from:List Cl) (c0:Int) (c1:List Cl) (Z:Out UU->Option S)
theorem Uk: ∀n v1 v15,(CW k).lp Z 2 [] n (LI c0 c1 l v1 v15)=sJ k (ww c0 c1 Z) c0 c1 l n v1 v15:=dQ (xN k (ww c0 c1 Z) c0 c1 l)
end
theorem XL (ho:ai o):Tl o 142 (Oq k:Rw S):=al (CW k) ⟨XK k ho,trivial⟩ func142 fun l a_from c0 c1 Z x h=>aq (b:=Hc k (ww c0 c1 Z) (fun v1 v15=>(CW k).lp Z 2 [] k (LI c0 c1 l v1 v15)) l a_from c0 c1) (by kernel_rfl) (aq (by simp only [Uk];rfl) (dq h))
def MA:Rw S:=ah Kk xn fun f i a_r Z=>aa k (zh k f i a_r) (cK Z)
def QJ:Fx S:=fp 32 [(141,Bz k),(142,Oq k),(143,BB k),(234,Om k)] [] k f152 0
theorem VQ (ho:ai o):Tl o 152 (MA k:Rw S):=al (QJ k) ⟨D8 k ho,XL k ho,D9 k ho,XI k ho,trivial⟩ func152 fun f i a_r Z x h=>aA h
def MB:Rw S:=ah EI Qz fun f depth c0 c1 Z=>aa k (yX k f depth c0 c1) (adj c0 c1 Z)
def QK:Fx S:=fp 38 [(75,tI k),(149,tJ k),(150,Bx k),(151,F7 k),(152,MA k)] [] k f148 3
theorem VR (ho:ai o):Tl o 148 (MB k:Rw S):=al (QK k) ⟨vt k ho,vu k ho,D7 k ho,Jf k ho,VQ k ho,trivial⟩ func148 fun f depth c0 c1 Z x h=>aA h
def MC:Rw S:=ah EJ H8 fun t depth c0 c1 Z=>aa k (yY k t depth c0 c1) (adk c0 c1 Z)
def QL:Fx S:=fp 27 [(148,nG (pW EI Qz) (MB k) (Gc k))] [] k f154 4
theorem VS (ho:ai o):Tl o 154 (MC k:Rw S):=al (QL k) ⟨qF (VR k ho) (Jl k ho),trivial⟩ func154 fun t depth c0 c1 Z x h=>aA h
def FK:Rw S:=ah Kl ahq fun i c0 Z=>aa k (uU k i c0) (adl c0 Z)
def QM:Fx S:=fp 14 [(49,qJ k)] [] k f156 1
theorem IY (ho:ai o):Tl o 156 (FK k:Rw S):=al (QM k) ⟨rT k ho,trivial⟩ func156 fun i c0 Z x h=>aA h
def FL:Rw S:=ah Kl eo fun p c0 Z=>aa k (uV k p c0) (adm c0 Z)
def QN:Fx S:=fp 5 [] [] k f157 1
theorem IZ (ho:ai o):Tl o 157 (FL k:Rw S):=al (QN k) trivial func157 fun p c0 Z x h=>aA h
def tA (hd:eZ S):Rw S:=ah EJ H8 fun t depth c0 c1 Z=>hd t depth c0 c1 (A_ c0 c1 Z)
def MD (hd:eZ S) (k:Nat):Rw S:=ah Km QD fun l depth c0 c1 c4 Z=>aa k (DC hd k l depth c0 c1 c4) (Ba c0 c1 c4 Z)
def Ci (hd:eZ S) (k:Nat):Fx S:=fp 42 [(77,tA hd),(157,FL k)] [(3,⟨[(2,ab),(3,ab),(4,ab),(10,bA 100010),(15,ab),(16,ab),(17,ab)],[(4,[ab,ab]),(1000000,[ab]),(1000001,[ab]),(1000002,[ab]),(1000003,[ab]),(1000004,[ab])]⟩,bG 5 11)] k f155 5
def KM (c0:Int) (c1:List Cl) (c4:Int) (l:List Tm) (depth:Int) (out10:List Tm) (v17:Int):St UU:=⟨[(2,(iI depth)),(3,(.func 157 [] [(pt 1000004)])),(4,(pt 4)),(10,(.own 100010 0)),(15,(sT l)),(16,(iI l.length)),(17,(iI v17))],[(4,.cells [(.func 148 [] [(pt 1000000),(pt 1000001),(pt 1000002)]),(.func 148 [] [(pt 1000000),(pt 1000001),(pt 1000003)])]),(1000000,bI c0),(1000001,.cells [(sC c1)]),(1000002,.cells [(.func 152 [] [])]),(1000003,.cells [(.func 153 [] [])]),(1000004,bI c4)],[(100010,⟨0,ET.T,out10⟩)],[(100010,.wr)]⟩
section
variable (hd:eZ S) (k:Nat) (l:List Tm) (depth c0:Int) (c1:List Cl) (c4:Int) (Z:Out UU->Option S)
theorem Ta: ∀n out10 v17,(Ci hd k).lp Z 3 [] n (KM c0 c1 c4 l depth out10 v17)=oH hd k (Ba c0 c1 c4 Z) c0 c1 c4 l depth n out10 v17:=dQ (xA hd k (Ba c0 c1 c4 Z) c0 c1 c4 l depth)
end
theorem VT (o:Obj) (ho:ai o) (hd:eZ S) (Hd:Tl o 77 (tA hd)) (k:Nat):Tl o 155 (MD hd k:Rw S):=al (Ci hd k) ⟨Hd,IZ k ho,trivial⟩ func155 fun l depth c0 c1 c4 Z x h=>aq (b:=G2 hd k (Ba c0 c1 c4 Z) (fun out10 v17=>(Ci hd k).lp Z 3 [] k (KM c0 c1 c4 l depth out10 v17)) l depth c0 c1 c4) (by kernel_rfl) (aq (by simp only [Ta];rfl) (dq h))
def ME (hd:eZ S) (k:Nat):Rw S:=ah ZI ahr fun l depth c0 c1 c4 Z=>aa k (DD hd k l depth c0 c1 c4) (Bb c0 c1 c4 Z)
def Cj (hd:eZ S) (k:Nat):Fx S:=fp 42 [(77,tA hd),(156,FK k)] [(3,⟨[(2,ab),(3,ab),(4,ab),(10,bA 100010),(15,ab),(16,ab),(17,ab)],[(4,[ab,ab]),(1000000,[ab]),(1000001,[ab]),(1000002,[ab]),(1000003,[ab]),(1000004,[ab,ab,ab,ab,ab,ab])]⟩,bG 5 11)] k f155 5
def KN (c0:Int) (c1:List Cl) (c4:Tm) (l:List Tm) (depth:Int) (out10:List Tm) (v17:Int):St UU:=⟨[(2,(iI depth)),(3,(.func 156 [] [(pt 1000004)])),(4,(pt 4)),(10,(.own 100010 0)),(15,(sT l)),(16,(iI l.length)),(17,(iI v17))],[(4,.cells [(.func 148 [] [(pt 1000000),(pt 1000001),(pt 1000002)]),(.func 148 [] [(pt 1000000),(pt 1000001),(pt 1000003)])]),(1000000,bI c0),(1000001,.cells [(sC c1)]),(1000002,.cells [(.func 152 [] [])]),(1000003,.cells [(.func 153 [] [])]),(1000004,bT c4)],[(100010,⟨0,ET.T,out10⟩)],[(100010,.wr)]⟩
section
variable (hd:eZ S) (k:Nat) (l:List Tm) (depth c0:Int) (c1:List Cl) (c4:Tm) (Z:Out UU->Option S)
theorem Tb: ∀n out10 v17,(Cj hd k).lp Z 3 [] n (KN c0 c1 c4 l depth out10 v17)=oI hd k (Bb c0 c1 c4 Z) c0 c1 c4 l depth n out10 v17:=dQ (xB hd k (Bb c0 c1 c4 Z) c0 c1 c4 l depth)
end
theorem VU (o:Obj) (ho:ai o) (hd:eZ S) (Hd:Tl o 77 (tA hd)) (k:Nat):Tl o 155 (ME hd k:Rw S):=al (Cj hd k) ⟨Hd,IY k ho,trivial⟩ func155 fun l depth c0 c1 c4 Z x h=>aq (b:=G3 hd k (Bb c0 c1 c4 Z) (fun out10 v17=>(Cj hd k).lp Z 3 [] k (KN c0 c1 c4 l depth out10 v17)) l depth c0 c1 c4) (by kernel_rfl) (aq (by simp only [Tb];rfl) (dq h))
def Ch (hd:eZ S) (k:Nat):Fx S:=fp 98 [(148,Gc k),(154,MC k),(155,nG (pW Km QD) (MD hd k) (ME hd k))] [(13,⟨[(2,ab),(3,ab),(6,ab),(8,ab),(10,ab),(53,ab),(54,ab),(55,ab)],[(3,[ab,ab]),(6,[ab,ab,ab,bA 200387,bA 200388,bA 200389]),(8,[ab,ab,ab,ab,ab,bA 200517]),(10,[ab]),(1000000,[ab]),(1000001,[ab]),(1000002,[ab]),(1000003,[ab])]⟩,bG 11 767)] k f77 4
def KL (c0:Int) (c1:List Cl) (t:Tm) (r1:List Cl×Int) (r2:List Tm×Int) (depth:Int) (ei:Int) (b8_5:List (Br Tm)) (v55:Int):St UU:=⟨[(2,(iI depth)),(3,(pt 3)),(6,(pt 6)),(8,(pt 8)),(10,(pt 10)),(53,(sB t.sys)),(54,(iI t.sys.length)),(55,(iI v55))],[(3,.cells [(.func 148 [] [(pt 1000000),(pt 1000001),(pt 1000002)]),(.func 148 [] [(pt 1000000),(pt 1000001),(pt 1000003)])]),(6,.cells [(iI 0),(iI 0),lb,(.own 200387 0),(.own 200388 0),(.own 200389 0)]),(8,.cells [(iI t.kind),(iI t.n),(.str t.name),(sC r1.1),(sT r2.1),(.own 200517 0)]),(10,bI ei),(1000000,bI c0),(1000001,.cells [(sC c1)]),(1000002,.cells [(.func 152 [] [])]),(1000003,.cells [(.func 153 [] [])])],[(200517,⟨0,ET.B,b8_5⟩),(200389,jF),(200388,kf),(200387,jk)],[(200517,.wr),(200389,.wr),(200388,.wr),(200387,.wr)]⟩
section
variable (hd:eZ S) (k:Nat) (t:Tm) (depth c0:Int) (c1:List Cl) (Z:Out UU->Option S)
theorem S_ (r1 r2): ∀n ei b8_5 v55,(Ch hd k).lp Z 13 [] n (KL c0 c1 t r1 r2 depth ei b8_5 v55)=kj hd k (A_ c0 c1 Z) c0 c1 t r1 r2 depth n ei b8_5 v55:=ko (xD hd k (A_ c0 c1 Z) c0 c1 t r1 r2 depth)
end
theorem Et (o:Obj) (ho:ai o): ∀k:Nat,Tl o 77 (tA (hY k:eZ S))
 |0=>mJ fun t depth c0 c1 Z x h=>by cases h
 |k+1=>al (Ch (hY k) k) ⟨Jl k ho,VS k ho,qF (VT o ho (hY k) (Et o ho k) k) (VU o ho (hY k) (Et o ho k) k),trivial⟩ func77 fun t depth c0 c1 Z x h=>aq (b:=G4 (hY k) k (A_ c0 c1 Z) (fun r1 r2 ei b8_5 v55=>(Ch (hY k) k).lp Z 13 [] k (KL c0 c1 t r1 r2 depth ei b8_5 v55)) t depth c0 c1) (by kernel_rfl) (aq (by simp only [S_];rfl) h)
def MF:Rw S:=ah nq xn fun i Z=>aa k (Dw k i) (adn Z)
def QO:Fx S:=fp 8 [] [] k f78 0
theorem VX (ho:ai o):Tl o 78 (MF k:Rw S):=al (QO k) trivial func78 fun i Z x h=>aA h
def MG:Rw S:=ah AB xn fun s i Z=>aa k (rL k s i) (oU Z)
def QP:Fx S:=fp 24 [(232,wC k),(244,FZ k)] [] k f159 0
theorem VY (ho:ai o):Tl o 159 (MG k:Rw S):=al (QP k) ⟨zV k ho,Ja k ho,trivial⟩ func159 fun s i Z x h=>aA h
def FM:Rw S:=ah ZJ eo fun f depth c0 Z=>aa k (rB k f depth c0) (wx c0 Z)
def Ck:Fx S:=fp 37 [(146,lU k),(159,MG k)] [(3,⟨[(1,ab),(2,ab),(7,bA 100007),(10,ab),(11,ab),(12,ab)],[(1000000,[ab])]⟩,bG 5 11)] k f158 1
def KO (c0 depth:Int) (f:List Cl) (v12:Int) (out7:List Cl):St UU:=⟨[(1,(iI depth)),(2,(pt 1000000)),(7,(.own 100007 0)),(10,(sC f)),(11,(iI f.length)),(12,(iI v12))],[(1000000,bI c0)],[(100007,⟨0,ET.C,out7⟩)],[(100007,.wr)]⟩
section
variable (k:Nat) (f:List Cl) (depth c0:Int) (Z:Out UU->Option S)
theorem Tc: ∀n v12 out7,(Ck k).lp Z 3 [] n (KO c0 depth f v12 out7)=sx k (wx c0 Z) c0 depth f n v12 out7:=dQ (xx k (wx c0 Z) c0 depth f)
end
theorem I0 (ho:ai o):Tl o 158 (FM k:Rw S):=al (Ck k) ⟨mn k ho,VY k ho,trivial⟩ func158 fun f depth c0 Z x h=>aq (b:=GX k (wx c0 Z) (fun v12 out7=>(Ck k).lp Z 3 [] k (KO c0 depth f v12 out7)) f depth c0) (by kernel_rfl) (aq (by simp only [Tc];rfl) (dq h))
def MI:Rw S:=ah Ko eo fun t depth c0 Z=>aa k (yZ k t depth c0) (wx c0 Z)
def QR:Fx S:=fp 27 [(158,FM k)] [] k f154 1
theorem V0 (ho:ai o):Tl o 154 (MI k:Rw S):=al (QR k) ⟨I0 k ho,trivial⟩ func154 fun t depth c0 Z x h=>aA h
def tB (hd:e_ S):Rw S:=ah Ko eo fun t depth c0 Z=>hd t depth c0 (Bc c0 Z)
def MJ (hd:e_ S) (k:Nat):Rw S:=ah Kp Cc fun l depth c0 c1 Z=>aa k (DA hd k l depth c0 c1) (Bd c0 c1 Z)
def Cn (hd:e_ S) (k:Nat):Fx S:=fp 42 [(77,tB hd),(157,FL k)] [(3,⟨[(2,ab),(3,ab),(4,ab),(10,bA 100010),(15,ab),(16,ab),(17,ab)],[(4,[ab,ab]),(1000000,[ab]),(1000001,[ab])]⟩,bG 5 11)] k f155 2
def KQ (c0 c1:Int) (l:List Tm) (depth:Int) (out10:List Tm) (v17:Int):St UU:=⟨[(2,(iI depth)),(3,(.func 157 [] [(pt 1000001)])),(4,(pt 4)),(10,(.own 100010 0)),(15,(sT l)),(16,(iI l.length)),(17,(iI v17))],[(4,.cells [(.func 158 [] [(pt 1000000)]),(.func 158 [] [(pt 1000000)])]),(1000000,bI c0),(1000001,bI c1)],[(100010,⟨0,ET.T,out10⟩)],[(100010,.wr)]⟩
section
variable (hd:e_ S) (k:Nat) (l:List Tm) (depth c0 c1:Int) (Z:Out UU->Option S)
theorem Te: ∀n out10 v17,(Cn hd k).lp Z 3 [] n (KQ c0 c1 l depth out10 v17)=oF hd k (Bd c0 c1 Z) c0 c1 l depth n out10 v17:=dQ (xy hd k (Bd c0 c1 Z) c0 c1 l depth)
end
theorem V1 (o:Obj) (ho:ai o) (hd:e_ S) (Hd:Tl o 77 (tB hd)) (k:Nat):Tl o 155 (MJ hd k:Rw S):=al (Cn hd k) ⟨Hd,IZ k ho,trivial⟩ func155 fun l depth c0 c1 Z x h=>aq (b:=GY hd k (Bd c0 c1 Z) (fun out10 v17=>(Cn hd k).lp Z 3 [] k (KQ c0 c1 l depth out10 v17)) l depth c0 c1) (by kernel_rfl) (aq (by simp only [Te];rfl) (dq h))
def MK (hd:e_ S) (k:Nat):Rw S:=ah ZK ahs fun l depth c0 c1 Z=>aa k (DB hd k l depth c0 c1) (Be c0 c1 Z)
def Co (hd:e_ S) (k:Nat):Fx S:=fp 42 [(77,tB hd),(156,FK k)] [(3,⟨[(2,ab),(3,ab),(4,ab),(10,bA 100010),(15,ab),(16,ab),(17,ab)],[(4,[ab,ab]),(1000000,[ab]),(1000001,[ab,ab,ab,ab,ab,ab])]⟩,bG 5 11)] k f155 2
def KR (c0:Int) (c1:Tm) (l:List Tm) (depth:Int) (out10:List Tm) (v17:Int):St UU:=⟨[(2,(iI depth)),(3,(.func 156 [] [(pt 1000001)])),(4,(pt 4)),(10,(.own 100010 0)),(15,(sT l)),(16,(iI l.length)),(17,(iI v17))],[(4,.cells [(.func 158 [] [(pt 1000000)]),(.func 158 [] [(pt 1000000)])]),(1000000,bI c0),(1000001,bT c1)],[(100010,⟨0,ET.T,out10⟩)],[(100010,.wr)]⟩
section
variable (hd:e_ S) (k:Nat) (l:List Tm) (depth c0:Int) (c1:Tm) (Z:Out UU->Option S)
theorem Tf: ∀n out10 v17,(Co hd k).lp Z 3 [] n (KR c0 c1 l depth out10 v17)=oG hd k (Be c0 c1 Z) c0 c1 l depth n out10 v17:=dQ (xz hd k (Be c0 c1 Z) c0 c1 l depth)
end
theorem V2 (o:Obj) (ho:ai o) (hd:e_ S) (Hd:Tl o 77 (tB hd)) (k:Nat):Tl o 155 (MK hd k:Rw S):=al (Co hd k) ⟨Hd,IY k ho,trivial⟩ func155 fun l depth c0 c1 Z x h=>aq (b:=GZ hd k (Be c0 c1 Z) (fun out10 v17=>(Co hd k).lp Z 3 [] k (KR c0 c1 l depth out10 v17)) l depth c0 c1) (by kernel_rfl) (aq (by simp only [Tf];rfl) (dq h))
def Cm (hd:e_ S) (k:Nat):Fx S:=fp 98 [(154,MI k),(155,nG (pW Kp Cc) (MJ hd k) (MK hd k)),(158,FM k)] [(13,⟨[(2,ab),(3,ab),(6,ab),(8,ab),(10,ab),(53,ab),(54,ab),(55,ab)],[(3,[ab,ab]),(6,[ab,ab,ab,bA 200387,bA 200388,bA 200389]),(8,[ab,ab,ab,ab,ab,bA 200517]),(10,[ab]),(1000000,[ab])]⟩,bG 11 767)] k f77 1
def KP (c0:Int) (t:Tm) (r1:List Cl×Int) (r2:List Tm×Int) (depth:Int) (ei:Int) (b8_5:List (Br Tm)) (v55:Int):St UU:=⟨[(2,(iI depth)),(3,(pt 3)),(6,(pt 6)),(8,(pt 8)),(10,(pt 10)),(53,(sB t.sys)),(54,(iI t.sys.length)),(55,(iI v55))],[(3,.cells [(.func 158 [] [(pt 1000000)]),(.func 158 [] [(pt 1000000)])]),(6,.cells [(iI 0),(iI 0),lb,(.own 200387 0),(.own 200388 0),(.own 200389 0)]),(8,.cells [(iI t.kind),(iI t.n),(.str t.name),(sC r1.1),(sT r2.1),(.own 200517 0)]),(10,bI ei),(1000000,bI c0)],[(200517,⟨0,ET.B,b8_5⟩),(200389,jF),(200388,kf),(200387,jk)],[(200517,.wr),(200389,.wr),(200388,.wr),(200387,.wr)]⟩
section
variable (hd:e_ S) (k:Nat) (t:Tm) (depth c0:Int) (Z:Out UU->Option S)
theorem Td (r1 r2): ∀n ei b8_5 v55,(Cm hd k).lp Z 13 [] n (KP c0 t r1 r2 depth ei b8_5 v55)=kl hd k (Bc c0 Z) c0 t r1 r2 depth n ei b8_5 v55:=ko (xE hd k (Bc c0 Z) c0 t r1 r2 depth)
end
theorem Eu (o:Obj) (ho:ai o): ∀k:Nat,Tl o 77 (tB (gW k:e_ S))
 |0=>mJ fun t depth c0 Z x h=>by cases h
 |k+1=>al (Cm (gW k) k) ⟨V0 k ho,qF (V1 o ho (gW k) (Eu o ho k) k) (V2 o ho (gW k) (Eu o ho k) k),I0 k ho,trivial⟩ func77 fun t depth c0 Z x h=>aq (b:=G5 (gW k) k (Bc c0 Z) (fun r1 r2 ei b8_5 v55=>(Cm (gW k) k).lp Z 13 [] k (KP c0 t r1 r2 depth ei b8_5 v55)) t depth c0) (by kernel_rfl) (aq (by simp only [Td];rfl) h)
def tC:Rw S:=ah Ki xn fun t i a_r Z=>aa k (lu k t i a_r) (jP Z)
def QS:Fx S:=fp 48 [(74,N6 k),(75,tI k),(76,N9 k),(77,nG (pW EJ H8) (tA (hY k)) (tB (gW k))),(78,MF k)] [] k f28 0
theorem vn (ho:ai o):Tl o 28 (tC k:Rw S):=al (QS k) ⟨Xs k ho,vt k ho,Xv k ho,qF (Et o ho k) (Eu o ho k),VX k ho,trivial⟩ func28 fun t i a_r Z x h=>aA h
def Bp:Rw S:=ah Kr eo fun line a_r c0 Z=>aa k (ls k line a_r c0) (lS Z)
def QU:Fx S:=fp 44 [(28,tC k),(35,N3 k),(210,nN k),(270,nM k)] [] k f212 1
theorem DY (ho:ai o):Tl o 212 (Bp k:Rw S):=al (QU k) ⟨vn k ho,Xp k ho,om k ho,ol k ho,trivial⟩ func212 fun line a_r c0 Z x h=>aA h
def Bq:Rw S:=ah Kg eo fun t vars dims c0 Z=>aa k (gV k t vars dims c0) (lS Z)
def QV:Fx S:=fp 30 [(119,F0 k),(210,nN k),(270,nM k)] [] k f209 1
theorem DZ (ho:ai o):Tl o 209 (Bq k:Rw S):=al (QV k) ⟨Jb k ho,om k ho,ol k ho,trivial⟩ func209 fun t vars dims c0 Z x h=>aA h
def tD:Rw S:=ah EF xn fun kind kids Z=>aa k (eJ k kind kids) (AZ Z)
def QW:Fx S:=fx 8 (fun _=>[]) (fun _=>false) [] [] k f186 true [] 0
theorem vo (ho:ai o):Tl o 186 (tD k:Rw S):=al (QW k) trivial func186 fun kind kids Z x h=>aA h
def wz:Rw S:=ah vJ eo fun t c0 Z=>aa k (fV k t c0) (ado Z)
def QX:Fx S:=fp 28 [(40,nJ k),(210,nN k),(270,nM k)] [] k f213 1
theorem zT (ho:ai o):Tl o 213 (wz k:Rw S):=al (QX k) ⟨oh k ho,om k ho,ol k ho,trivial⟩ func213 fun t c0 Z x h=>aA h
def MM:Rw S:=ah ZL xn fun line phi a a_end a_r Z=>aa k (yP k line phi a a_end a_r) (jP Z)
def QZ:Fx S:=fp 49 [(186,tD k),(205,tG k),(207,wE k),(209,Bq k),(211,F1 k),(212,Bp k),(213,wz k),(270,nM k),(302,NX k)] [] k f274 0
theorem V4 (ho:ai o):Tl o 274 (MM k:Rw S):=al (QZ k) ⟨vo k ho,vr k ho,zW k ho,DZ k ho,Jc k ho,DY k ho,zT k ho,ol k ho,Xm k ho,trivial⟩ func274 fun line phi a a_end a_r Z x h=>aA h
section
variable (k:Nat) (t:Tm) (numbers:List Int) (c0:Int) (c1:Tm) (c2:Int) (Z:Out UU->Option S)
end
section
variable (hd:S6 S) (k:Nat) (t:Tm) (c0:Int) (Z:Out UU->Option S)
end
section
variable (hd:SV S) (k:Nat) (t:Tm) (a_n:Int) (Z:Out UU->Option S)
end
section
variable (hd:SW S) (k:Nat) (t:Tm) (a_n:Int) (u:Tm) (vars dims:Int) (Z:Out UU->Option S)
end
section
variable (hd:S5 S) (k:Nat) (t:Tm) (c0:Int) (Z:Out UU->Option S)
end
def FO:Rw S:=ah Kr eo fun t a_r c0 Z=>aa k (ve k t a_r c0) (lS Z)
def Q0:Fx S:=fp 18 [(28,tC k),(93,nK k),(94,nL k)] [] k f130 1
theorem I1 (ho:ai o):Tl o 130 (FO k:Rw S):=al (Q0 k) ⟨vn k ho,oi k ho,oj k ho,trivial⟩ func130 fun t a_r c0 Z x h=>aA h
def nI:Rw S:=ah EF xn fun kind kids Z=>aa k (eK k kind kids) (AZ Z)
def Q1:Fx S:=fx 8 (fun _=>[]) (fun _=>false) [] [] k f58 true [] 0
theorem og (ho:ai o):Tl o 58 (nI k:Rw S):=al (Q1 k) trivial func58 fun kind kids Z x h=>aA h
def Bt:Rw S:=ah ZP xn fun kind a_r kids Z=>aa k (pS k kind a_r kids) (adp Z)
def Q4:Fx S:=fx 11 (fun _=>[]) (fun _=>false) [] [] k f73 true [] 0
theorem D0 (ho:ai o):Tl o 73 (Bt k:Rw S):=al (Q4 k) trivial func73 fun kind a_r kids Z x h=>aA h
def MP:Rw S:=ah ZM xn fun line phi a Z=>aa k (yO k line phi a) (jP Z)
def Q5:Fx S:=fp 17 [(274,MM k)] [] k f219 0
theorem V7 (ho:ai o):Tl o 219 (MP k:Rw S):=al (Q5 k) ⟨V4 k ho,trivial⟩ func219 fun line phi a Z x h=>aA h
def MQ:Rw S:=ah ZN eo fun line phi a c0 Z=>aa k (zI k line phi a c0) (lS Z)
def Q6:Fx S:=fp 21 [(93,nK k),(94,nL k),(219,MP k)] [] k f134 1
theorem V8 (ho:ai o):Tl o 134 (MQ k:Rw S):=al (Q6 k) ⟨oi k ho,oj k ho,V7 k ho,trivial⟩ func134 fun line phi a c0 Z x h=>aA h
def k_:Rw S:=ah ZQ xn fun f kids Z=>aa k (eX k f kids) (Mu Z)
def Q8:Fx S:=fp 8 [] [] k f59 0
theorem ly (ho:ai o):Tl o 59 (k_ k:Rw S):=al (Q8 k) trivial func59 fun f kids Z x h=>aA h
def FQ:Rw S:=ah ZR xn fun sys Z=>aa k (rz k sys) (adr Z)
def Q9:Fx S:=fx 8 (fun _=>[]) (fun _=>false) [(186,tD k)] [] k f208 true [] 0
theorem I3 (ho:ai o):Tl o 208 (FQ k:Rw S):=al (Q9 k) ⟨vo k ho,trivial⟩ func208 fun sys Z x h=>aA h
def MS:Rw S:=ah vJ eo fun line c0 Z=>aa k (yQ k line c0) (lS Z)
def Q_:Fx S:=fp 25 [(28,tC k),(29,wG k),(210,nN k),(270,nM k)] [] k f260 1
theorem V9 (ho:ai o):Tl o 260 (MS k:Rw S):=al (Q_ k) ⟨vn k ho,zY k ho,om k ho,ol k ho,trivial⟩ func260 fun line c0 Z x h=>aA h
def MT:Rw S:=ah Ks xn fun line a sys Z=>aa k (yL k line a sys) (jP Z)
def Cp:Fx S:=fp 78 [(41,oV (fF k)),(186,tD k),(207,wE k),(208,FQ k),(210,nN k),(212,Bp k),(213,wz k),(260,MS k)] [(5,⟨[(3,ab),(6,ab),(8,ab),(9,ab),(36,ab),(37,ab),(38,ab)],[(3,[ab,ab,ab,ab,ab,ab]),(6,[ab,ab,ab,bA 200387,bA 200388,bA 200389]),(9,[ab,ab,ab,bA 200579,ab,bA 200581]),(19000,[ab])]⟩,bG 7 47)] k f183 0
def KT (r3:Tm) (r9:Int×Int×ByteArray×List Tm) (r6:Tm) (d_:Int) (b9_5:List (Br Tm)) (v38:Int):St UU:=⟨[(3,(pt 3)),(6,(pt 6)),(8,(pt 19000)),(9,(pt 9)),(36,(sB r6.sys)),(37,(iI r6.sys.length)),(38,(iI v38))],[(3,bT r3),(6,.cells [(iI 0),(iI 0),lb,(.own 200387 0),(.own 200388 0),(.own 200389 0)]),(9,.cells [(iI r9.1),(iI r9.2.1),(.str r9.2.2.1),(.own 200579 0),(sT r9.2.2.2),(.own 200581 0)]),(19000,bI d_)],[(200581,⟨0,ET.B,b9_5⟩),(200579,jk),(200389,jF),(200388,kf),(200387,jk)],[(200581,.wr),(200579,.wr),(200389,.wr),(200388,.wr),(200387,.wr)]⟩
section
variable (k:Nat) (line a:Tm) (sys:List (Br Tm)) (Z:Out UU->Option S)
theorem Ti (r3 r9 r6): ∀n d_ b9_5 v38,(Cp k).lp Z 5 [] n (KT r3 r9 r6 d_ b9_5 v38)=nw k (jP Z) r3 r9 r6 n d_ b9_5 v38:=ko (ri k (jP Z) r3 r9 r6)
end
theorem V_ (ho:ai o):Tl o 183 (MT k:Rw S):=al (Cp k) ⟨sk o ho k,vo k ho,zW k ho,I3 k ho,om k ho,DY k ho,zT k ho,V9 k ho,trivial⟩ func183 fun line a sys Z x h=>aq (b:=GT k (jP Z) (fun r3 r9 r6 d_ b9_5 v38=>(Cp k).lp Z 5 [] k (KT r3 r9 r6 d_ b9_5 v38)) line a sys) (by kernel_rfl) (aq (by simp only [Ti];rfl) (dq h))
def MU:Rw S:=ah Kt eo fun line a sys c0 Z=>aa k (vd k line a sys c0) (lS Z)
def Ra:Fx S:=fp 21 [(93,nK k),(94,nL k),(183,MT k)] [] k f102 1
theorem Wa (ho:ai o):Tl o 102 (MU k:Rw S):=al (Ra k) ⟨oi k ho,oj k ho,V_ k ho,trivial⟩ func102 fun line a sys c0 Z x h=>aA h
def MV:Rw S:=ah vJ eo fun t c0 Z=>aa k (zF k t c0) (lS Z)
def Rc:Fx S:=fp 9 [(29,wG k),(130,FO k)] [] k f67 1
theorem Wc (ho:ai o):Tl o 67 (MV k:Rw S):=al (Rc k) ⟨zY k ho,I1 k ho,trivial⟩ func67 fun t c0 Z x h=>aA h
def tF:Rw S:=ah ZS xn fun kind l kids Z=>aa k (h_ k kind l kids) (Mv Z)
def Rd:Fx S:=fx 11 (fun _=>[]) (fun _=>false) [] [] k f63 true [] 0
theorem vq (ho:ai o):Tl o 63 (tF k:Rw S):=al (Rd k) trivial func63 fun kind l kids Z x h=>aA h
section
variable (k:Nat) (t:Tm) (Z:Out UU->Option S)
end
def MW:Rw S:=ah Y3 xn fun b Z=>aa k (DO k b) (Mu Z)
def Rf:Fx S:=fp 11 [(59,k_ k)] [] k f118 0
theorem Wd (ho:ai o):Tl o 118 (MW k:Rw S):=al (Rf k) ⟨ly k ho,trivial⟩ func118 fun b Z x h=>aA h
def MX:Rw S:=ah Y4 xn fun l Z=>aa k (zu k l) (Bf Z)
def Cq:Fx S:=fx 22 (fun _=>[]) (fun _=>false) [(118,MW k)] [(3,⟨[(1,ab),(5,bA 100005),(8,ab),(9,ab),(10,ab)],[]⟩,bG 5 11)] k f54 false [true] 0
def KU (l:List (Br Tm)) (v10:Int) (out5:List (Br Tm)):St UU:=⟨[(1,(.func 118 [] [])),(5,(.own 100005 0)),(8,(sB l)),(9,(iI l.length)),(10,(iI v10))],[],[(100005,⟨0,ET.B,out5⟩)],[(100005,.wr)]⟩
section
variable (k:Nat) (l:List (Br Tm)) (Z:Out UU->Option S)
theorem Tj: ∀n v10 out5,(Cq k).lp Z 3 [] n (KU l v10 out5)=sV k (Bf Z) l n v10 out5:=dQ (ya k (Bf Z) l)
end
theorem We (ho:ai o):Tl o 54 (MX k:Rw S):=al (Cq k) ⟨Wd k ho,trivial⟩ func54 fun l Z x h=>aq (b:=B1 k (Bf Z) (fun v10 out5=>(Cq k).lp Z 3 [] k (KU l v10 out5)) l) (by kernel_rfl) (aq (by simp only [Tj];rfl) (dq h))
def FR:Rw S:=ah np xn fun g Z=>aa k (pP k g) (ads Z)
def Rg:Fx S:=fp 6 [(54,MX k)] [] k f53 0
theorem I4 (ho:ai o):Tl o 53 (FR k:Rw S):=al (Rg k) ⟨We k ho,trivial⟩ func53 fun g Z x h=>aA h
def Bv:Rw S:=ah Y5 xn fun a es Z=>aa k (na k a es) (Mv Z)
def Rh:Fx S:=fx 9 (fun _=>[]) (fun _=>false) [(63,tF k)] [] k f57 true [] 0
theorem D5 (ho:ai o):Tl o 57 (Bv k:Rw S):=al (Rh k) ⟨vq k ho,trivial⟩ func57 fun a es Z x h=>aA h
def MY:Rw S:=ah Az eo fun c c0 Z=>aa k (DE k c c0) (adt c0 Z)
def Ri:Fx S:=fp 14 [(149,tJ k)] [] k f273 1
theorem Wf (ho:ai o):Tl o 273 (MY k:Rw S):=al (Ri k) ⟨vu k ho,trivial⟩ func273 fun c c0 Z x h=>aA h
def MZ:Rw S:=ah Y6 eo fun l c0 Z=>aa k (DF k l c0) (Bg c0 Z)
def Cr:Fx S:=fp 29 [(273,MY k)] [(3,⟨[(1,ab),(5,bA 100005),(10,ab),(11,ab),(12,ab)],[(1000000,[ab])]⟩,bG 5 11)] k f272 1
def KV (c0:Int) (l:List Cl) (v12:Int) (out5:List Cl):St UU:=⟨[(1,(.func 273 [] [(pt 1000000)])),(5,(.own 100005 0)),(10,(sC l)),(11,(iI l.length)),(12,(iI v12))],[(1000000,bI c0)],[(100005,⟨0,ET.C,out5⟩)],[(100005,.wr)]⟩
section
variable (k:Nat) (l:List Cl) (c0:Int) (Z:Out UU->Option S)
theorem Tk: ∀n v12 out5,(Cr k).lp Z 3 [] n (KV c0 l v12 out5)=sE k (Bg c0 Z) c0 l n v12 out5:=dQ (xJ k (Bg c0 Z) c0 l)
end
theorem Wg (ho:ai o):Tl o 272 (MZ k:Rw S):=al (Cr k) ⟨Wf k ho,trivial⟩ func272 fun l c0 Z x h=>aq (b:=G9 k (Bg c0 Z) (fun v12 out5=>(Cr k).lp Z 3 [] k (KV c0 l v12 out5)) l c0) (by kernel_rfl) (aq (by simp only [Tk];rfl) (dq h))
def M0:Rw S:=ah Ka xn fun f i Z=>aa k (y8 k f i) (cK Z)
def Rj:Fx S:=fp 20 [(146,lU k),(205,tG k),(239,F8 k),(272,MZ k)] [] k f218 0
theorem Wh (ho:ai o):Tl o 218 (M0 k:Rw S):=al (Rj k) ⟨mn k ho,vr k ho,Jg k ho,Wg k ho,trivial⟩ func218 fun f i Z x h=>aA h
def M1:Rw S:=ah Kh eo fun f c0 Z=>aa k (zE k f c0) (FH Z)
def Rk:Fx S:=fp 39 [(28,tC k),(58,nI k),(93,nK k),(94,nL k),(143,BB k),(218,M0 k)] [] k f131 1
theorem Wi (ho:ai o):Tl o 131 (M1 k:Rw S):=al (Rk k) ⟨vn k ho,og k ho,oi k ho,oj k ho,D9 k ho,Wh k ho,trivial⟩ func131 fun f c0 Z x h=>aA h
def adI:Rw S:=ah Ax H5 fun c1 jg gf gn gr gu gy gA gC gD fS fN fO fP fQ fR gg gh gi gj gm gq Z=>aa k (rH k c1 jg gf gn gr gu gy gA gC gD fS fN fO fP fQ fR gg gh gi gj gm gq) (Mw c1 gf gn gr gu gy gA gC gD fS fN fO fP fQ fR gg gh gi gj gm gq Z)
def M2:Rw S:=ah Ax H5 fun c1 jg gf gn gr gu gy gA gC gD fS fN fO fP fQ fR gg gh gi gj gm gq Z=>aa k (rH k c1 jg gf gn gr gu gy gA gC gD fS fN fO fP fQ fR gg gh gi gj gm gq) (adv Z)
def Rl:Fx S:=fp 8 [(56,qL k)] [] k f132 3
theorem Wl (ho:ai o):Tl o 132 (adI k:Rw S):=al (Rl k) ⟨rV k ho,trivial⟩ func132 fun c1 jg gf gn gr gu gy gA gC gD fS fN fO fP fQ fR gg gh gi gj gm gq Z x h=>aA h
theorem Wj (ho:ai o):Tl o 132 (M2 k:Rw S):=HK (n:=2) (m:=1) (Wl k ho) fun c1 jg gf gn gr gu gy gA gC gD fS fN fO fP fQ fR gg gh gi gj gm gq Z x h=>aq (b:=aa k (rH k c1 jg gf gn gr gu gy gA gC gD fS fN fO fP fQ fR gg gh gi gj gm gq) (Mw c1 gf gn gr gu gy gA gC gD fS fN fO fP fQ fR gg gh gi gj gm gq (uO 2 1 [.cells [(pt 2)],bT c1,.cells [(iI jg),(sC gf),(iI gn),(iI gr),(.str gu),(sC gy),(sT gA),(sB gC),(sB gD),(iI fS),(iI fN),(.str fO),(sC fP),(sT fQ),(sB fR),(iI gg),(iI gh),(.str gi),(sC gj),(sT gm),(sB gq)]] Z))) (by kernel_rfl) (aq (congrArg (aa k (rH k c1 jg gf gn gr gu gy gA gC gD fS fN fO fP fQ fR gg gh gi gj gm gq)) (funext fun r=>if_pos ⟨rfl,rfl⟩)) h)
def M3:Rw S:=ah Y7 ahj fun dR c0_1 bQ bR bS bU bV bW dZ cA ct cu cv cx cz b8 b9 b_ ca ce ci c2 Z=>aa k (u7 k dR c0_1 bQ bR bS bU bV bW dZ cA ct cu cv cx cz b8 b9 b_ ca ce ci c2) (adw c0_1 bQ bR bS bU bV bW dZ cA ct cu cv cx cz b8 b9 b_ ca ce ci c2 Z)
def Rm:Fx S:=fx 20 (fun _=>[]) (fun _=>false) [(59,k_ k),(132,M2 k)] [] k f71 true [false,true] 3
theorem Wm (ho:ai o):Tl o 71 (M3 k:Rw S):=al (Rm k) ⟨ly k ho,Wj k ho,trivial⟩ func71 fun dR c0_1 bQ bR bS bU bV bW dZ cA ct cu cv cx cz b8 b9 b_ ca ce ci c2 Z x h=>aA h
def wA:Rw S:=ah np xn fun a_e Z=>aa k (m_ k a_e) (AZ Z)
def Rp:Fx S:=fx 6 (fun _=>[]) (fun _=>false) [(58,nI k)] [] k f61 true [] 0
theorem zU (ho:ai o):Tl o 61 (wA k:Rw S):=al (Rp k) ⟨og k ho,trivial⟩ func61 fun a_e Z x h=>aA h
def M5:Rw S:=ah J5 t_ fun b dH aS aZ a7 a8 a_ ba be bw bh aU aV aW aX aY bm bn bo bp bq bv Z=>aa k (DL k b dH aS aZ a7 a8 a_ ba be bw bh aU aV aW aX aY bm bn bo bp bq bv) (adx aS aZ a7 a8 a_ ba be bw bh aU aV aW aX aY bm bn bo bp bq bv Z)
def Rq:Fx S:=fp 31 [(58,nI k),(59,k_ k),(61,wA k),(134,MQ k)] [] k f133 2
theorem Wo (ho:ai o):Tl o 133 (M5 k:Rw S):=al (Rq k) ⟨og k ho,ly k ho,zU k ho,V8 k ho,trivial⟩ func133 fun b dH aS aZ a7 a8 a_ ba be bw bh aU aV aW aX aY bm bn bo bp bq bv Z x h=>aA h
def M6:Rw S:=ah Y8 t_ fun l dH aS aZ a7 a8 a_ ba be bw bh aU aV aW aX aY bm bn bo bp bq bv Z=>aa k (u_ k l dH aS aZ a7 a8 a_ ba be bw bh aU aV aW aX aY bm bn bo bp bq bv) (Bh aS aZ a7 a8 a_ ba be bw bh aU aV aW aX aY bm bn bo bp bq bv Z)
def Ct:Fx S:=fx 22 (fun _=>[]) (fun _=>false) [(133,M5 k)] [(3,⟨[(1,ab),(5,bA 100005),(8,ab),(9,ab),(10,ab)],[(1000000,[ab]),(1000001,[ab,ab,ab,ab,ab,ab,ab,ab,ab,ab,ab,ab,ab,ab,ab,ab,ab,ab,ab,ab,ab])]⟩,bG 5 11)] k f54 false [true] 2
def KW (aS:List Cl) (aU:Int) (aV:ByteArray) (aW:List Cl) (aX:List Tm) (aY:List (Br Tm)) (bm bn:Int) (bo:ByteArray) (bp:List Cl) (bq:List Tm) (aZ:Int) (bv:List (Br Tm)) (a7:Int) (a8:ByteArray) (a_:List Cl) (ba:List Tm) (be bw:List (Br Tm)) (bh:Int) (l:List (Br Tm)) (dp v10:Int) (out5:List (Br Tm)):St UU:=⟨[(1,(.func 133 [] [(pt 1000000)])),(5,(.own 100005 0)),(8,(sB l)),(9,(iI l.length)),(10,(iI v10))],[(1000000,.cells [(pt 1000001)]),(1000001,.cells [(iI dp),(sC aS),(iI aZ),(iI a7),(.str a8),(sC a_),(sT ba),(sB be),(sB bw),(iI bh),(iI aU),(.str aV),(sC aW),(sT aX),(sB aY),(iI bm),(iI bn),(.str bo),(sC bp),(sT bq),(sB bv)])],[(100005,⟨0,ET.B,out5⟩)],[(100005,.wr)]⟩
section
variable (k:Nat) (l:List (Br Tm)) (dH:Int) (aS:List Cl) (aZ a7:Int) (a8:ByteArray) (a_:List Cl) (ba:List Tm) (be bw:List (Br Tm)) (bh aU:Int) (aV:ByteArray) (aW:List Cl) (aX:List Tm) (aY:List (Br Tm)) (bm bn:Int) (bo:ByteArray) (bp:List Cl) (bq:List Tm) (bv:List (Br Tm)) (Z:Out UU->Option S)
theorem Tn: ∀n dp v10 out5,(Ct k).lp Z 3 [] n (KW aS aU aV aW aX aY bm bn bo bp bq aZ bv a7 a8 a_ ba be bw bh l dp v10 out5)=sP k (Bh aS aZ a7 a8 a_ ba be bw bh aU aV aW aX aY bm bn bo bp bq bv Z) aS aU aV aW aX aY bm bn bo bp bq aZ bv a7 a8 a_ ba be bw bh l n dp v10 out5:=ko (xW k (Bh aS aZ a7 a8 a_ ba be bw bh aU aV aW aX aY bm bn bo bp bq bv Z) aS aU aV aW aX aY bm bn bo bp bq aZ bv a7 a8 a_ ba be bw bh l)
end
theorem Wp (ho:ai o):Tl o 54 (M6 k:Rw S):=al (Ct k) ⟨Wo k ho,trivial⟩ func54 fun l dH aS aZ a7 a8 a_ ba be bw bh aU aV aW aX aY bm bn bo bp bq bv Z x h=>aq (b:=Hl k (Bh aS aZ a7 a8 a_ ba be bw bh aU aV aW aX aY bm bn bo bp bq bv Z) (fun dp v10 out5=>(Ct k).lp Z 3 [] k (KW aS aU aV aW aX aY bm bn bo bp bq aZ bv a7 a8 a_ ba be bw bh l dp v10 out5)) l dH aS aZ a7 a8 a_ ba be bw bh aU aV aW aX aY bm bn bo bp bq bv) (by kernel_rfl) (aq (by simp only [Tn];rfl) (dq h))
def M7:Rw S:=ah vJ ahk fun g dR c0_1 bQ bR bS bU bV bW cA ct cu cv cx cz b8 b9 b_ ca ce ci Z=>aa k (zp k g dR c0_1 bQ bR bS bU bV bW cA ct cu cv cx cz b8 b9 b_ ca ce ci) (Bj c0_1 bQ bR bS bU bV bW b8 b9 b_ ca ce ci Z)
def Cu:Fx S:=fp 74 [(53,FR k),(54,M6 k),(57,Bv k),(59,k_ k),(71,M3 k),(102,MU k),(130,FO k),(131,M1 k)] [(3,⟨[(2,ab),(3,ab),(4,ab),(21,ab),(22,ab),(23,ab)],[(2,[ab]),(3,[ab,ab,ab,ab,ab,ab]),(4,[ab,ab,ab,bA 200259,ab,ab]),(1000000,[ab,ab,ab,ab,ab,ab,ab,ab,bA 64200008,ab,ab,ab,ab,ab,ab,ab,ab,ab,ab,ab,ab])]⟩,bG 5 11)] k f66 1
def KX (c0_1:List Cl) (ct:Int) (cu:ByteArray) (cv:List Cl) (cx:List Tm) (cz:List (Br Tm)) (b8 b9:Int) (b_:ByteArray) (ca:List Cl) (ce:List Tm) (bQ:Int) (ci:List (Br Tm)) (bR:Int) (bS:ByteArray) (bU:List Cl) (bV:List Tm) (bW:List (Br Tm)) (cA:Int) (g:Tm) (r3:Int×Int×ByteArray×List Tm×List (Br Tm)) (kc:Int) (e0_8:List (Br Tm)) (v23:Int):St UU:=⟨[(2,(pt 2)),(3,(pt 3)),(4,(pt 4)),(21,(sB g.sys)),(22,(iI g.sys.length)),(23,(iI v23))],[(2,.cells [(pt 1000000)]),(3,bT g),(4,.cells [(iI r3.1),(iI r3.2.1),(.str r3.2.2.1),(.own 200259 0),(sT r3.2.2.2.1),(sB r3.2.2.2.2)]),(1000000,.cells [(iI kc),(sC c0_1),(iI bQ),(iI bR),(.str bS),(sC bU),(sT bV),(sB bW),(.own 64200008 0),(iI cA),(iI ct),(.str cu),(sC cv),(sT cx),(sB cz),(iI b8),(iI b9),(.str b_),(sC ca),(sT ce),(sB ci)])],[(64200008,⟨0,ET.B,e0_8⟩),(200259,jk)],[(64200008,.wr),(200259,.wr)]⟩
section
variable (k:Nat) (g:Tm) (dR:Int) (c0_1:List Cl) (bQ bR:Int) (bS:ByteArray) (bU:List Cl) (bV:List Tm) (bW:List (Br Tm)) (cA ct:Int) (cu:ByteArray) (cv:List Cl) (cx:List Tm) (cz:List (Br Tm)) (b8 b9:Int) (b_:ByteArray) (ca:List Cl) (ce:List Tm) (ci:List (Br Tm)) (Z:Out UU->Option S)
theorem To (r3): ∀n kc e0_8 v23,(Cu k).lp Z 3 [] n (KX c0_1 ct cu cv cx cz b8 b9 b_ ca ce bQ ci bR bS bU bV bW cA g r3 kc e0_8 v23)=sO k (Bj c0_1 bQ bR bS bU bV bW b8 b9 b_ ca ce ci Z) c0_1 ct cu cv cx cz b8 b9 b_ ca ce bQ ci bR bS bU bV bW cA g r3 n kc e0_8 v23:=ko (xV k (Bj c0_1 bQ bR bS bU bV bW b8 b9 b_ ca ce ci Z) c0_1 ct cu cv cx cz b8 b9 b_ ca ce bQ ci bR bS bU bV bW cA g r3)
end
theorem Wq (ho:ai o):Tl o 66 (M7 k:Rw S):=al (Cu k) ⟨I4 k ho,Wp k ho,D5 k ho,ly k ho,Wm k ho,Wa k ho,I1 k ho,Wi k ho,trivial⟩ func66 fun g dR c0_1 bQ bR bS bU bV bW cA ct cu cv cx cz b8 b9 b_ ca ce ci Z x h=>aq (b:=Hk k (Bj c0_1 bQ bR bS bU bV bW b8 b9 b_ ca ce ci Z) (fun r3 kc e0_8 v23=>(Cu k).lp Z 3 [] k (KX c0_1 ct cu cv cx cz b8 b9 b_ ca ce bQ ci bR bS bU bV bW cA g r3 kc e0_8 v23)) g dR c0_1 bQ bR bS bU bV bW cA ct cu cv cx cz b8 b9 b_ ca ce ci) (by kernel_rfl) (aq (by simp only [To];rfl) (dq h))
def M8:Rw S:=ah nq xn fun a_n Z=>aa k (Dv k a_n) (ac_ Z)
def Rr:Fx S:=fx 5 (fun _=>[]) (fun _=>false) [] [] k f187 true [] 0
theorem Wr (ho:ai o):Tl o 187 (M8 k:Rw S):=al (Rr k) trivial func187 fun a_n Z x h=>aA h
def M9:Rw S:=ah J6 eo fun t a f y c0 Z=>aa k (yR k t a f y c0) (ady Z)
def Rs:Fx S:=fx 28 (fun _=>[]) (fun _=>false) [(186,tD k),(187,M8 k),(209,Bq k)] [] k f262 true [] 1
theorem Ws (ho:ai o):Tl o 262 (M9 k:Rw S):=al (Rs k) ⟨vo k ho,Wr k ho,DZ k ho,trivial⟩ func262 fun t a f y c0 Z x h=>aA h
def M_:Rw S:=ah Y9 xn fun t a f y Z=>aa k (yM k t a f y) (jP Z)
def Rt:Fx S:=fp 28 [(41,oV (fF k)),(207,wE k),(213,wz k),(262,M9 k)] [] k f220 0
theorem Wt (ho:ai o):Tl o 220 (M_ k:Rw S):=al (Rt k) ⟨sk o ho k,zW k ho,zT k ho,Ws k ho,trivial⟩ func220 fun t a f y Z x h=>aA h
def Na:Rw S:=ah J6 eo fun t a f y c0 Z=>aa k (zG k t a f y c0) (lS Z)
def Ru:Fx S:=fp 24 [(93,nK k),(94,nL k),(220,M_ k)] [] k f136 1
theorem Wu (ho:ai o):Tl o 136 (Na k:Rw S):=al (Ru k) ⟨oi k ho,oj k ho,Wt k ho,trivial⟩ func136 fun t a f y c0 Z x h=>aA h
def FS:Rw S:=ah Kq H5 fun a_x c1 jg gf gn gr gu gy gA gC gD fS fN fO fP fQ fR gg gh gi gj gm gq Z=>aa k (u6 k a_x c1 jg gf gn gr gu gy gA gC gD fS fN fO fP fQ fR gg gh gi gj gm gq) (adz c1 gf gn gr gu gy gA gC gD fS fN fO fP fQ fR gg gh gi gj gm gq Z)
def Rv:Fx S:=fx 43 (fun _=>[]) (fun _=>false) [(56,qL k),(58,nI k),(73,Bt k)] [] k f135 true [] 3
theorem I5 (ho:ai o):Tl o 135 (FS k:Rw S):=al (Rv k) ⟨rV k ho,og k ho,D0 k ho,trivial⟩ func135 fun a_x c1 jg gf gn gr gu gy gA gC gD fS fN fO fP fQ fR gg gh gi gj gm gq Z x h=>aA h
def adJ:Rw S:=ah Ax Cb fun c2 eU cV cM cO cP cQ cR cS dh di cZ c5 c6 c7 c8 c_ da dc de df dg Z=>aa k (rI k c2 eU cV cM cO cP cQ cR cS dh di cZ c5 c6 c7 c8 c_ da dc de df dg) (Mx c2 cV cM cO cP cQ cR cS dh di cZ c5 c6 c7 c8 c_ da dc de df dg Z)
def Nb:Rw S:=ah Ax Cb fun c2 eU cV cM cO cP cQ cR cS dh di cZ c5 c6 c7 c8 c_ da dc de df dg Z=>aa k (rI k c2 eU cV cM cO cP cQ cR cS dh di cZ c5 c6 c7 c8 c_ da dc de df dg) (adA Z)
def Rx:Fx S:=fx 9 (fun _=>[]) (fun _=>false) [(135,FS k)] [] k f137 true [] 4
theorem Ww (ho:ai o):Tl o 137 (adJ k:Rw S):=al (Rx k) ⟨I5 k ho,trivial⟩ func137 fun c2 eU cV cM cO cP cQ cR cS dh di cZ c5 c6 c7 c8 c_ da dc de df dg Z x h=>aA h
theorem Wv (ho:ai o):Tl o 137 (Nb k:Rw S):=HK (n:=3) (m:=1) (Ww k ho) fun c2 eU cV cM cO cP cQ cR cS dh di cZ c5 c6 c7 c8 c_ da dc de df dg Z x h=>aq (b:=aa k (rI k c2 eU cV cM cO cP cQ cR cS dh di cZ c5 c6 c7 c8 c_ da dc de df dg) (Mx c2 cV cM cO cP cQ cR cS dh di cZ c5 c6 c7 c8 c_ da dc de df dg (uO 3 1 [.cells [(.func 135 [] [(pt 1),(pt 2)])],.cells [(pt 3)],bT c2,.cells [(iI eU),(sC cV),(iI cM),(iI cO),(.str cP),(sC cQ),(sT cR),(sB cS),(sB dh),(iI di),(iI cZ),(.str c5),(sC c6),(sT c7),(sB c8),(iI c_),(iI da),(.str dc),(sC de),(sT df),(sB dg)]] Z))) (by kernel_rfl) (aq (congrArg (aa k (rI k c2 eU cV cM cO cP cQ cR cS dh di cZ c5 c6 c7 c8 c_ da dc de df dg)) (funext fun r=>if_pos ⟨rfl,rfl⟩)) h)
def Nd:Rw S:=ah Y_ ahl fun dR c0_1 bQ bR bS bU bV bW dZ cA ct cu cv cx cz b8 b9 b_ ca ce ci c3 Z=>aa k (zt k dR c0_1 bQ bR bS bU bV bW dZ cA ct cu cv cx cz b8 b9 b_ ca ce ci c3) (adB c0_1 bQ bR bS bU bV bW dZ cA ct cu cv cx cz b8 b9 b_ ca ce ci c3 Z)
def Rz:Fx S:=fx 20 (fun _=>[]) (fun _=>false) [(59,k_ k),(137,Nb k)] [] k f71 true [false,true] 4
theorem Wy (ho:ai o):Tl o 71 (Nd k:Rw S):=al (Rz k) ⟨ly k ho,Wv k ho,trivial⟩ func71 fun dR c0_1 bQ bR bS bU bV bW dZ cA ct cu cv cx cz b8 b9 b_ ca ce ci c3 Z x h=>aA h
def Nf:Rw S:=ah EG Cb fun b c2 eU cV cM cO cP cQ cR cS dh di cZ c5 c6 c7 c8 c_ da dc de df dg Z=>aa k (DM k b c2 eU cV cM cO cP cQ cR cS dh di cZ c5 c6 c7 c8 c_ da dc de df dg) (adC c2 cV cM cO cP cQ cR cS dh di cZ c5 c6 c7 c8 c_ da dc de df dg Z)
def RA:Fx S:=fp 25 [(59,k_ k),(73,Bt k),(135,FS k)] [] k f138 4
theorem Wz (ho:ai o):Tl o 138 (Nf k:Rw S):=al (RA k) ⟨ly k ho,D0 k ho,I5 k ho,trivial⟩ func138 fun b c2 eU cV cM cO cP cQ cR cS dh di cZ c5 c6 c7 c8 c_ da dc de df dg Z x h=>aA h
def Ng:Rw S:=ah Za Cb fun l c2 eU cV cM cO cP cQ cR cS dh di cZ c5 c6 c7 c8 c_ da dc de df dg Z=>aa k (zw k l c2 eU cV cM cO cP cQ cR cS dh di cZ c5 c6 c7 c8 c_ da dc de df dg) (Bk c2 cV cM cO cP cQ cR cS dh di cZ c5 c6 c7 c8 c_ da dc de df dg Z)
def Cv:Fx S:=fx 22 (fun _=>[]) (fun _=>false) [(138,Nf k)] [(3,⟨[(1,ab),(5,bA 100005),(8,ab),(9,ab),(10,ab)],[(1000000,[ab]),(1000001,[ab]),(1000002,[ab,ab,ab,ab,ab,ab]),(1000003,[ab,ab,ab,ab,ab,ab,ab,ab,ab,ab,ab,ab,ab,ab,ab,ab,ab,ab,ab,ab,ab])]⟩,bG 5 11)] k f54 false [true] 4
def KY (c2:Tm) (cV:List Cl) (cZ:Int) (c5:ByteArray) (c6:List Cl) (c7:List Tm) (c8:List (Br Tm)) (c_ da:Int) (dc:ByteArray) (de:List Cl) (df:List Tm) (cM:Int) (dg:List (Br Tm)) (cO:Int) (cP:ByteArray) (cQ:List Cl) (cR:List Tm) (cS dh:List (Br Tm)) (di:Int) (l:List (Br Tm)) (ez v10:Int) (out5:List (Br Tm)):St UU:=⟨[(1,(.func 138 [] [(pt 1000000),(pt 1000001)])),(5,(.own 100005 0)),(8,(sB l)),(9,(iI l.length)),(10,(iI v10))],[(1000000,.cells [(.func 135 [] [(pt 1000001),(pt 1000002)])]),(1000001,.cells [(pt 1000003)]),(1000002,bT c2),(1000003,.cells [(iI ez),(sC cV),(iI cM),(iI cO),(.str cP),(sC cQ),(sT cR),(sB cS),(sB dh),(iI di),(iI cZ),(.str c5),(sC c6),(sT c7),(sB c8),(iI c_),(iI da),(.str dc),(sC de),(sT df),(sB dg)])],[(100005,⟨0,ET.B,out5⟩)],[(100005,.wr)]⟩
section
variable (k:Nat) (l:List (Br Tm)) (c2:Tm) (eU:Int) (cV:List Cl) (cM cO:Int) (cP:ByteArray) (cQ:List Cl) (cR:List Tm) (cS dh:List (Br Tm)) (di cZ:Int) (c5:ByteArray) (c6:List Cl) (c7:List Tm) (c8:List (Br Tm)) (c_ da:Int) (dc:ByteArray) (de:List Cl) (df:List Tm) (dg:List (Br Tm)) (Z:Out UU->Option S)
theorem Tp: ∀n ez v10 out5,(Cv k).lp Z 3 [] n (KY c2 cV cZ c5 c6 c7 c8 c_ da dc de df cM dg cO cP cQ cR cS dh di l ez v10 out5)=qc k (Bk c2 cV cM cO cP cQ cR cS dh di cZ c5 c6 c7 c8 c_ da dc de df dg Z) c2 cV cZ c5 c6 c7 c8 c_ da dc de df cM dg cO cP cQ cR cS dh di l n ez v10 out5:=ko (yb k (Bk c2 cV cM cO cP cQ cR cS dh di cZ c5 c6 c7 c8 c_ da dc de df dg Z) c2 cV cZ c5 c6 c7 c8 c_ da dc de df cM dg cO cP cQ cR cS dh di l)
end
theorem WA (ho:ai o):Tl o 54 (Ng k:Rw S):=al (Cv k) ⟨Wz k ho,trivial⟩ func54 fun l c2 eU cV cM cO cP cQ cR cS dh di cZ c5 c6 c7 c8 c_ da dc de df dg Z x h=>aq (b:=Ho k (Bk c2 cV cM cO cP cQ cR cS dh di cZ c5 c6 c7 c8 c_ da dc de df dg Z) (fun ez v10 out5=>(Cv k).lp Z 3 [] k (KY c2 cV cZ c5 c6 c7 c8 c_ da dc de df cM dg cO cP cQ cR cS dh di l ez v10 out5)) l c2 eU cV cM cO cP cQ cR cS dh di cZ c5 c6 c7 c8 c_ da dc de df dg) (by kernel_rfl) (aq (by simp only [Tp];rfl) (dq h))
def Nh:Rw S:=ah ZO ahm fun t a_e dR c0_1 bQ bR bS bU bV bW dZ cA ct cu cv cx cz b8 b9 b_ ca ce ci Z=>aa k (zr k t a_e dR c0_1 bQ bR bS bU bV bW dZ cA ct cu cv cx cz b8 b9 b_ ca ce ci) (adD c0_1 bQ bR bS bU bV bW dZ cA ct cu cv cx cz b8 b9 b_ ca ce ci Z)
def RB:Fx S:=fx 54 (fun _=>[]) (fun _=>false) [(54,Ng k),(58,nI k),(61,wA k),(63,tF k),(71,Nd k),(136,Na k)] [] k f70 true [] 1
theorem WC (ho:ai o):Tl o 70 (Nh k:Rw S):=al (RB k) ⟨WA k ho,og k ho,zU k ho,vq k ho,Wy k ho,Wu k ho,trivial⟩ func70 fun t a_e dR c0_1 bQ bR bS bU bV bW dZ cA ct cu cv cx cz b8 b9 b_ ca ce ci Z x h=>aA h
def Ni:Rw S:=ah J5 t_ fun b dH aS aZ a7 a8 a_ ba be bw bh aU aV aW aX aY bm bn bo bp bq bv Z=>aa k (DJ k b dH aS aZ a7 a8 a_ ba be bw bh aU aV aW aX aY bm bn bo bp bq bv) (adE aS aZ a7 a8 a_ ba be bw bh aU aV aW aX aY bm bn bo bp bq bv Z)
def RD:Fx S:=fx 14 (fun _=>[]) (fun _=>false) [(70,Nh k)] [] k f69 true [] 2
theorem WD (ho:ai o):Tl o 69 (Ni k:Rw S):=al (RD k) ⟨WC k ho,trivial⟩ func69 fun b dH aS aZ a7 a8 a_ ba be bw bh aU aV aW aX aY bm bn bo bp bq bv Z x h=>aA h
def Nj:Rw S:=ah Zc t_ fun l dH aS aZ a7 a8 a_ ba be bw bh aU aV aW aX aY bm bn bo bp bq bv Z=>aa k (rK k l dH aS aZ a7 a8 a_ ba be bw bh aU aV aW aX aY bm bn bo bp bq bv) (Bm aS aZ a7 a8 a_ ba be bw bh aU aV aW aX aY bm bn bo bp bq bv Z)
def Cw:Fx S:=fx 22 (fun _=>[]) (fun _=>false) [(69,Ni k)] [(3,⟨[(1,ab),(5,bA 100005),(8,ab),(9,ab),(10,ab)],[(1000000,[ab]),(1000001,[ab,ab,ab,ab,ab,ab,ab,ab,ab,ab,ab,ab,ab,ab,ab,ab,ab,ab,ab,ab,ab])]⟩,bG 5 11)] k f68 false [true] 2
def KZ (aS:List Cl) (aU:Int) (aV:ByteArray) (aW:List Cl) (aX:List Tm) (aY:List (Br Tm)) (bm bn:Int) (bo:ByteArray) (bp:List Cl) (bq:List Tm) (aZ:Int) (bv:List (Br Tm)) (a7:Int) (a8:ByteArray) (a_:List Cl) (ba:List Tm) (be bw:List (Br Tm)) (bh:Int) (l:List (Br Tm)) (dp v10:Int) (out5:List Tm):St UU:=⟨[(1,(.func 69 [] [(pt 1000000)])),(5,(.own 100005 0)),(8,(sB l)),(9,(iI l.length)),(10,(iI v10))],[(1000000,.cells [(pt 1000001)]),(1000001,.cells [(iI dp),(sC aS),(iI aZ),(iI a7),(.str a8),(sC a_),(sT ba),(sB be),(sB bw),(iI bh),(iI aU),(.str aV),(sC aW),(sT aX),(sB aY),(iI bm),(iI bn),(.str bo),(sC bp),(sT bq),(sB bv)])],[(100005,⟨0,ET.T,out5⟩)],[(100005,.wr)]⟩
section
variable (k:Nat) (l:List (Br Tm)) (dH:Int) (aS:List Cl) (aZ a7:Int) (a8:ByteArray) (a_:List Cl) (ba:List Tm) (be bw:List (Br Tm)) (bh aU:Int) (aV:ByteArray) (aW:List Cl) (aX:List Tm) (aY:List (Br Tm)) (bm bn:Int) (bo:ByteArray) (bp:List Cl) (bq:List Tm) (bv:List (Br Tm)) (Z:Out UU->Option S)
theorem Tq: ∀n dp v10 out5,(Cw k).lp Z 3 [] n (KZ aS aU aV aW aX aY bm bn bo bp bq aZ bv a7 a8 a_ ba be bw bh l dp v10 out5)=sU k (Bm aS aZ a7 a8 a_ ba be bw bh aU aV aW aX aY bm bn bo bp bq bv Z) aS aU aV aW aX aY bm bn bo bp bq aZ bv a7 a8 a_ ba be bw bh l n dp v10 out5:=ko (x_ k (Bm aS aZ a7 a8 a_ ba be bw bh aU aV aW aX aY bm bn bo bp bq bv Z) aS aU aV aW aX aY bm bn bo bp bq aZ bv a7 a8 a_ ba be bw bh l)
end
theorem WE (ho:ai o):Tl o 68 (Nj k:Rw S):=al (Cw k) ⟨WD k ho,trivial⟩ func68 fun l dH aS aZ a7 a8 a_ ba be bw bh aU aV aW aX aY bm bn bo bp bq bv Z x h=>aq (b:=Hn k (Bm aS aZ a7 a8 a_ ba be bw bh aU aV aW aX aY bm bn bo bp bq bv Z) (fun dp v10 out5=>(Cw k).lp Z 3 [] k (KZ aS aU aV aW aX aY bm bn bo bp bq aZ bv a7 a8 a_ ba be bw bh l dp v10 out5)) l dH aS aZ a7 a8 a_ ba be bw bh aU aV aW aX aY bm bn bo bp bq bv) (by kernel_rfl) (aq (by simp only [Tq];rfl) (dq h))
def adK:Rw S:=ah vI t_ fun dH aS aZ a7 a8 a_ ba be bw bh aU aV aW aX aY bm bn bo bp bq bv Z=>aa k (rG k dH aS aZ a7 a8 a_ ba be bw bh aU aV aW aX aY bm bn bo bp bq bv) (Mz aS aZ a7 a8 a_ ba be bw bh aU aV aW aX aY bm bn bo bp bq bv Z)
def Nk:Rw S:=ah vI t_ fun dH aS aZ a7 a8 a_ ba be bw bh aU aV aW aX aY bm bn bo bp bq bv Z=>aa k (rG k dH aS aZ a7 a8 a_ ba be bw bh aU aV aW aX aY bm bn bo bp bq bv) (adF Z)
def RE:Fx S:=fp 10 [(56,qL k)] [] k f72 2
theorem WG (ho:ai o):Tl o 72 (adK k:Rw S):=al (RE k) ⟨rV k ho,trivial⟩ func72 fun dH aS aZ a7 a8 a_ ba be bw bh aU aV aW aX aY bm bn bo bp bq bv Z x h=>aA h
theorem WF (ho:ai o):Tl o 72 (Nk k:Rw S):=HK (n:=1) (m:=1) (WG k ho) fun dH aS aZ a7 a8 a_ ba be bw bh aU aV aW aX aY bm bn bo bp bq bv Z x h=>aq (b:=aa k (rG k dH aS aZ a7 a8 a_ ba be bw bh aU aV aW aX aY bm bn bo bp bq bv) (Mz aS aZ a7 a8 a_ ba be bw bh aU aV aW aX aY bm bn bo bp bq bv (uO 1 1 [.cells [(pt 1)],.cells [(iI dH),(sC aS),(iI aZ),(iI a7),(.str a8),(sC a_),(sT ba),(sB be),(sB bw),(iI bh),(iI aU),(.str aV),(sC aW),(sT aX),(sB aY),(iI bm),(iI bn),(.str bo),(sC bp),(sT bq),(sB bv)]] Z))) (by kernel_rfl) (aq (congrArg (aa k (rG k dH aS aZ a7 a8 a_ ba be bw bh aU aV aW aX aY bm bn bo bp bq bv)) (funext fun r=>if_pos ⟨rfl,rfl⟩)) h)
def Nl:Rw S:=ah Zd ahn fun dR c0_1 bQ bR bS bU bV bW dZ cA ct cu cv cx cz b8 b9 b_ ca ce ci Z=>aa k (rJ k dR c0_1 bQ bR bS bU bV bW dZ cA ct cu cv cx cz b8 b9 b_ ca ce ci) (adG c0_1 bQ bR bS bU bV bW dZ cA ct cu cv cx cz b8 b9 b_ ca ce ci Z)
def RG:Fx S:=fx 20 (fun _=>[]) (fun _=>false) [(59,k_ k),(72,Nk k)] [] k f71 true [false,true] 2
theorem WH (ho:ai o):Tl o 71 (Nl k:Rw S):=al (RG k) ⟨ly k ho,WF k ho,trivial⟩ func71 fun dR c0_1 bQ bR bS bU bV bW dZ cA ct cu cv cx cz b8 b9 b_ ca ce ci Z x h=>aA h
def FT:Rw S:=ah np xn fun t Z=>aa k (u4 k t) (wy Z)
def Cx:Fx S:=fp 165 [(40,nJ k),(41,oV (fF k)),(42,FY k),(56,qL k),(58,nI k),(59,k_ k),(61,wA k),(63,tF k),(66,M7 k),(67,MV k),(68,Nj k),(71,Nl k),(73,Bt k)] [(16,⟨[(2,ab),(6,ab),(8,bA 100008),(9,some (100009,false)),(10,bA 100010),(77,ab),(78,ab),(79,ab)],[(2,[ab,ab,ab,bA 200131,bA 200132,bA 200133]),(6,[ab]),(43,[ab,ab,ab,ab,ab,ab,ab,ab,ab,ab,ab,ab,ab,ab,ab,ab,ab,ab,ab,ab,ab])]⟩,bG 14 6143)] k f27 0
def K0 (r3:Tm) (r6:Int×List (Br Tm)×Int×Int×ByteArray×List Cl×List Tm×List (Br Tm)) (x4:Tm) (r8:Tm×Int) (jU jV jW:Int) (jX:ByteArray) (jY:List Cl) (jZ:List Tm) (j0 parts10:List (Br Tm)) (v79:Int) (ws8:List Tm) (sys9:List (Br Tm)):St UU:=⟨[(2,(pt 2)),(6,(pt 6)),(8,(.own 100008 0)),(9,(.own 100009 0)),(10,(.own 100010 0)),(77,(sB r8.1.sys)),(78,(iI r8.1.sys.length)),(79,(iI v79))],[(2,.cells [(iI 0),(iI 0),lb,(.own 200131 0),(.own 200132 0),(.own 200133 0)]),(6,.cells [(pt 43)]),(43,.cells [(iI jU),(sC r3.r),(iI x4.kind),(iI x4.n),(.str x4.name),(sC x4.r),(sT x4.kids),(sB x4.sys),(sB r6.2.1),(iI r6.2.2.1),(iI r6.2.2.2.1),(.str r6.2.2.2.2.1),(sC r6.2.2.2.2.2.1),(sT r6.2.2.2.2.2.2.1),(sB r6.2.2.2.2.2.2.2),(iI jV),(iI jW),(.str jX),(sC jY),(sT jZ),(sB j0)])],[(200133,jF),(200132,kf),(200131,jk),(100010,⟨0,ET.B,parts10⟩),(100009,⟨0,ET.B,sys9⟩),(100008,⟨0,ET.T,ws8⟩)],[(200133,.wr),(200132,.wr),(200131,.wr),(100010,.wr),(100009,.app),(100008,.wr)]⟩
section
variable (k:Nat) (t:Tm) (Z:Out UU->Option S)
theorem Tr (r3 r6 x4 r8): ∀n jU jV jW jX jY jZ j0 parts10 v79 ws8 sys9,(Cx k).lp Z 16 [] n (K0 r3 r6 x4 r8 jU jV jW jX jY jZ j0 parts10 v79 ws8 sys9)=oL k (wy Z) r3 r6 x4 r8 n jU jV jW jX jY jZ j0 parts10 v79 ws8 sys9:=abA (xU k (wy Z) r3 r6 x4 r8)
end
theorem I6 (ho:ai o):Tl o 27 (FT k:Rw S):=al (Cx k) ⟨oh k ho,sk o ho k,I_ k ho,rV k ho,og k ho,ly k ho,zU k ho,vq k ho,Wq k ho,Wc k ho,WE k ho,WH k ho,D0 k ho,trivial⟩ func27 fun t Z x h=>aq (b:=Hj k (wy Z) (fun r3 r6 x4 r8 jU jV jW jX jY jZ j0 parts10 v79 ws8 sys9=>(Cx k).lp Z 16 [] k (K0 r3 r6 x4 r8 jU jV jW jX jY jZ j0 parts10 v79 ws8 sys9)) t) (by kernel_rfl) (aq (by simp only [Tr];rfl) (dq h))
def FU:Rw S:=ah p8 xn fun a b Z=>aa k (rO k a b) (bN Z)
def Cz:Fx S:=fp 26 [] [(4,dJ [0,1,5] [],bG 5 11)] k f30 0
def K3 (a b:List Cl) (i5:Int):St UU:=⟨[(0,(sC a)),(1,(sC b)),(5,(iI i5))],[],[],[]⟩
section
variable (k:Nat) (a b:List Cl) (Z:Out UU->Option S)
theorem Ts: ∀n i5,(Cz k).lp Z 4 [] n (K3 a b i5)=sY k (bN Z) a b n i5:=iA (yh k (bN Z) a b)
end
theorem I7 (ho:ai o):Tl o 30 (FU k:Rw S):=al (Cz k) trivial func30 fun a b Z x h=>aq (b:=Ht k (bN Z) (fun i5=>(Cz k).lp Z 4 [] k (K3 a b i5)) a b) (by kernel_rfl) (aq (by simp only [Ts];rfl) (dq h))
def wB (hd:ja S):Rw S:=ah Ze xn fun a b Z=>hd a b (bN Z)
def Nn (hd:ja S) (k:Nat):Rw S:=ah Zf xn fun a b Z=>aa k (vf hd k a b) (bN Z)
def CB (hd:ja S) (k:Nat):Fx S:=fp 27 [(14,wB hd)] [(4,dJ [0,1,5] [],bG 5 11)] k f38 0
def K5 (a b:List Tm) (i5:Int):St UU:=⟨[(0,(sT a)),(1,(sT b)),(5,(iI i5))],[],[],[]⟩
section
variable (hd:ja S) (k:Nat) (a b:List Tm) (Z:Out UU->Option S)
theorem Tu: ∀n i5,(CB hd k).lp Z 4 [] n (K5 a b i5)=s8 hd k (bN Z) a b n i5:=iA (yk hd k (bN Z) a b)
end
theorem WJ (o:Obj) (ho:ai o) (hd:ja S) (Hd:Tl o 14 (wB hd)) (k:Nat):Tl o 38 (Nn hd k:Rw S):=al (CB hd k) ⟨Hd,trivial⟩ func38 fun a b Z x h=>aq (b:=Hw hd k (bN Z) (fun i5=>(CB hd k).lp Z 4 [] k (K5 a b i5)) a b) (by kernel_rfl) (aq (by simp only [Tu];rfl) (dq h))
def CA (hd:ja S) (k:Nat):Fx S:=fp 87 [(30,FU k),(38,Nn hd k)] [(4,dJ [2,3,5] [(2,6),(3,6)],bG 5 11)] k f14 0
def K4 (a b:Tm) (i5:Int):St UU:=⟨[(2,(pt 2)),(3,(pt 3)),(5,(iI i5))],[(2,bT a),(3,bT b)],[],[]⟩
section
variable (hd:ja S) (k:Nat) (a b:Tm) (Z:Out UU->Option S)
theorem Tt: ∀n i5,(CA hd k).lp Z 4 [] n (K4 a b i5)=sZ hd k (bN Z) a b n i5:=iA (yj hd k (bN Z) a b)
end
theorem Ev (o:Obj) (ho:ai o): ∀k:Nat,Tl o 14 (wB (gH k:ja S))
 |0=>mJ fun a b Z x h=>by cases h
 |k+1=>al (CA (gH k) k) ⟨I7 k ho,WJ o ho (gH k) (Ev o ho k) k,trivial⟩ func14 fun a b Z x h=>aq (b:=Hv (gH k) k (bN Z) (fun i5=>(CA (gH k) k).lp Z 4 [] k (K4 a b i5)) a b) (by kernel_rfl) (aq (by simp only [Tt];rfl) h)
section
variable (hd:SY S) (k:Nat) (t:Tm) (Z:Out UU->Option S)
end
section
variable (hd:SZ S) (k:Nat) (t:Tm) (Z:Out UU->Option S)
end
section
variable (hd:S0 S) (k:Nat) (t:Tm) (Z:Out UU->Option S)
end
section
variable (k:Nat) (s:ByteArray) (Z:Out UU->Option S)
end
section
variable (k:Nat) (a_n:Int) (Z:Out UU->Option S)
end
section
variable (k:Nat) (l:List Cl) (c:Cl) (Z:Out UU->Option S)
end
section
variable (k:Nat) (l:List Cl) (Z:Out UU->Option S)
end
section
variable (k:Nat) (l:List Int) (Z:Out UU->Option S)
end
section
variable (k:Nat) (f:List Cl) (Z:Out UU->Option S)
end
section
variable (k:Nat) (s:Int) (Z:Out UU->Option S)
end
section
variable (k:Nat) (kind kid:Int) (Z:Out UU->Option S)
end
section
variable (k:Nat) (c:Cl) (Z:Out UU->Option S)
end
section
variable (k:Nat) (f:List Cl) (Z:Out UU->Option S)
end
section
variable (hd:SX S) (k:Nat) (t:Tm) (vars dims:Int) (bound:Bool) (Z:Out UU->Option S)
end
section
variable (k:Nat) (s a_from a_by:Int) (Z:Out UU->Option S)
end
section
variable (k:Nat) (f:List Cl) (a_from a_by:Int) (Z:Out UU->Option S)
end
section
variable (hd:S1 S) (k:Nat) (t:Tm) (v vby d dby:Int) (Z:Out UU->Option S)
end
section
variable (k:Nat) (s i:Int) (Z:Out UU->Option S)
end
section
variable (k:Nat) (l:List Cl) (Z:Out UU->Option S)
end
section
variable (k:Nat) (c:Cl) (Z:Out UU->Option S)
end
section
variable (k:Nat) (a b:Int) (Z:Out UU->Option S)
end
section
variable (k:Nat) (f g:List Cl) (Z:Out UU->Option S)
end
section
variable (k:Nat) (f:List Cl) (Z:Out UU->Option S)
end
section
variable (k:Nat) (f g:List Cl) (Z:Out UU->Option S)
end
section
variable (k:Nat) (f:List Cl) (i:Int) (a_r:List Cl) (Z:Out UU->Option S)
end
section
variable (k:Nat) (f:List Cl) (i:Int) (a_r:List Cl) (Z:Out UU->Option S)
end
section
variable (k:Nat) (s i:Int) (Z:Out UU->Option S)
end
section
variable (k:Nat) (f:List Cl) (i:Int) (Z:Out UU->Option S)
end
section
variable (hd:S4 S) (k:Nat) (t:Tm) (i:Int) (a_r:List Cl) (depth:Int) (drop:Bool) (Z:Out UU->Option S)
end
section
variable (k:Nat) (dR c0_1 bQ:Int) (bR:ByteArray) (bS:List Cl) (bU:List Tm) (bV bW:List (Br Tm)) (Z:Out UU->Option S)
end
section
variable (k:Nat) (dR c0_1 bQ:Int) (bR:ByteArray) (bS:List Cl) (bU:List Tm) (bV bW:List (Br Tm)) (c1:Int) (Z:Out UU->Option S)
end
def Ns:Rw S:=ah Ks xn fun t a sys Z=>aa k (yN k t a sys) (jP Z)
def CD:Fx S:=fp 76 [(186,tD k),(207,wE k),(208,FQ k),(209,Bq k),(210,nN k),(211,F1 k),(212,Bp k),(213,wz k)] [(4,⟨[(4,ab),(6,ab),(8,ab),(9,ab),(27,ab),(28,ab),(29,ab)],[(4,[ab,ab,ab,ab,ab,ab]),(6,[ab,ab,ab,bA 200387,bA 200388,bA 200389]),(9,[ab,ab,ab,bA 200579,ab,bA 200581]),(19000,[ab])]⟩,bG 6 23)] k f120 0
def K9 (a:Tm) (r5:Int×Int×ByteArray×List Tm) (sys:List (Br Tm)) (d_:Int) (b9_5:List (Br Tm)) (v29:Int):St UU:=⟨[(4,(pt 4)),(6,(pt 6)),(8,(pt 19000)),(9,(pt 9)),(27,(sB sys)),(28,(iI sys.length)),(29,(iI v29))],[(4,bT a),(6,.cells [(iI 0),(iI 0),lb,(.own 200387 0),(.own 200388 0),(.own 200389 0)]),(9,.cells [(iI r5.1),(iI r5.2.1),(.str r5.2.2.1),(.own 200579 0),(sT r5.2.2.2),(.own 200581 0)]),(19000,bI d_)],[(200581,⟨0,ET.B,b9_5⟩),(200579,jk),(200389,jF),(200388,kf),(200387,jk)],[(200581,.wr),(200579,.wr),(200389,.wr),(200388,.wr),(200387,.wr)]⟩
section
variable (k:Nat) (t a:Tm) (sys:List (Br Tm)) (Z:Out UU->Option S)
theorem TB (r5): ∀n d_ b9_5 v29,(CD k).lp Z 4 [] n (K9 a r5 sys d_ b9_5 v29)=kS k (jP Z) a r5 sys n d_ b9_5 v29:=ko (rk k (jP Z) a r5 sys)
end
theorem WN (ho:ai o):Tl o 120 (Ns k:Rw S):=al (CD k) ⟨vo k ho,zW k ho,I3 k ho,DZ k ho,om k ho,Jc k ho,DY k ho,zT k ho,trivial⟩ func120 fun t a sys Z x h=>aq (b:=GU k (jP Z) (fun r5 d_ b9_5 v29=>(CD k).lp Z 4 [] k (K9 a r5 sys d_ b9_5 v29)) t a sys) (by kernel_rfl) (aq (by simp only [TB];rfl) (dq h))
def Nt:Rw S:=ah Kt eo fun t a sys c0 Z=>aa k (zH k t a sys c0) (lS Z)
def RO:Fx S:=fp 21 [(93,nK k),(94,nL k),(120,Ns k)] [] k f62 1
theorem WO (ho:ai o):Tl o 62 (Nt k:Rw S):=al (RO k) ⟨oi k ho,oj k ho,WN k ho,trivial⟩ func62 fun t a sys c0 Z x h=>aA h
section
variable (k:Nat) (t:Tm) (dR c0_1 bQ:Int) (bR:ByteArray) (bS:List Cl) (bU:List Tm) (bV bW:List (Br Tm)) (Z:Out UU->Option S)
end
section
variable (k:Nat) (dR c0_1 bQ:Int) (bR:ByteArray) (bS:List Cl) (bU:List Tm) (bV bW:List (Br Tm)) (Z:Out UU->Option S)
end
def Nu:Rw S:=ah EG Qv fun a_x c1 c2 Z=>aa k (zn k a_x c1 c2) (adH c1 Z)
def RP:Fx S:=fp 22 [(56,qL k),(57,Bv k),(58,nI k),(59,k_ k)] [] k f55 3
theorem WP (ho:ai o):Tl o 55 (Nu k:Rw S):=al (RP k) ⟨rV k ho,D5 k ho,og k ho,ly k ho,trivial⟩ func55 fun a_x c1 c2 Z x h=>aA h
def Nv:Rw S:=ah Zg Qv fun l c1 c2 Z=>aa k (IM k l c1 c2) (A0 c1 Z)
def CF:Fx S:=fx 22 (fun _=>[]) (fun _=>false) [(55,Nu k)] [(3,⟨[(1,ab),(5,bA 100005),(8,ab),(9,ab),(10,ab)],[(1000000,[ab]),(1000001,[ab]),(1000002,[ab])]⟩,bG 5 11)] k f54 false [true] 3
def K_ (c1 l:List (Br Tm)) (ke v10:Int) (out5:List (Br Tm)):St UU:=⟨[(1,(.func 55 [] [(pt 1000000),(pt 1000001)])),(5,(.own 100005 0)),(8,(sB l)),(9,(iI l.length)),(10,(iI v10))],[(1000000,.cells [(pt 1000002)]),(1000001,.cells [(sB c1)]),(1000002,bI ke)],[(100005,⟨0,ET.B,out5⟩)],[(100005,.wr)]⟩
section
variable (k:Nat) (l c1:List (Br Tm)) (c2:Int) (Z:Out UU->Option S)
theorem TC: ∀n ke v10 out5,(CF k).lp Z 3 [] n (K_ c1 l ke v10 out5)=sS k (A0 c1 Z) c1 l n ke v10 out5:=ko (xZ k (A0 c1 Z) c1 l)
end
theorem WQ (ho:ai o):Tl o 54 (Nv k:Rw S):=al (CF k) ⟨WP k ho,trivial⟩ func54 fun l c1 c2 Z x h=>aq (b:=PJ k (A0 c1 Z) (fun ke v10 out5=>(CF k).lp Z 3 [] k (K_ c1 l ke v10 out5)) l c1 c2) (by kernel_rfl) (aq (by simp only [TC];rfl) (dq h))
def Nw:Rw S:=ah Zh H6 fun a_x c1 c2 c3 Z=>aa k (zo k a_x c1 c2 c3) (ac0 c1 c2 Z)
def RQ:Fx S:=fp 30 [(56,qL k),(58,nI k),(59,k_ k),(61,wA k),(62,Nt k)] [] k f60 4
theorem WR (ho:ai o):Tl o 60 (Nw k:Rw S):=al (RQ k) ⟨rV k ho,og k ho,ly k ho,zU k ho,WO k ho,trivial⟩ func60 fun a_x c1 c2 c3 Z x h=>aA h
def Nx:Rw S:=ah J7 H6 fun l c1 c2 c3 Z=>aa k (DN k l c1 c2 c3) (A1 c1 c2 Z)
def CG:Fx S:=fx 22 (fun _=>[]) (fun _=>false) [(60,Nw k)] [(3,⟨[(1,ab),(5,bA 100005),(8,ab),(9,ab),(10,ab)],[(1000000,[ab]),(1000001,[ab,ab,ab,ab,ab,ab]),(1000002,[ab,ab,ab,ab,ab,ab]),(1000003,[ab])]⟩,bG 5 11)] k f54 false [true] 4
def La (c1 c2:Tm) (l:List (Br Tm)) (ez v10:Int) (out5:List (Br Tm)):St UU:=⟨[(1,(.func 60 [] [(pt 1000000),(pt 1000001),(pt 1000002)])),(5,(.own 100005 0)),(8,(sB l)),(9,(iI l.length)),(10,(iI v10))],[(1000000,.cells [(pt 1000003)]),(1000001,bT c1),(1000002,bT c2),(1000003,bI ez)],[(100005,⟨0,ET.B,out5⟩)],[(100005,.wr)]⟩
section
variable (k:Nat) (l:List (Br Tm)) (c1 c2:Tm) (c3:Int) (Z:Out UU->Option S)
theorem TD: ∀n ez v10 out5,(CG k).lp Z 3 [] n (La c1 c2 l ez v10 out5)=sR k (A1 c1 c2 Z) c1 c2 l n ez v10 out5:=ko (xY k (A1 c1 c2 Z) c1 c2 l)
end
theorem WS (ho:ai o):Tl o 54 (Nx k:Rw S):=al (CG k) ⟨WR k ho,trivial⟩ func54 fun l c1 c2 c3 Z x h=>aq (b:=PH k (A1 c1 c2 Z) (fun ez v10 out5=>(CG k).lp Z 3 [] k (La c1 c2 l ez v10 out5)) l c1 c2 c3) (by kernel_rfl) (aq (by simp only [TD];rfl) (dq h))
def Ny:Rw S:=ah EG H7 fun a_x c0 c1 Z=>aa k (DK k a_x c0 c1) (ac1 c0 c1 Z)
def RR:Fx S:=fp 18 [(59,k_ k),(63,tF k)] [] k f64 2
theorem WT (ho:ai o):Tl o 64 (Ny k:Rw S):=al (RR k) ⟨ly k ho,vq k ho,trivial⟩ func64 fun a_x c0 c1 Z x h=>aA h
def Nz:Rw S:=ah J8 H7 fun l c0 c1 Z=>aa k (va k l c0 c1) (A2 c0 c1 Z)
def CH:Fx S:=fx 22 (fun _=>[]) (fun _=>false) [(64,Ny k)] [(3,⟨[(1,ab),(5,bA 100005),(8,ab),(9,ab),(10,ab)],[(1000000,[ab,ab,ab,ab,ab,ab]),(1000001,[ab,ab,ab,ab,ab,ab])]⟩,bG 5 11)] k f54 false [true] 2
def Lb (c0 c1:Tm) (l:List (Br Tm)) (v10:Int) (out5:List (Br Tm)):St UU:=⟨[(1,(.func 64 [] [(pt 1000000),(pt 1000001)])),(5,(.own 100005 0)),(8,(sB l)),(9,(iI l.length)),(10,(iI v10))],[(1000000,bT c0),(1000001,bT c1)],[(100005,⟨0,ET.B,out5⟩)],[(100005,.wr)]⟩
section
variable (k:Nat) (l:List (Br Tm)) (c0 c1:Tm) (Z:Out UU->Option S)
theorem TE: ∀n v10 out5,(CH k).lp Z 3 [] n (Lb c0 c1 l v10 out5)=sQ k (A2 c0 c1 Z) c0 c1 l n v10 out5:=dQ (xX k (A2 c0 c1 Z) c0 c1 l)
end
theorem WU (ho:ai o):Tl o 54 (Nz k:Rw S):=al (CH k) ⟨WT k ho,trivial⟩ func54 fun l c0 c1 Z x h=>aq (b:=Hm k (A2 c0 c1 Z) (fun v10 out5=>(CH k).lp Z 3 [] k (Lb c0 c1 l v10 out5)) l c0 c1) (by kernel_rfl) (aq (by simp only [TE];rfl) (dq h))
def FV:Rw S:=ah np xn fun t Z=>aa k (u5 k t) (wy Z)
def RS:Fx S:=fp 79 [(40,nJ k),(41,oV (fF k)),(42,FY k),(53,FR k),(54,nG (pW J8 H7) (Nz k) (nG (pW J7 H6) (Nx k) (Nv k))),(57,Bv k),(63,tF k)] [] k f24 0
theorem I8 (ho:ai o):Tl o 24 (FV k:Rw S):=al (RS k) ⟨oh k ho,sk o ho k,I_ k ho,I4 k ho,qF (WU k ho) (qF (WS k ho) (WQ k ho)),D5 k ho,vq k ho,trivial⟩ func24 fun t Z x h=>aA h
section
variable (k:Nat) (kind:Int) (kids:List Tm) (Z:Out UU->Option S)
end
section
variable (k:Nat) (a_k a:Tm) (sys:List (Br Tm)) (Z:Out UU->Option S)
end
section
variable (k:Nat) (kind:Int) (sys:List (Br Tm)) (Z:Out UU->Option S)
end
section
variable (k:Nat) (kind:Int) (l:List (Br Tm)) (Z:Out UU->Option S)
end
section
variable (k:Nat) (l:List Tm) (Z:Out UU->Option S)
end
section
variable (k:Nat) (t a:Tm) (sys:List (Br Tm)) (Z:Out UU->Option S)
end
section
variable (hd:S2 S) (k:Nat) (t:Tm) (a_n:Int) (Z:Out UU->Option S)
end
section
variable (k:Nat) (t:Tm) (a_from a_by:Int) (Z:Out UU->Option S)
end
section
variable (k:Nat) (t:Tm) (vars dims:Int) (Z:Out UU->Option S)
end
section
variable (hd:S3 S) (k:Nat) (t:Tm) (a_n:Int) (u:Tm) (vars dims:Int) (Z:Out UU->Option S)
end
section
variable (k:Nat) (line a:Tm) (sys:List (Br Tm)) (Z:Out UU->Option S)
end
section
variable (k:Nat) (a_k a:Tm) (sys:List (Br Tm)) (Z:Out UU->Option S)
end
section
variable (k:Nat) (kind:Int) (kids:List Tm) (Z:Out UU->Option S)
end
section
variable (k:Nat) (a:Tm) (sys:List (Br Tm)) (Z:Out UU->Option S)
end
section
variable (k:Nat) (g:Tm) (Z:Out UU->Option S)
end
section
variable (k:Nat) (t:Tm) (Z:Out UU->Option S)
end
section
variable (hd:SU S) (k:Nat) (t:Tm) (Z:Out UU->Option S)
end
def NE:Rw S:=ah vH xn fun t vars dims Z=>aa k (rP k t vars dims) (dt Z)
def RZ:Fx S:=fp 28 [(50,FJ k),(51,tH (jD k))] [] k f20 0
theorem WY (ho:ai o):Tl o 20 (NE k:Rw S):=al (RZ k) ⟨IX k ho,Ew o ho k,trivial⟩ func20 fun t vars dims Z x h=>aA h
section
variable (k:Nat) (a b:Tm) (Z:Out UU->Option S)
end
def NG:Rw S:=ah np xn fun t Z=>aa k (zy k t) (bN Z)
def R0:Fx S:=fp 6 [(9,FI (kO k))] [] k f22 0
theorem W4 (ho:ai o):Tl o 22 (NG k:Rw S):=al (R0 k) ⟨JQ o ho k,trivial⟩ func22 fun t Z x h=>aA h
def NH:Rw S:=ah EF xn fun kind kids Z=>aa k (jC k kind kids) (AZ Z)
def R1:Fx S:=fx 8 (fun _=>[]) (fun _=>false) [] [] k f52 true [] 0
theorem W5 (ho:ai o):Tl o 52 (NH k:Rw S):=al (R1 k) trivial func52 fun kind kids Z x h=>aA h
def NI:Rw S:=ah cn xn fun Z=>aa k (zz k) (bN Z)
def R2:Fx S:=fp 77 [(14,wB (gH k)),(24,FV k),(27,FT k),(52,NH k)] [] k f23 0
theorem W6 (ho:ai o):Tl o 23 (NI k:Rw S):=al (R2 k) ⟨Ev o ho k,I8 k ho,I6 k ho,W5 k ho,trivial⟩ func23 fun Z x h=>aA h
def FX (hd:li S):Rw S:=ah np xn fun t Z=>hd t (dt Z)
def px (hd:li S) (k:Nat):Fx S:=fp 56 [(26,FX hd),(49,qJ k)] [(3,dJ [1,3,13,14,15] [(1,6)],bG 5 11),(9,dJ [3,35,36,37] [],bG 6 23),(12,dJ [3,35,36,37,42,43,44] [],bG 14 6551)] k f26 0
def Fc (t:Tm) (v15 sum3:Int):St UU:=⟨[(1,(pt 1)),(3,(iI sum3)),(13,(sT t.kids)),(14,(iI t.kids.length)),(15,(iI v15))],[(1,bT t)],[],[]⟩
def vX (t:Tm) (sum3' v37:Int):St UU:=⟨[(3,(iI sum3')),(35,(sB t.sys)),(36,(iI t.sys.length)),(37,(iI v37))],[],[],[]⟩
def Le (t:Tm) (v37:Int) (x4:(Br Tm)) (sum3'' v44:Int):St UU:=⟨[(3,(iI sum3'')),(35,(sB t.sys)),(36,(iI t.sys.length)),(37,(iI v37)),(42,(sT x4.kids)),(43,(iI x4.kids.length)),(44,(iI v44))],[],[],[]⟩
section
variable (hd:li S) (k:Nat) (t:Tm) (Z:Out UU->Option S)
theorem TJ (v37 x4 Z1): ∀n sum3'' v44,(px hd k).lp Z 12 [Z1] n (Le t v37 x4 sum3'' v44)=qf hd k (dt Z) (fun sum3' v37=>Z1 (vX t sum3' v37)) t v37 x4 n sum3'' v44:=dQ (yd hd k (dt Z) t v37 x4 (fun sum3' v37=>Z1 (vX t sum3' v37)))
theorem TI: ∀n sum3' v37,(px hd k).lp Z 9 [] n (vX t sum3' v37)=nx hd k (dt Z) t n sum3' v37:=dQ (fun own=>ux hd k (dt Z) t (fun v37 x4 sum3'' v44=>qf hd k (dt Z) own t v37 x4 k sum3'' v44) own) rfl (fun _=>rfl) fun r sum3' v37=>aq (b:=ux hd k (dt Z) t (fun v37 x4 sum3'' v44=>(px hd k).lp Z 12 [r] k (Le t v37 x4 sum3'' v44)) (fun sum3' v37=>r (vX t sum3' v37)) sum3' v37) (by kernel_rfl) (by simp only [TJ])
theorem TH: ∀n v15 sum3,(px hd k).lp Z 3 [] n (Fc t v15 sum3)=sX hd k (dt Z) t n v15 sum3:=dQ (fun own=>uw hd k (dt Z) t (fun sum3' v37=>nx hd k (dt Z) t k sum3' v37) own) rfl (fun _=>rfl) fun r v15 sum3=>aq (b:=uw hd k (dt Z) t (fun sum3' v37=>(px hd k).lp Z 9 [] k (vX t sum3' v37)) (fun v15 sum3=>r (Fc t v15 sum3)) v15 sum3) (by kernel_rfl) (by simp only [TI])
end
theorem JS (o:Obj) (ho:ai o): ∀k:Nat,Tl o 26 (FX (kL k:li S))
 |0=>mJ fun t Z x h=>by cases h
 |k+1=>al (px (kL k) k) ⟨JS o ho k,rT k ho,trivial⟩ func26 fun t Z x h=>aq (b:=Hq (kL k) k (dt Z) (fun v15 sum3=>(px (kL k) k).lp Z 3 [] k (Fc t v15 sum3)) t) (by kernel_rfl) (aq (by simp only [TH];rfl) h)
def By:Rw S:=ah vH xn fun t vars many Z=>aa k (zx k t vars many) (bN Z)
def mS:Fx S:=fp 152 [(14,wB (gH k)),(20,NE k),(22,NG k),(23,NI k),(24,FV k),(26,FX (kL k)),(27,FT k),(28,tC k),(29,wG k),(30,FU k)] [(1000009,dJ [1,2,3,7,8,10,11] [(3,6),(7,6),(10,6)],bG 6 63),(1000011,dJ [1,2,3,7,10,11] [(3,6),(7,6),(10,6)],bG 7 127),(1000021,dJ [13,14] [(13,6),(14,6)],bG 11 2047),(22,dJ [13,14,133,134] [(13,6),(14,6)],bG 14 6143)] k f7 0
def Lf (r6:Tm×Bool×Int) (t:Tm) (r5:Tm×Bool×Int) (vars many:Int):St UU:=⟨[(1,(iI vars)),(2,(iI many)),(3,(pt 3)),(7,(pt 7)),(8,(.bool r5.2.1)),(10,(pt 10)),(11,(.bool r6.2.1))],[(3,bT t),(7,bT r5.1),(10,bT r6.1)],[],[]⟩
def Lg (r6:Tm×Bool×Int) (t:Tm) (r5:Tm×Bool×Int) (vars many:Int):St UU:=⟨[(1,(iI vars)),(2,(iI many)),(3,(pt 3)),(7,(pt 7)),(10,(pt 10)),(11,(.bool r6.2.1))],[(3,bT t),(7,bT r5.1),(10,bT r6.1)],[],[]⟩
def Lh (b13 b14:Tm):St UU:=⟨[(13,(pt 13)),(14,(pt 14))],[(13,bT b13),(14,bT b14)],[],[]⟩
def Li (b13 b14:Tm) (v134:Int):St UU:=⟨[(13,(pt 13)),(14,(pt 14)),(133,(iI b13.sys.length)),(134,(iI v134))],[(13,bT b13),(14,bT b14)],[],[]⟩
section
variable (k:Nat) (t:Tm) (vars many:Int) (Z:Out UU->Option S)
theorem TN (b13 b14): ∀n v134,(mS k).lp Z 22 [] n (Li b13 b14 v134)=oM k (bN Z) b13 b14 n v134:=iA (yc k (bN Z) b13 b14)
theorem TM: ∀n b13 b14,(mS k).jn Z 1000021 [] n (Lh b13 b14)=qe k (bN Z) n b13 b14:=JZ (C3 k (bN Z) (fun b13 b14 v134=>oM k (bN Z) b13 b14 k v134)) rfl (fun _=>rfl) (fun b13 b14=>aq (b:=C3 k (bN Z) (fun b13 b14 v134=>(mS k).lp Z 22 [] k (Li b13 b14 v134)) b13 b14) (by kernel_rfl) (by simp only [TN]))
theorem TL (r6 r5): ∀n,(mS k).jn Z 1000011 [] n (Lg r6 t r5 vars many)=sW k (bN Z) r6 t r5 vars many n:=EC (pG k (bN Z) r6 t r5 vars many (fun b13 b14=>qe k (bN Z) k b13 b14)) rfl (fun _=>rfl) (aq (b:=pG k (bN Z) r6 t r5 vars many (fun b13 b14=>(mS k).jn Z 1000021 [] k (Lh b13 b14))) (by kernel_rfl) (by simp only [TM]))
theorem TK (r6 r5): ∀n,(mS k).jn Z 1000009 [] n (Lf r6 t r5 vars many)=jK k (bN Z) r6 t r5 vars many n:=EC (rl k (bN Z) r6 t r5 vars many (sW k (bN Z) r6 t r5 vars many k)) rfl (fun _=>rfl) (aq (b:=rl k (bN Z) r6 t r5 vars many ((mS k).jn Z 1000011 [] k (Lg r6 t r5 vars many))) (by kernel_rfl) (by simp only [TL]))
end
theorem W7 (ho:ai o):Tl o 7 (By k:Rw S):=al (mS k) ⟨Ev o ho k,WY k ho,W4 k ho,W6 k ho,I8 k ho,JS o ho k,I6 k ho,vn k ho,zY k ho,I7 k ho,trivial⟩ func7 fun t vars many Z x h=>aq (b:=Hp k (bN Z) (fun r6 r5=>(mS k).jn Z 1000009 [] k (Lf r6 t r5 vars many)) t vars many) (by kernel_rfl) (aq (by simp only [TK];rfl) (dq h))
section
variable (hd:ST S) (k:Nat) (t:Tm) (Z:Out UU->Option S)
end
theorem ago (o:Obj) (ho:ai o) (k:Nat):Tl o 7 (By k:Rw S):=W7 k ho
end
end Go.Proofs.YtgajalidbabccaaGreatDoor
namespace Go.Proofs.YtgajalidbabccaaGreatDoor
open Go PI
variable {S:Type} {k:Nat}
def bE {α β:Type} (x:Except Int α) (f:α->Except Int β):Except Int β:=match x with
 | .error e=> .error e
 | .ok a=>f a
theorem bO {α β:Type} (a:α) (f:α->Except Int β):bE (.ok a) f=f a:=rfl
theorem rf {α β:Type} (e:Int) (f:α->Except Int β):bE (.error e) f= .error e:=rfl
theorem am {α β:Type} {x:Except Int α} {f:α->Except Int β} {b:β} (h:bE x f= .ok b): ∃a,x= .ok a/\f a= .ok b:=by
 cases x with
 |error e=>cases h
 |ok a=>exact ⟨a,rfl,h⟩
theorem dj {α β:Type} {x:Except Int α} {f:α->Except Int β} {e:Int} (h:bE x f= .error e):x= .error e\/ ∃a,x= .ok a/\f a= .error e:=by
 cases x with
 |error e=>injection h with h;grind
 |ok a=>exact .inr ⟨a,rfl,h⟩
def fj (x:LC×Int):Except Int (LC):=if x.2=0 then .ok x.1 else .error x.2
theorem qW {x:LC×Int} (h:x.2=0):fj x= .ok x.1:=if_pos h
theorem tZ {x:LC×Int} (h:x.2≠0):fj x= .error x.2:=if_neg h
theorem ju {x:LC×Int} {l:LC} (h:fj x= .ok l):x.2=0/\x.1=l:=by
 grind [fj]
theorem B5 {x:LC×Int} {e:Int} (h:fj x= .error e):x.2≠0/\x.2=e:=by
 grind [fj]
def EN (e:Int):Prop:=0<=e/\e<=1000
theorem vw:EN 0:=by unfold EN;omega
theorem nf:EN 2:=by unfold EN;omega
theorem XQ:EN 3:=by unfold EN;omega
theorem XP:EN 10:=by unfold EN;omega
theorem tg (l:LC):EN (dE l).2:=by
 grind [dE,XQ,vw,nf]
theorem Am {step:LC->Cl->LC×Int} (hs: ∀h c,EN (step h c).2): ∀ {r h:LC},EN (dO step h r).2:=by
 intro r
 induction r<;>grind [vw,dO]
theorem abg (s i b:Int):EN (eP s i b).2:=by
 grind [eP,nf,kn,vw,XP]
theorem aa8 (c:Cl) (i b:Int):EN (gK c i b).2:=by
 grind [gK,abg,nf]
theorem vQ (f:LC) (i b:Int):EN (du f i b).2:=by
 unfold du
 split
 ·split
  ·exact tg _
  ·exact Am fun h c=>aa8 c i b
 ·exact nf
theorem PT {n b x y:Nat} (h:il n b x=il n b y):x=y:=by
 grind [il]
theorem agB (n b:Nat) {l:List Nat} (h:l.Nodup):(l.map (il n b)).Nodup:=
 List.Pairwise.map (S:=fun a b=>a≠b) (R:=fun a b=>a≠b) _ (fun x y hxy h=>hxy (PT h)) h
theorem abe {m n b:Nat} (h:(kn m n b).2=0) (j:Nat):(kn m n b).1.testBit j=true↔ ∃x,x<24/\m.testBit x=true/\il n b x=j:=by
 rw [Kz] at h ⊢
 split<;>grind [GM,agB,Db,mem_bitsN]
theorem UF {m:Nat} (h:m<16777216):m&&&M24=m:=by
 apply Nat.eq_of_testBit_eq
 grind [nW,pI]
theorem Ye {i b:Int}: ∀ {r h:LC},(dO (iP i b) h r).2=0->(∀c∈r,(gK c i b).2=0)/\(dO (iP i b) h r).1=h++r.map fun c=>(gK c i b).1:=by
 intro r
 induction r<;>grind [dO,iP]
theorem aba {f:LC} {i b:Int} (h:(du f i b).2=0): ∀c∈(du f i b).1,∃d∈f,(gK d i b).2=0/\c=(gK d i b).1:=by
 grind [du,Ye,dE,mem_mins]
theorem Vl {c:Cl}:eW c=false↔ ∀j,¬ (c.pos.toNat.testBit j=true/\c.neg.toNat.testBit j=true):=by
 unfold eW
 rw [Bool.not_eq_false',decide_eq_true_eq]
 constructor
 ·intro h j ⟨h1,h2⟩
  have:(c.pos.toNat&&&c.neg.toNat).testBit j=true:=by grind
  grind
 ·intro h
  apply Nat.eq_of_testBit_eq
  grind
theorem abf {s i b:Int} (h:(eP s i b).2=0) {j:Nat} (hj:(eP s i b).1.toNat.testBit j=true): ∃x,s.toNat.testBit x=true/\il i.toNat b.toNat x=j:=by
 unfold eP at h hj
 split at h
 ·cases h
 ·next hn=>
  rw [if_neg hn] at hj
  have h':(kn s.toNat i.toNat b.toNat).2=0:=by
   omega
  obtain ⟨x,_,h2,h3⟩:=(abe h' j).1 hj
  grind
theorem aa7 {c:Cl} {i b:Int} (h:(gK c i b).2=0) (hc:eW c=false):eW (gK c i b).1=false:=by
 grind [Vl,gK,abf,PT]
def eB (d b:Int) (f:LC):Except Int (LC):=if b=0\/d>=24 then .ok f else fj (du f d b)
theorem wL {d b:Int} {f g:LC} (hf:RF f) (h:eB d b f= .ok g):RF g:=by
 grind [eB,ju,km]
theorem OD {d b:Int} {f:LC} {e:Int} (h:eB d b f= .error e):0<e/\e<=1000:=by
 grind [eB,B5,vQ,EN]
theorem ad3 {d b:Int} {f g:LC} (hf:f.all (fun c=> !eW c)=true) (h:eB d b f= .ok g):g.all (fun c=> !eW c)=true:=by
 grind [eB,ju,aba,aa7]
theorem Gm (d b:Int):eB d b []= .ok []:=by
 unfold eB
 split
 all_goals rfl
mutual
def dP (vb db v d:Int):Tm->Except Int Tm
 | .mk kd n nm r ks sys=>
  if kd=1/\n>=v/\n>1000000000-vb then .error 100
  else bE (eB d db r) fun r'=>bE (gY vb db v d kd 0 ks) fun ks'=>bE (eY vb db v d kd sys) fun sys'=> .ok (.mk kd (if kd=1/\n>=v then n+vb else n) nm r' ks' sys')
def gY (vb db v d kd:Int) (i:Nat):LT->Except Int (LT)
 |[]=> .ok []
 |t::l=>bE (dP vb db (v+cY kd i) (d+bJ kd i) t) fun t'=>bE (gY vb db v d kd (i+1) l) fun l'=> .ok (t'::l')
def eY (vb db v d kd:Int):LB->Except Int (LB)
 |[]=> .ok []
 |b::l=>bE (qv vb db v d kd b) fun b'=>bE (eY vb db v d kd l) fun l'=> .ok (b'::l')
def qv (vb db v d kd:Int):Br Tm->Except Int (Br Tm)
 | .mk f ks=>bE (eB d db f) fun f'=>bE (gZ vb db v d kd ks) fun ks'=> .ok (.mk f' ks')
def gZ (vb db v d kd:Int):LT->Except Int (LT)
 |[]=> .ok []
 |t::l=>bE (dP vb db v (d+aN kd) t) fun t'=>bE (gZ vb db v d kd l) fun l'=> .ok (t'::l')
end
mutual
def RowsT:Tm->Prop
 | .mk kd n nm r ks sys=>(RF r/\(kd=1->r=[])/\0<=kd)/\ep ks/\f8 sys
def ep:LT->Prop
 |[]=>True
 |t::l=>RowsT t/\ep l
def f8:LB->Prop
 |[]=>True
 |b::l=>mV b/\f8 l
def mV:Br Tm->Prop
 | .mk f ks=>RF f/\ep ks
end
theorem rowsK_iff: ∀ {l:LT},ep l↔ ∀t∈l,RowsT t:=by
 intro l
 induction l<;>grind [ep]
theorem Gr {b:Br Tm}:mV b↔RF b.face/\ ∀t∈b.kids,RowsT t:=by cases b;rw [mV,rowsK_iff]
theorem rowsS_iff: ∀ {l:LB},f8 l↔ ∀b∈l,RF b.face/\ ∀t∈b.kids,RowsT t:=by
 intro l
 induction l<;>grind [f8,Gr]
inductive F2 {α β:Type} (R:α->β->Prop):List α->List β->Prop
 |nil:F2 R [] []
 |cons {a:α} {b:β} {l:List α} {m:List β}:R a b->F2 R l m->F2 R (a::l) (b::m)
theorem F2.len {α β:Type} {R:α->β->Prop} {l:List α} {m:List β} (h:F2 R l m):m.length=l.length:=by
 induction h<;>grind
theorem F2.imp {α β:Type} {R Q:α->β->Prop} {l:List α} {m:List β} (h:F2 R l m) (hq: ∀a b,R a b->Q a b):F2 Q l m:=by
 induction h<;>grind [nil,cons]
theorem abb {vb db v d kd:Int} {R:Tm->Tm->Prop}: ∀ {l:LT} {i:Nat} {l':LT},(∀x∈l,∀v d x',dP vb db v d x= .ok x'->R x x')->gY vb db v d kd i l= .ok l'->F2 R l l':=by
 intro l
 induction l with
 |nil=>intro i l' _ h;rw [gY] at h;injection h with h;subst h;exact .nil
 |cons t l ih=>
  intro i l' hr h
  rw [gY] at h
  obtain ⟨t',h1,h⟩:=am h
  obtain ⟨m,h2,h⟩:=am h
  injection h with h;subst h
  exact .cons (hr t (by simp) _ _ _ h1) (ih (fun x hx=>hr x (by simp [hx])) h2)
theorem abc {vb db v d kd:Int} {R:Tm->Tm->Prop}: ∀ {l:LT} {l':LT},(∀x∈l,∀v d x',dP vb db v d x= .ok x'->R x x')->gZ vb db v d kd l= .ok l'->F2 R l l':=by
 intro l
 induction l with
 |nil=>intro l' _ h;rw [gZ] at h;injection h with h;subst h;exact .nil
 |cons t l ih=>
  intro l' hr h
  rw [gZ] at h
  obtain ⟨t',h1,h⟩:=am h
  obtain ⟨m,h2,h⟩:=am h
  injection h with h;subst h
  exact .cons (hr t (by simp) _ _ _ h1) (ih (fun x hx=>hr x (by simp [hx])) h2)
theorem abh {vb db v d kd:Int} {R:Tm->Tm->Prop}: ∀ {l l':LB},(∀b∈l,∀x∈b.kids,∀v d x',dP vb db v d x= .ok x'->R x x')->eY vb db v d kd l= .ok l'->
  F2 (fun b b'=>eB d db b.face= .ok b'.face/\F2 R b.kids b'.kids) l l':=by
 intro l
 induction l with
 |nil=>intro l' _ h;rw [eY] at h;injection h with h;subst h;exact .nil
 |cons b l ih=>
  intro l' hr h
  rw [eY] at h
  obtain ⟨b',h1,h⟩:=am h
  obtain ⟨m,h2,h⟩:=am h
  injection h with h;subst h
  cases b with
  |mk f ks=>
   rw [qv] at h1
   obtain ⟨f',h3,h1⟩:=am h1
   obtain ⟨ks',h4,h1⟩:=am h1
   injection h1 with h1;subst h1
   exact .cons ⟨h3,abc (hr ⟨f,ks⟩ (by simp)) h4⟩ (ih (fun b hb=>hr b (by simp [hb])) h2)
theorem AI {f:LC} {d:Int} (h:24<=d):bM f d=true:=by
 grind [bM,mem_bitsN]
def Up (x x':Tm):Prop:=ap x'=ap x/\aG x'=aG x/\x'.kind=x.kind/\(OkT x->OkT x'/\(RowsT x->RowsT x')/\ ∀dd dd',24<=dd->24<=dd'->aE false (-1) dd x=true->aE false (-1) dd' x'=true)
theorem PX {l l':LT} (h:F2 Up l l'):bj l'=bj l:=by
 induction h with
 |nil=>rfl
 |cons h1 _ ih=>rw [bj,bj,h1.1,ih]
theorem P0 {l l':LT} (h:F2 Up l l'):aD l'=aD l:=by
 induction h with
 |nil=>rfl
 |cons h1 _ ih=>rw [aD,aD,h1.2.1,ih]
theorem agI {l l':LB} (h:F2 (fun b b':Br Tm=>F2 Up b.kids b'.kids) l l'):bB l'=bB l:=by
 induction h with
 |nil=>rfl
 |cons h1 _ ih=>grind [bB,zO,PX]
theorem agJ {l l':LB} (h:F2 (fun b b':Br Tm=>F2 Up b.kids b'.kids) l l'):aJ l'=aJ l:=by
 induction h with
 |nil=>rfl
 |cons h1 _ ih=>grind [aJ,qS,P0]
theorem PY {l l':LT} (h:F2 Up l l'):aK l->aK l':=by
 induction h with
 |nil=>exact id
 |cons h1 _ ih=>rw [aK,aK];exact fun h=>⟨(h1.2.2.2 h.1).1,ih h.2⟩
theorem PZ {l l':LT} (h:F2 Up l l'):aK l->ep l->ep l':=by
 induction h with
 |nil=>simp
 |cons h1 _ ih=>rw [aK,ep,ep];exact fun h g=>⟨(h1.2.2.2 h.1).2.1 g.1,ih h.2 g.2⟩
theorem HT (v:Int):cL (-1) v= -1:=by rfl
theorem agG {kd dd dd':Int} (h1:24<=dd) (h2:24<=dd') {l l':LT} (h:F2 Up l l'): ∀ {i:Nat},aK l->bK false (-1) dd kd i l=true->bK false (-1) dd' kd i l'=true:=by
 induction h with
 |nil=>exact fun _ h=>h
 |cons h3 _ ih=>
  intro i
  rw [aK,bK,bK,af,af,HT]
  have:=jA kd i
  exact fun h g=>⟨(h3.2.2.2 h.1).2.2 _ _ (by omega) (by omega) g.1,ih h.2 g.2⟩
theorem agH {kd dd dd':Int} (h1:24<=dd) (h2:24<=dd') {l l':LT} (h:F2 Up l l'):aK l->dn false (-1) dd kd l=true->dn false (-1) dd' kd l'=true:=by
 induction h with
 |nil=>exact fun _ h=>h
 |cons h3 _ ih=>
  rw [aK,dn,dn,af,af]
  have:=jM kd
  exact fun h g=>⟨(h3.2.2.2 h.1).2.2 _ _ (by omega) (by omega) g.1,ih h.2 g.2⟩
def q_ (d db:Int) (b b':Br Tm):Prop:=eB d db b.face= .ok b'.face/\F2 Up b.kids b'.kids
theorem OE {d db:Int} {f g:LC} (h:eB d db f= .ok g) (hf:av f) (hl:f.length<1073741824):av g/\g.length<1073741824:=by
 unfold eB at h
 split at h
 ·grind
 ·obtain ⟨h1,rfl⟩:=ju h
  have:=km h1
  exact ⟨this.2,by have:=this.len;omega⟩
theorem Gn {d db:Int} {f g:LC} (h:eB d db f= .ok g) (hf:av f) (hr:dT f=true):dT g=true:=(wL ((lX hf).1 hr) h).right
theorem wK {d db:Int} {f g:LC} (h:eB d db f= .ok g) (hf:av f) (hr:cm f=true):cm g=true:=by
 grind [cm,Gn,ad3]
theorem wJ {d db:Int} {f g:LC} (h:eB d db f= .ok g) (hf:f.length=0):g.length=0:=by
 grind [Gm]
theorem agD {d db:Int} {l l':LB} (h:F2 (q_ d db) l l'):bk l->bk l':=by
 induction h with
 |nil=>exact id
 |cons h1 _ ih=>
  rw [bk,bk,qB,qB]
  intro h
  have h3:=OE h1.1 h.1.1.1 h.1.1.2.1
  exact ⟨⟨⟨h3.1,h3.2,by have:=h1.2.len;omega⟩,okK_iff.1 (PY h1.2 (okK_iff.2 h.1.2))⟩,ih h.2⟩
theorem agF {d db:Int} {l l':LB} (h:F2 (q_ d db) l l'):bk l->f8 l->f8 l':=by
 induction h with
 |nil=>simp
 |cons h1 _ ih=>
  rw [bk,qB,f8,f8,Gr,Gr]
  intro h g
  exact ⟨⟨wL g.1.1 h1.1,rowsK_iff.1 (PZ h1.2 (okK_iff.2 h.1.2) (rowsK_iff.2 g.1.2))⟩,ih h.2 g.2⟩
theorem agC {d db kd dd dd':Int} (h1:24<=dd) (h2:24<=dd') {l l':LB} (h:F2 (q_ d db) l l'):bk l->aL false (-1) dd kd l=true->aL false (-1) dd' kd l'=true:=by
 induction h with
 |nil=>exact fun _ h=>h
 | @cons a b _ _ h3 _ ih=>
  rw [bk,qB,aL,aL,af,af]
  intro h g
  refine ⟨?_,ih h.2 g.2⟩
  cases a;cases b
  have g1:=g.1
  rw [g8] at g1 ⊢
  exact agH h1 h2 h3.2 (okK_iff.2 h.1.2) g1
theorem agE {d db kd dd dd':Int} (h1:24<=dd) (h2:24<=dd') {l l':LB} (h:F2 (q_ d db) l l'):bk l->l.all (aR kd dd)=true->l'.all (aR kd dd')=true:=by
 induction h with
 |nil=>simp
 | @cons a b _ _ h3 _ ih=>
  rw [bk,qB,fq,fq,af,af]
  intro h g
  refine ⟨?_,ih h.2 g.2⟩
  have g1:=g.1
  unfold aR at g1 ⊢
  rw [af,af,decide_eq_true_eq] at g1 ⊢
  rw [h3.2.len]
  exact ⟨g1.1,wK h3.1 h.1.1.1 g1.2.1,AI h2⟩
theorem PW {d db:Int} {l l':LB} (h:F2 (q_ d db) l l'):F2 (fun b b':Br Tm=>F2 Up b.kids b'.kids) l l':=h.imp fun _ _ h=>h.2
theorem EX {vb db:Int} (hvb:0<=vb) (hvb':vb<=1000000000) (t:Tm): ∀v d t',dP vb db v d t= .ok t'->Up t t':=by
 induction t using ik with
 |h kd n nm r ks sys ih1 ih2=>
  intro v d t' h
  rw [dP] at h
  split at h
  ·cases h
  next hv=>
  obtain ⟨r',hr,h⟩:=am h
  obtain ⟨ks',hk,h⟩:=am h
  obtain ⟨sys',hs,h⟩:=am h
  injection h with h;subst h
  have fk:F2 Up ks ks':=abb (fun x hx v d x'=>ih1 x hx v d x') hk
  have fs:F2 (q_ d db) sys sys':=abh (fun b hb x hx v d x'=>ih2 b hb x hx v d x') hs
  refine ⟨?_, ?_,rfl,fun hok=> ?_⟩
  ·grind [ap,PX,agI,PW]
  ·grind [aG,P0,agJ,PW]
  ·obtain ⟨o1,o2,o3,o4,o5,o6,o7⟩:=hok.node
   have hok':=hok
   rw [OkT] at hok'
   obtain ⟨_,ok,os⟩:=hok'
   have hr':=OE hr o4 o5
   have o2':=o2
   unfold aI at o2'
   refine ⟨?_, ?_, ?_⟩
   ·rw [OkT]
    refine ⟨⟨o1, ?_,o3,hr'.1,hr'.2,by rw [fk.len];exact o6,by rw [fs.len];exact o7⟩,PY fk ok,agD fs os⟩
    grind [aI]
   ·grind [RowsT,wL,PZ,agF,Gm]
   ·intro dd dd' h1 h2
    rw [aE,aE]
    simp only [Bool.false_and,ef,Bool.true_and,af]
    rintro ⟨a,b,c⟩
    refine ⟨?_,agG h1 h2 fk ok b,agC h1 h2 fs os c⟩
    unfold dS at a ⊢
    simp only [af,decide_eq_true_eq,fk.len,fs.len] at a ⊢
    grind [wJ,Gn,AI,wK,agE]
theorem ZY {kd:Int} {n:Nat} (h:jJ kd=n):0<=kd:=by
 grind [jJ]
theorem Uy {bd:Bool} (t:Tm): ∀ {vars dims:Int},OkT t->aE bd vars dims t=true->RowsT t:=by
 induction t using ik with
 |h kd n nm r ks sys ih1 ih2=>
  intro vars dims hok h
  rw [aE,af,af,af] at h
  obtain ⟨_,a,b,c⟩:=h
  obtain ⟨o1,o2,o3,o4,o5,o6,o7⟩:=hok.node
  have hok':=hok
  rw [OkT] at hok'
  obtain ⟨_,ok,os⟩:=hok'
  have hkids: ∀ {l:LT} {i:Nat},(∀x∈l,∀ {vars dims:Int},OkT x->aE bd vars dims x=true->RowsT x)->aK l->bK bd vars dims kd i l=true->ep l:=by
   intro l
   induction l<;>grind [ep,bK,aK]
  rw [lk,dU] at c
  unfold dS at a
  simp only [af,decide_eq_true_eq] at a
  obtain ⟨⟨a1,a2,a3,a4⟩,a5⟩:=a
  have r0: ∀ {l:LC},l.length=0->RF l:=fun h=>by
   grind [jq]
  rw [RowsT]
  have hfaces:(sys=[]\/sys.all (aR kd dims)=true)/\RF r/\(kd=1->r=[]):=by
   have nosys:fJ kd=0->sys=[]:=fun h=>List.length_eq_zero_iff.1 (a4 h)
   by_cases c1:kd=1
   ·rw [if_pos c1] at a5
    simp only [af,decide_eq_true_eq] at a5
    exact ⟨.inl (nosys (by subst c1;decide)),r0 a5.1,fun _=>List.length_eq_zero_iff.1 a5.1⟩
   ·rw [if_neg c1] at a5
    by_cases c2:kd=2
    ·rw [if_pos c2] at a5
     simp only [af,decide_eq_true_eq] at a5
     exact ⟨.inl (nosys (by subst c2;decide)),r0 a5.1,fun h=>absurd h c1⟩
    ·rw [if_neg c2] at a5
     by_cases c3:kd=13\/kd=21\/kd=26
     ·rw [if_pos c3,af] at a5
      exact ⟨.inl (nosys (by rcases c3 with rfl|rfl|rfl<;>decide)),(lX o4).1 a5.1,fun h=>absurd h c1⟩
     ·rw [if_neg c3] at a5
      by_cases c4:kd=14
      ·rw [if_pos c4,af] at a5
       unfold cm at a5
       rw [af] at a5
       exact ⟨.inl (nosys (by subst c4;decide)),(lX o4).1 a5.1.1,fun h=>absurd h c1⟩
      grind
  refine ⟨⟨hfaces.2.1,hfaces.2.2,ZY a1⟩,hkids (fun x hx=>ih1 x hx) ok b, ?_⟩
  rw [rowsS_iff]
  intro br hbr
  have hc:=c br hbr
  rw [dU] at hc
  have hob:=hok.br hbr
  refine ⟨?_,fun x hx=>ih2 br hbr x hx (hob.2 x hx) (hc x hx)⟩
  rcases hfaces.1 with h|h<;>grind [aR,cm,lX]
theorem AF {vb db:Int} (t:Tm): ∀ {v d e},dP vb db v d t= .error e->0<e/\e<=1000:=by
 induction t using ik with
 |h kd n nm r ks sys ih1 ih2=>
  intro v d e h
  rw [dP] at h
  split at h
  ·grind
  rcases dj h with h|⟨_,_,h⟩
  ·exact OD h
  have hkids: ∀ {l:LT} {i:Nat},(∀x∈l,∀ {v d e},dP vb db v d x= .error e->0<e/\e<=1000)->gY vb db v d kd i l= .error e->0<e/\e<=1000:=by
   intro l
   induction l with
   |nil=>grind [gY]
   |cons t l ih=>
    intro i hl h
    rw [gY] at h
    rcases dj h with h|⟨_,_,h⟩
    ·exact hl t (by simp) h
    grind [dj]
  have hmore: ∀ {l:LT},(∀x∈l,∀ {v d e},dP vb db v d x= .error e->0<e/\e<=1000)-> ∀ {e},gZ vb db v d kd l= .error e->0<e/\e<=1000:=by
   intro l
   induction l with
   |nil=>grind [gZ]
   |cons t l ih=>
    intro hl e h
    rw [gZ] at h
    rcases dj h with h|⟨_,_,h⟩
    ·grind
    ·rcases dj h with h|⟨_,_,h⟩
     ·exact ih (fun x hx=>hl x (by simp [hx])) h
     simp_all
  have hsys: ∀ {l:LB},(∀b∈l,∀x∈b.kids,∀ {v d e},dP vb db v d x= .error e->0<e/\e<=1000)->eY vb db v d kd l= .error e->0<e/\e<=1000:=by
   intro l
   induction l with
   |nil=>grind [eY]
   |cons b l ih=>
    intro hl h
    rw [eY] at h
    rcases dj h with h|⟨_,_,h⟩
    ·cases b with
     |mk f ks'=>
      rw [qv] at h
      rcases dj h with h|⟨_,_,h⟩
      ·exact OD h
      ·rcases dj h with h|⟨_,_,h⟩
       ·exact hmore (hl (Br.mk f ks') (by simp)) h
       ·cases h
    grind [dj]
  grind [dj]
abbrev fZ:=Int->LC->Except Int (LC)
mutual
def cj (fo fa:fZ) (d:Int):Tm->Except Int Tm
 | .mk kd n nm r ks sys=>bE (if kd=14 then fa d r else fo d r) fun r'=>bE (dr fo fa d kd 0 ks) fun ks'=>bE (ck fo fa d kd sys) fun sys'=> .ok (.mk kd n nm r' ks' sys')
def dr (fo fa:fZ) (d kd:Int) (i:Nat):LT->Except Int (LT)
 |[]=> .ok []
 |t::l=>bE (cj fo fa (d+bJ kd i) t) fun t'=>bE (dr fo fa d kd (i+1) l) fun l'=> .ok (t'::l')
def ck (fo fa:fZ) (d kd:Int):LB->Except Int (LB)
 |[]=> .ok []
 |b::l=>bE (i8 fo fa d kd b) fun o=>bE (ck fo fa d kd l) fun l'=> .ok (o++l')
def i8 (fo fa:fZ) (d kd:Int):Br Tm->Except Int (LB)
 | .mk f ks=>bE (fa d f) fun f'=>if f'.length=0 then .ok [] else bE (dv fo fa d kd ks) fun ks'=> .ok [.mk f' ks']
def dv (fo fa:fZ) (d kd:Int):LT->Except Int (LT)
 |[]=> .ok []
 |t::l=>bE (cj fo fa (d+aN kd) t) fun t'=>bE (dv fo fa d kd l) fun l'=> .ok (t'::l')
end
theorem agQ {fo fa:fZ} {d kd:Int} {R:Tm->Tm->Prop}: ∀ {l:LT} {i:Nat} {l':LT},(∀x∈l,∀d x',cj fo fa d x= .ok x'->R x x')->dr fo fa d kd i l= .ok l'->F2 R l l':=by
 intro l
 induction l with
 |nil=>intro i l' _ h;rw [dr] at h;injection h with h;subst h;exact .nil
 |cons t l ih=>
  intro i l' hr h
  rw [dr] at h
  obtain ⟨t',h1,h⟩:=am h
  obtain ⟨m,h2,h⟩:=am h
  injection h with h;subst h
  exact .cons (hr t (by simp) _ _ h1) (ih (fun x hx=>hr x (by simp [hx])) h2)
theorem agS {fo fa:fZ} {d kd:Int} {R:Tm->Tm->Prop}: ∀ {l:LT} {l':LT},(∀x∈l,∀d x',cj fo fa d x= .ok x'->R x x')->dv fo fa d kd l= .ok l'->F2 R l l':=by
 intro l
 induction l with
 |nil=>intro l' _ h;rw [dv] at h;injection h with h;subst h;exact .nil
 |cons t l ih=>
  intro l' hr h
  rw [dv] at h
  obtain ⟨t',h1,h⟩:=am h
  obtain ⟨m,h2,h⟩:=am h
  injection h with h;subst h
  exact .cons (hr t (by simp) _ _ h1) (ih (fun x hx=>hr x (by simp [hx])) h2)
def Wk (x x':Tm):Prop:=ap x'<=ap x/\aG x'<=aG x/\x'.kind=x.kind/\(OkT x->RowsT x->OkT x'/\RowsT x')
theorem Ql {l l':LT} (h:F2 Wk l l'):bj l'<=bj l:=by
 induction h with
 |nil=>simp
 |cons h1 _ ih=>rw [bj,bj];have:=h1.1;omega
theorem Qq {l l':LT} (h:F2 Wk l l'):aD l'<=aD l:=by
 induction h with
 |nil=>simp
 |cons h1 _ ih=>rw [aD,aD];have:=h1.2.1;omega
theorem Qp {l l':LT} (h:F2 Wk l l'):aK l->ep l->aK l'/\ep l':=by
 induction h with
 |nil=>grind
 |cons h1 _ ih=>
  rw [aK,aK,ep,ep]
  intro h g
  have a:=h1.2.2.2 h.1 g.1
  grind
theorem agV {fo fa:fZ} {d kd:Int} (hfa: ∀d f g,RF f->fa d f= .ok g->RF g): ∀ {l l':LB},(∀b∈l,∀x∈b.kids,∀d x',cj fo fa d x= .ok x'->Wk x x')->ck fo fa d kd l= .ok l'->
  bB l'<=bB l/\aJ l'<=aJ l/\l'.length<=l.length/\(bk l->f8 l->bk l'/\f8 l'):=by
 intro l
 induction l with
 |nil=>grind [ck]
 |cons b l ih=>
  intro l' hr h
  rw [ck] at h
  obtain ⟨o,h1,h⟩:=am h
  obtain ⟨m,h2,h⟩:=am h
  injection h with h;subst h
  obtain ⟨i1,i2,i3,i4⟩:=ih (fun b hb=>hr b (by simp [hb])) h2
  cases b with
  |mk f ks=>
   rw [i8] at h1
   obtain ⟨f',h3,h1⟩:=am h1
   split at h1
   ·grind [bB,aJ,bk,f8]
   ·obtain ⟨ks',h4,h1⟩:=am h1
    injection h1 with h1;subst h1
    have f2:F2 Wk ks ks':=agS (hr ⟨f,ks⟩ (by simp)) h4
    have hd:=Ql f2
    have hs:=Qq f2
    refine ⟨?_, ?_, ?_,fun ho hg=> ?_⟩
    ·grind [bB,lx]
    ·grind [aJ,js]
    ·grind
    ·rw [bk,g7] at ho;rw [f8,mV] at hg
     have a:=Qp f2 ho.1.2 hg.1.2
     have b:=i4 ho.2 hg.2
     have c:=hfa d f f' hg.1.1 h3
     show bk (Br.mk f' ks'::m)/\f8 (Br.mk f' ks'::m)
     rw [bk,g7,f8,mV]
     exact ⟨⟨⟨⟨c.2,by have:=c.len;omega,by rw [f2.len];simp_all⟩,a.1⟩,b.1⟩,⟨c,a.2⟩,b.2⟩
theorem P5 {fo fa:fZ} (hfo: ∀d f g,RF f->fo d f= .ok g->RF g) (hfa: ∀d f g,RF f->fa d f= .ok g->RF g) (h0: ∀d,fo d []= .ok []) (t:Tm): ∀d t',cj fo fa d t= .ok t'->Wk t t':=by
 induction t using ik with
 |h kd n nm r ks sys ih1 ih2=>
  intro d t' h
  rw [cj] at h
  obtain ⟨r',hr,h⟩:=am h
  obtain ⟨ks',hk,h⟩:=am h
  obtain ⟨sys',hs,h⟩:=am h
  injection h with h;subst h
  have fk:F2 Wk ks ks':=agQ ih1 hk
  obtain ⟨s1,s2,s3,s4⟩:=agV hfa ih2 hs
  refine ⟨?_, ?_,rfl,fun hok hro=> ?_⟩
  ·rw [ap,ap];have:=Ql fk;omega
  ·rw [aG,aG];have:=Qq fk;omega
  ·rw [OkT] at hok;rw [RowsT] at hro
   obtain ⟨⟨o1,o2,o3,o4,o5,o6,o7⟩,ok,os⟩:=hok
   obtain ⟨⟨a,b,z⟩,c,e⟩:=hro
   have hk:=Qp fk ok c
   have hs:=s4 os e
   have hrf:RF r':=by
    grind
   rw [OkT,RowsT]
   refine ⟨⟨⟨o1,o2,o3,hrf.2,by have:=hrf.len;omega,by rw [fk.len];exact o6,by omega⟩,hk.1,hs.1⟩,⟨hrf,fun h1=> ?_,z⟩,hk.2,hs.2⟩
   grind
section
variable {fo fa:fZ} {G:Int->LC->LC}
def fh (f:fZ) (G:Int->LC->LC):fZ:=fun d l=>bE (f d l) fun m=> .ok (G d m)
def aP (G:Int->LC->LC):fZ:=fun d l=> .ok (G d l)
theorem B8 (t:Tm): ∀d,∃t',cj (aP G) (aP G) d t= .ok t':=by
 induction t using ik with
 |h kd n nm r ks sys ih1 ih2=>
  intro d
  have hk: ∀ {l:LT} {i:Nat},(∀x∈l,∀d,∃t',cj (aP G) (aP G) d x= .ok t')-> ∃l',dr (aP G) (aP G) d kd i l= .ok l':=by
   intro l
   induction l with
   |nil=>simp_all [dr]
   |cons t l ih=>
    intro i h
    obtain ⟨t',e⟩:=h t (by simp) (d+bJ kd i)
    obtain ⟨l',e'⟩:=ih (i:=i+1) fun x hx=>h x (by simp [hx])
    grind [dr,bO]
  have hm: ∀ {l:LT},(∀x∈l,∀d,∃t',cj (aP G) (aP G) d x= .ok t')-> ∃l',dv (aP G) (aP G) d kd l= .ok l':=by
   intro l
   induction l with
   |nil=>simp_all [dv]
   |cons t l ih=>
    intro h
    obtain ⟨t',e⟩:=h t (by simp) (d+aN kd)
    obtain ⟨l',e'⟩:=ih fun x hx=>h x (by simp [hx])
    grind [dv,bO]
  have hs: ∀ {l:LB},(∀b∈l,∀x∈b.kids,∀d,∃t',cj (aP G) (aP G) d x= .ok t')-> ∃l',ck (aP G) (aP G) d kd l= .ok l':=by
   intro l
   induction l with
   |nil=>simp_all [ck]
   |cons b l ih=>
    intro h
    obtain ⟨l',e'⟩:=ih fun b hb=>h b (by simp [hb])
    cases b with
    |mk f ks=>
     obtain ⟨ks',e⟩:=hm (h ⟨f,ks⟩ (by simp))
     have: ∃o,i8 (aP G) (aP G) d kd (.mk f ks)= .ok o:=by
      grind [i8,aP,bO]
     grind [ck,bO]
  obtain ⟨ks',ek⟩:=hk (i:=0) ih1
  obtain ⟨sys',es⟩:=hs ih2
  simp_all [aP,cj,bO]
theorem agR (d kd:Int): ∀ (l:LT) (i:Nat),∃l',dr (aP G) (aP G) d kd i l= .ok l':=by
 intro l
 induction l with
 |nil=>simp_all [dr]
 |cons t l ih=>
  intro i
  obtain ⟨t',e⟩:=B8 (G:=G) t (d+bJ kd i)
  obtain ⟨l',e'⟩:=ih (i+1)
  grind [dr,bO]
theorem P4 (d kd:Int): ∀ (l:LT),∃l',dv (aP G) (aP G) d kd l= .ok l':=by
 intro l
 induction l with
 |nil=>simp_all [dv]
 |cons t l ih=>
  obtain ⟨t',e⟩:=B8 (G:=G) t (d+aN kd)
  grind [dv,bO]
theorem agP (d kd:Int) (b:Br Tm): ∃o,i8 (aP G) (aP G) d kd b= .ok o:=by
 cases b with
 |mk f ks=>
  obtain ⟨ks',e⟩:=P4 (G:=G) d kd ks
  rw [i8,aP,bO]
  split<;>simp_all [bO]
theorem agU (d kd:Int): ∀ (l:LB),∃l',ck (aP G) (aP G) d kd l= .ok l':=by
 intro l
 induction l with
 |nil=>simp_all [ck]
 |cons b l ih=>
  obtain ⟨l',e'⟩:=ih
  obtain ⟨o,e⟩:=agP (G:=G) d kd b
  grind [ck,bO]
theorem agT (d kd:Int): ∀ (a b:LB),ck fo fa d kd (a++b)=bE (ck fo fa d kd a) fun a'=>bE (ck fo fa d kd b) fun b'=> .ok (a'++b'):=by
 intro a
 induction a with
 |nil=>intro b;rw [eF,ck,bO];cases ck fo fa d kd b<;>rfl
 |cons x a ih=>
  intro b
  rw [List.cons_append,ck,ck,ih]
  cases i8 fo fa d kd x with
  |error e=>rfl
  |ok o=>
   rw [bO,bO]
   cases ck fo fa d kd a with
   |error e=>rfl
   |ok a'=>
    rw [bO,bO]
    cases ck fo fa d kd b with
    |error e=>rfl
    |ok b'=>grind [bO]
theorem agX (hfa: ∀d f g,RF f->fa d f= .ok g->RF g) (hG: ∀d f,RF f->((G d f).length=0↔f.length=0)) (t:Tm): ∀d,RowsT t->bE (cj fo fa d t) (cj (aP G) (aP G) d)=cj (fh fo G) (fh fa G) d t:=by
 induction t using ik with
 |h kd n nm r ks sys ih1 ih2=>
  intro d hrows
  rw [RowsT] at hrows
  obtain ⟨_,hrk,hrs⟩:=hrows
  have hk: ∀ {l:LT} {i:Nat},(∀x∈l,∀d,RowsT x->bE (cj fo fa d x) (cj (aP G) (aP G) d)=cj (fh fo G) (fh fa G) d x)->ep l->bE (dr fo fa d kd i l) (dr (aP G) (aP G) d kd i)=dr (fh fo G) (fh fa G) d kd i l:=by
   intro l
   induction l with
   |nil=>grind [dr,bO]
   |cons t l ih=>
    intro i h hr
    rw [ep] at hr
    have h1:=h t (by simp) (d+bJ kd i) hr.1
    have h2:=ih (i:=i+1) (fun x hx=>h x (by simp [hx])) hr.2
    rw [dr,dr,<-h1,<-h2]
    cases cj fo fa (d+bJ kd i) t with
    |error e=>rfl
    |ok t'=>
     rw [bO,bO]
     obtain ⟨t'',e⟩:=B8 (G:=G) t' (d+bJ kd i)
     rw [e,bO]
     cases dr fo fa d kd (i+1) l with
     |error e=>rfl
     |ok l'=>
      grind [bO,dr]
  have hm: ∀ {l:LT},(∀x∈l,∀d,RowsT x->bE (cj fo fa d x) (cj (aP G) (aP G) d)=cj (fh fo G) (fh fa G) d x)->ep l->bE (dv fo fa d kd l) (dv (aP G) (aP G) d kd)=dv (fh fo G) (fh fa G) d kd l:=by
   intro l
   induction l with
   |nil=>grind [dv,bO]
   |cons t l ih=>
    intro h hr
    rw [ep] at hr
    have h1:=h t (by simp) (d+aN kd) hr.1
    have h2:=ih (fun x hx=>h x (by simp [hx])) hr.2
    rw [dv,dv,<-h1,<-h2]
    cases cj fo fa (d+aN kd) t with
    |error e=>rfl
    |ok t'=>
     rw [bO,bO]
     obtain ⟨t'',e⟩:=B8 (G:=G) t' (d+aN kd)
     rw [e,bO]
     cases dv fo fa d kd l with
     |error e=>rfl
     |ok l'=>
      grind [bO,dv]
  have hb: ∀ {b:Br Tm},(∀x∈b.kids,∀d,RowsT x->bE (cj fo fa d x) (cj (aP G) (aP G) d)=cj (fh fo G) (fh fa G) d x)->mV b->bE (i8 fo fa d kd b) (ck (aP G) (aP G) d kd)=i8 (fh fo G) (fh fa G) d kd b:=by
   intro b h hr
   cases b with
   |mk f ks'=>
    rw [mV] at hr
    have h2:=hm h hr.2
    rw [i8,i8]
    show _=bE (bE (fa d f) fun m=> .ok (G d m)) _
    cases hf:fa d f with
    |error e=>rfl
    |ok f'=>
     rw [bO,bO,bO]
     have hg:=hG d f' (hfa d f f' hr.1 hf)
     by_cases h0:f'.length=0
     ·grind [bO,ck]
     ·rw [if_neg h0,if_neg (fun h=>h0 (hg.1 h)),<-h2]
      cases dv fo fa d kd ks' with
      |error e=>rfl
      |ok l'=>
       rw [bO,bO,bO,ck,i8]
       show bE (bE (.ok (G d f')) _) _=_
       rw [bO,if_neg (fun h=>h0 (hg.1 h))]
       obtain ⟨l'',e⟩:=P4 (G:=G) d kd l'
       grind [bO,ck]
  have hs: ∀ {l:LB},(∀b∈l,∀x∈b.kids,∀d,RowsT x->bE (cj fo fa d x) (cj (aP G) (aP G) d)=cj (fh fo G) (fh fa G) d x)->f8 l->bE (ck fo fa d kd l) (ck (aP G) (aP G) d kd)=ck (fh fo G) (fh fa G) d kd l:=by
   intro l
   induction l with
   |nil=>grind [ck,bO]
   |cons b l ih=>
    intro h hr
    rw [f8] at hr
    have h1:=hb (h b (by simp)) hr.1
    have h2:=ih (fun b hb=>h b (by simp [hb])) hr.2
    rw [ck,ck,<-h1,<-h2]
    cases i8 fo fa d kd b with
    |error e=>rfl
    |ok o=>
     rw [bO,bO]
     obtain ⟨o',e⟩:=agU (G:=G) d kd o
     rw [e,bO]
     cases ck fo fa d kd l with
     |error e=>rfl
     |ok l'=>
      grind [bO,agT]
  rw [cj,cj,<-hk (i:=0) ih1 hrk,<-hs ih2 hrs]
  have hrow:(if kd=14 then fh fa G d r else fh fo G d r)=bE (if kd=14 then fa d r else fo d r) fun m=> .ok (G d m):=by split<;>rfl
  rw [hrow]
  cases (if kd=14 then fa d r else fo d r) with
  |error e=>rfl
  |ok r'=>
   rw [bO,bO,bO]
   cases dr fo fa d kd 0 ks with
   |error e=>rfl
   |ok ks'=>
    rw [bO,bO]
    obtain ⟨ks'',ek⟩:=agR (G:=G) d kd ks' 0
    rw [ek,bO]
    cases ck fo fa d kd sys with
    |error e=>rfl
    |ok sys'=>
     grind [bO,cj,aP]
end
set_option maxRecDepth 20000
theorem ZZ (kd:Int):(kd<0\/kd>28)\/(∃n:Nat,n<29/\kd=n):=by
 by_cases h:kd<0\/kd>28
 ·omega
 ·exact .inr ⟨kd.toNat,by omega,by omega⟩
theorem aeo (kd:Int) (J:Int->OS S):zK k kd J=J (jJ kd):=by
 simp only [zK]
 rcases ZZ kd with h|⟨n,hn,rfl⟩
 ·simp only [jR,beq_iff_eq]
  unfold jJ
  rw [if_pos h]
  repeat rw [if_neg (by omega)]
 ·unfold jJ
  rw [if_neg (by omega),gQ]
  match n,hn with
  |0,_=>rfl
  |1,_=>rfl
  |2,_=>rfl
  |3,_=>rfl
  |4,_=>rfl
  |5,_=>rfl
  |6,_=>rfl
  |7,_=>rfl
  |8,_=>rfl
  |9,_=>rfl
  |10,_=>rfl
  |11,_=>rfl
  |12,_=>rfl
  |13,_=>rfl
  |14,_=>rfl
  |15,_=>rfl
  |16,_=>rfl
  |17,_=>rfl
  |18,_=>rfl
  |19,_=>rfl
  |20,_=>rfl
  |21,_=>rfl
  |22,_=>rfl
  |23,_=>rfl
  |24,_=>rfl
  |25,_=>rfl
  |26,_=>rfl
  |27,_=>rfl
  |28,_=>rfl
  |n+29,h=>omega
theorem qN (kd i:Int) (J:Int×Int->OS S):nd k kd i J=J (cY kd i,bJ kd i):=by
 simp only [nd,jR,beq_iff_eq]
 grind [cY,bJ]
theorem O0 (kd:Int) (J:Int->OS S):n7 k kd J=J (fJ kd):=by
 grind [n7,jR,fJ]
theorem Ik (s t:BA):(s==t)=decide (s=t):=by
 obtain ⟨a⟩:=s;obtain ⟨b⟩:=t
 show (a==b)=_
 grind
theorem LS (s:BA):(s==aw)=decide (s.size=0):=by
 simp_all [Ik]
theorem GO (s:BA):(s.size:Int)=(s.data.toList.length:Int):=by
 rfl
def oR (p:List UInt8) (r:List UInt8):Bool:=match p with
 |[]=>wi r
 |_::_=>r.all fun d=>qu d||vm d
theorem abP (p:List UInt8) (x:UInt8) (r:List UInt8):oR p (x::r)=((qu x||(decide (p≠[])&&vm x))&&oR (p++[x]) r):=by
 cases p<;>grind [oR,wi]
theorem abQ {p:List UInt8}:oR p []=decide (p.length≠0):=by
 cases p with
 |nil=>rfl
 |cons c l=>rfl
theorem aaP (hk:Fu k) (J:Bool->OS S) {s:BA} (hs:s.size<2147483648):
  ∀ (r p:List UInt8) (m:Nat),s.data.toList=p++r->r.length<m->qn k J s m (p.length:Int)=J (oR p r):=by
 obtain ⟨q,rfl⟩: ∃q,k=q+1:=⟨k-1,by omega⟩
 have hs':s.data.toList.length<2147483648:=by simp_all
 intro r
 induction r with
 |nil=>
  grind [ax,qn,uI,GO,ak,LS,abQ]
 |cons x r ih=>
  intro p m h hm
  obtain ⟨m,rfl,hm'⟩:=ax hm
  obtain ⟨e1,e2,e3,e4⟩:=bL h (by omega)
  have hi:=ih (p++[x]) m e4 hm'
  rw [abP]
  simp only [qn,uI,GO,e1,au,e2,bD,eC,AC,C5,e3,hi]
  have hl: ∀b:Bool,b=qu x->ac (!b) (ac (((p.length:Nat):Int)==0) (J false) (if ((x.toNat:Nat):Int)<48 then J false else if ((x.toNat:Nat):Int)>57 then J false else J (oR (p++[x]) r))) (J (oR (p++[x]) r))=J ((qu x||(decide (p≠[])&&vm x))&&oR (p++[x]) r):=by
   grind [jR,List.length_pos_iff,vm]
  grind [qu]
theorem ae3 (hk:Fu k) {s:BA} (hs:s.size<2147483648) (J:Bool->OS S):zM k s J=J (wi s.data.toList):=by
 simp only [zM,HF]
 have:=aaP hk J hs s.data.toList [] k rfl (by grind [GO])
 exact this
theorem AE (n:Nat):(((n:Nat):Int)==0)=decide (n=0):=by grind
theorem aaS (hk:Fu k) (J:Bool->OS S) {t:Tm} {dims:Int} (hd:0<=dims) (hd':dims<9223372036854775808) (hs: ∀b∈t.sys,av b.face/\b.face.length<1073741824) (hlen:t.sys.length<1073741824):
  ∀ (r p:LB) (m:Nat),t.sys=p++r->r.length<m->nC k J t dims m (p.length:Int)=J (r.all (aR t.kind dims)&&decide (t.r.length=0)):=by
 intro r
 induction r with
 |nil=>
  grind [ax,nC,yv,ak,AE]
 |cons x r ih=>
  intro p m h hm
  obtain ⟨m,rfl,hm'⟩:=ax hm
  obtain ⟨e1,e2,e3,e4⟩:=bL h (by omega)
  have hx:=hs x (by grind)
  have hb:((x.kids.length:Int)==fJ t.kind)=decide ((x.kids.length:Int)=fJ t.kind):=by rfl
  simp only [nC,yv,e1,au,e2,bD,ao hk,O0,tT hk hx.1 (show x.face.length<2147483648 by omega),Pp hk hx.1 (show x.face.length<4294967296 by omega) hd hd',e3,ih (p++[x]) m e4 hm',fq,hb]
  grind [aR,decide,Int,cm,au,ak]
theorem afD {S:Type} (b c:Bool) (J:Bool->OS S):ac b (J c) (J false)=J (b&&c):=by
 cases b<;>rfl
def tt (vars dims:Int) (t:Tm):Bool:=
 if t.kind=1 then decide (t.r.length=0)&&(decide (0<=t.n)&&decide (vars<0\/t.n<vars))
   else if t.kind=2 then decide (t.r.length=0)&&wi t.name.data.toList
   else if t.kind=13\/t.kind=21\/t.kind=26 then dT t.r&&bM t.r dims
   else if t.kind=14 then cm t.r&&bM t.r dims
   else t.sys.all (aR t.kind dims)&&decide (t.r.length=0)
theorem acA (vars dims:Int) (t:Tm):dS vars dims t=((decide (jJ t.kind=t.kids.length)&&(decide (t.kind=1\/t.n=0)&&(decide (t.kind=2\/t.name.size=0)&&decide (fJ t.kind=0->t.sys.length=0))))&&tt vars dims t):=by
 cases t;rfl
def Ul (t:Tm):Prop:=aI t.kind/\aI t.n/\t.name.size<1073741824/\av t.r/\t.r.length<1073741824/\t.kids.length<1073741824/\t.sys.length<1073741824
theorem OkT.no {t:Tm} (h:OkT t):Ul t:=by cases t;exact h.node
theorem OkT.ki {t x:Tm} (h:OkT t) (hx:x∈t.kids):OkT x:=by cases t;exact h.kid hx
theorem OkT.bi {t:Tm} {b:Br Tm} (h:OkT t) (hb:b∈t.sys):(av b.face/\b.face.length<1073741824/\b.kids.length<1073741824)/\ ∀t∈b.kids,OkT t:=by cases t;exact h.br hb
theorem ae9 (hk:Fu k) {t:Tm} (ht:OkT t) {vars dims:Int} (hd:0<=dims) (hd':dims<9223372036854775808) (J:Bool->OS S):AD k J t vars dims k=J (tt vars dims t):=by
 obtain ⟨o1,o2,o3,o4,o5,o6,o7⟩:=ht.no
 have hb:=fun b hb=>(ht.bi (b:=b) hb).1
 obtain ⟨q,hq⟩: ∃q,k=q+1:=⟨k-1,by omega⟩
 have: ∀j,j=q+1->AD k J t vars dims j=uJ k J t vars dims (fun v109=>nC k J t dims k v109):=by rintro j rfl;rfl
 rw [this k hq]
 have hl:=aaS hk J hd hd' (fun b h=>⟨(hb b h).1,(hb b h).2.1⟩) o7 t.sys [] k rfl (by omega)
 have hl:nC k J t dims k 0=_:=hl
 simp only [uJ,ao hk,ae3 hk (show t.name.size<2147483648 by omega),tR hk o4 (show t.r.length<2147483648 by omega),tT hk o4 (show t.r.length<2147483648 by omega),Pp hk o4 (show t.r.length<4294967296 by omega) hd hd',hl,AE,afD]
 grind [jR,tt]
theorem ae8 (hk:Fu k) {t:Tm} (ht:OkT t) {vars dims:Int} (hd:0<=dims) (hd':dims<9223372036854775808) (J:Bool->OS S):vi k t vars dims J=J (dS vars dims t):=by
 have hq:(jJ t.kind==(t.kids.length:Int))=decide (jJ t.kind=t.kids.length):=by rfl
 have hp:(fJ t.kind==0)=decide (fJ t.kind=0):=eI _
 simp only [vi,HG,ao hk,aeo,O0,ae9 hk ht hd hd',LS,hq,hp,eI,acA]
 have hsy:ac (decide (fJ t.kind=0)) (ac (decide (((t.sys.length:Nat):Int)>0)) (J false) (J (tt vars dims t))) (J (tt vars dims t))=J (decide (fJ t.kind=0->t.sys.length=0)&&tt vars dims t):=by
  rw [eC,eC]
  by_cases h1:fJ t.kind=0
  ·rw [if_pos h1]
   by_cases h2:t.sys.length=0<;>grind
  grind
 grind [au,ak,decide_eq_false]
abbrev Fd (k n:Nat):Prop:=4294967296+n<=k
theorem Fd.fu {n:Nat} (h:Fd k n):Fu k:=by omega
theorem Fd.pos {n:Nat} (h:Fd k n): ∃q,k=q+1/\ ∀j,j+1<=n->Fd q j:=⟨k-1,by omega,fun j hj=>by omega⟩
theorem Fd.pos' {n:Nat} (h:Fd k n) (hn:1<=n): ∃q,k=q+1/\Fu q/\ ∀j,j+1<=n->Fd q j:=⟨k-1,by omega,by omega,fun j hj=>by omega⟩
theorem jj (t:Tm):1<=ap t:=by cases t;rw [ap];omega
theorem zP (t:Tm):ap t=max (bj t.kids) (bB t.sys)+1:=by cases t;rfl
theorem Pw (t:Tm):aG t=1+aD t.kids+aJ t.sys:=by cases t;rfl
theorem iL {t x:Tm} (h:x∈t.kids):ap x+1<=ap t:=by rw [zP t];have:=DV h;omega
theorem ji {t:Tm} {b:Br Tm} {x:Tm} (hb:b∈t.sys) (h:x∈b.kids):ap x+1<=ap t:=by rw [zP t];have:=DV h;have:=IR hb;omega
theorem lg {Q:Tm->Prop} (h: ∀t,(∀x∈t.kids,Q x)->(∀b∈t.sys,∀x∈b.kids,Q x)->Q t) (t:Tm):Q t:=ik (fun kd n nm r ks sys h1 h2=>h (.mk kd n nm r ks sys) h1 h2) t
theorem Pt {α:Type} (b c:Bool) (x y:α):ac (!b) y (if c then x else y)=if b&&c then x else y:=by cases b<;>cases c<;>rfl
theorem Pu {S:Type} (b c:Bool) (J:Bool->OS S):ac (!b) (J false) (J c)=J (b&&c):=by cases b<;>rfl
theorem dY {n:Int} (h1: -9223372036854775808<=n) (h2:n<9223372036854775808):aj .i64 n=n:=Qu h1 h2
section
variable {hd:Tm->Int->(Bool->OS S)->OS S} {c0:Int} {t:Tm} {Q:Tm->Bool}
theorem aap (hk:Fu k) (J:Bool->OS S) (rec1:Int->Int->OS S) (hc: -9223372036854775807<=c0) (hc':c0<9223372036854775808) {v more:Int} {x:Br Tm} (hQ: ∀y∈x.kids,∀g,hd y (c0-1) g=g (Q y)) (hl:x.kids.length<1073741824):
  ∀ (r p:LT) (m:Nat),x.kids=p++r->r.length<m->qm hd k J rec1 c0 t v x more m (p.length:Int)=if r.all Q then rec1 (aj .i64 (v+1)) more else J false:=by
 intro r
 induction r with
 |nil=>
  grind [ax,qm,yu,ak]
 |cons y r ih=>
  intro p m h hm
  obtain ⟨m,rfl,hm'⟩:=ax hm
  obtain ⟨e1,e2,e3,e4⟩:=bL h (by omega)
  have hy:=hQ y (by grind)
  simp only [qm,yu,e1,au,e2,bD,ao hk,vj,aM,dY (show-9223372036854775808<=c0-1 by omega) (by omega),hy,e3,ih (p++[y]) m e4 hm',Pt]
  rfl
theorem aao (hk:Fu k) (J:Bool->OS S) (hc: -9223372036854775807<=c0) (hc':c0<9223372036854775808) {more:Int} (hQ: ∀b∈t.sys,∀y∈b.kids,∀g,hd y (c0-1) g=g (Q y)) (hl:t.sys.length<1073741824) (hl': ∀b∈t.sys,b.kids.length<1073741824):
  ∀ (r p:LB) (m:Nat),t.sys=p++r->r.length<m->mw hd k J c0 t m (p.length:Int) more=J (r.all fun b=>b.kids.all Q):=by
 intro r
 induction r with
 |nil=>
  grind [ax,mw,uH,ak]
 |cons x r ih=>
  intro p m h hm
  obtain ⟨m,rfl,hm'⟩:=ax hm
  obtain ⟨e1,e2,e3,e4⟩:=bL h (by omega)
  have hx:x∈t.sys:=by grind
  have hlx:=hl' x hx
  have:=aap (t:=t) hk J (mw hd k J c0 t m) (v:=(p.length:Int)) (more:=more) hc hc' (hQ x hx) hlx x.kids [] k rfl (by omega)
  simp only [mw,uH,e1,au,e2,bD,fq]
  refine aq this ?_
  rw [e3,ih (p++[x]) m e4 hm']
  cases x.kids.all Q<;>rfl
theorem aan (hk:Fu k) (J:Bool->OS S) (hc: -9223372036854775807<=c0) (hc':c0<9223372036854775808) (hQ: ∀y∈t.kids,∀g,hd y (c0-1) g=g (Q y)) (hQ': ∀b∈t.sys,∀y∈b.kids,∀g,hd y (c0-1) g=g (Q y)) (ht:OkT t):
  ∀ (r p:LT) (m:Nat),t.kids=p++r->r.length<m->td hd k J c0 t m (p.length:Int)=J (r.all Q&&t.sys.all fun b=>b.kids.all Q):=by
 obtain ⟨o1,o2,o3,o4,o5,o6,o7⟩:=ht.no
 intro r
 induction r with
 |nil=>
  intro p m h hm
  obtain ⟨m,rfl,hm'⟩:=ax hm
  have hs: ∀more:Int,mw hd k J c0 t k 0 more=_:=fun more=>aao hk J hc hc' (more:=more) hQ' o7 (fun b hb=>(ht.bi hb).1.2.2) t.sys [] k rfl (by omega)
  simp only [td,uG,eL h,ak,hs]
  cases (t.kind==15)<;>rfl
 |cons y r ih=>
  intro p m h hm
  obtain ⟨m,rfl,hm'⟩:=ax hm
  obtain ⟨e1,e2,e3,e4⟩:=bL h (by omega)
  have hy:=hQ y (by grind)
  simp only [td,uG,e1,au,e2,bD,ao hk,qN,vj,aM,dY (show-9223372036854775808<=c0-1 by omega) (by omega),hy,e3,ih (p++[y]) m e4 hm',Pu,fq,Bool.and_assoc]
end
theorem IP {n:Int} (hn:0<=n): ∀ {l:LT},(l.all fun x=>decide ((ap x:Int)<=n))=decide ((bj l:Int)<=n):=by
 intro l
 induction l<;>grind [bj]
theorem VF {n:Int} (hn:0<=n): ∀ {l:LB},(l.all fun b=>b.kids.all fun x=>decide ((ap x:Int)<=n))=decide ((bB l:Int)<=n):=by
 intro l
 induction l with
 |nil=>rw [bB];simp [hn]
 |cons b l ih=>rw [fq,ih,IP hn,bB,zO,Bool.eq_iff_iff];grind
theorem afe (t:Tm):OkT t-> ∀ {k:Nat} {left:Int} (J:Bool->OS S),Fd k (ap t)-> -4611686018427387904<=left->left<4611686018427387904->mj k t left J=J (decide ((ap t:Int)<=left)):=by
 induction t using lg with
 |h t ih1 ih2=>
  intro ht k left J hk h1 h2
  obtain ⟨q,rfl,hq,hf⟩:=hk.pos' (jj t)
  simp only [mj,PL,eC,aM,ao hq]
  by_cases h0:left>0
  ·rw [if_pos h0]
   have hQ: ∀y∈t.kids,∀g:Bool->OS S,mj q y (left-1) g=g (decide ((ap y:Int)<=left-1)):=fun y hy g=>ih1 y hy (ht.ki hy) g (hf _ (iL hy)) (by omega) (by omega)
   have hQ': ∀b∈t.sys,∀y∈b.kids,∀g:Bool->OS S,mj q y (left-1) g=g (decide ((ap y:Int)<=left-1)):=fun b hb y hy g=>ih2 b hb y hy ((ht.bi hb).2 y hy) g (hf _ (ji hb hy)) (by omega) (by omega)
   have:=aan (Q:=fun y=>decide ((ap y:Int)<=left-1)) hq J (by omega) (by omega) hQ hQ' ht t.kids [] q rfl (by have:=ht.no.2.2.2.2.2.1;omega)
   simp only [DU,HE]
   refine aq this ?_
   rw [IP (by omega),VF (by omega),zP]
   congr 1
   rw [Bool.eq_iff_iff];simp;omega
  grind [jj]
section
variable {hd:Tm->Int->(Bool×Int->OS S)->OS S} {t:Tm}
def ub (hd:Tm->Int->(Bool×Int->OS S)->OS S) (k:Nat) (y:Tm):Prop:= ∀ (c:Int) (g:Bool×Int->OS S),0<=c->c<4611686018427387904->
 ∃v,rQ hd k y c g=g (decide ((aG y:Int)<=c),v)/\((aG y:Int)<=c->v=c-aG y)
theorem aam (hk:Fu k) (J:Bool×Int->OS S) (rec1:Int->Int->Int->OS S) {v more:Int} {x:Br Tm} (hQ: ∀y∈x.kids,ub hd k y) (hl:x.kids.length<1073741824):
  ∀ (r p:LT) (m:Nat) (c:Int),0<=c->c<4611686018427387904->x.kids=p++r->r.length<m->
  ((aD r:Int)<=c->nA hd k J rec1 t v x more m c (p.length:Int)=rec1 (c-aD r) (aj .i64 (v+1)) more)/\(¬ (aD r:Int)<=c-> ∃w,nA hd k J rec1 t v x more m c (p.length:Int)=J (false,w)):=by
 intro r
 induction r with
 |nil=>
  grind [ax,nA,yq,ak,aD]
 |cons y r ih=>
  intro p m c h0 h1 h hm
  obtain ⟨m,rfl,hm'⟩:=ax hm
  obtain ⟨e1,e2,e3,e4⟩:=bL h (by omega)
  have hy:=hQ y (by grind)
  obtain ⟨w,hw,hw'⟩:=hy c (fun r1=>(fun r6:Bool×Int=>ac (!r6.1) (J (false,r6.2)) (nA hd k J rec1 t v x more m r6.2 (((p++[y]).length:Nat):Int))) (r1.1,r1.2)) h0 h1
  simp only [nA,yq,e1,au,e2,bD,ao hk,vl,aM,e3,aD]
  rw [hw]
  by_cases hs:(aG y:Int)<=c
  ·grind [ak]
  grind [au]
theorem aal (hk:Fu k) (J:Bool×Int->OS S) {more:Int} (hQ: ∀b∈t.sys,∀y∈b.kids,ub hd k y) (hl:t.sys.length<1073741824) (hl': ∀b∈t.sys,b.kids.length<1073741824):
  ∀ (r p:LB) (m:Nat) (c:Int),0<=c->c<4611686018427387904->t.sys=p++r->r.length<m->
  ((aJ r:Int)<=c->lH hd k J t m c (p.length:Int) more=J (true,c-aJ r))/\(¬ (aJ r:Int)<=c-> ∃w,lH hd k J t m c (p.length:Int) more=J (false,w)):=by
 intro r
 induction r with
 |nil=>
  grind [ax,lH,uD,ak,aJ]
 |cons x r ih=>
  intro p m c h0 h1 h hm
  obtain ⟨m,rfl,hm'⟩:=ax hm
  obtain ⟨e1,e2,e3,e4⟩:=bL h (by omega)
  have hx:x∈t.sys:=by grind
  have hlx:=hl' x hx
  have:=aam (t:=t) hk J (lH hd k J t m) (v:=(p.length:Int)) (more:=more) (hQ x hx) hlx x.kids [] k c h0 h1 rfl (by omega)
  simp only [lH,uD,e1,au,e2,bD,aJ,qS]
  obtain ⟨t1,t2⟩:=this
  rw [show (((([]:LT).length:Nat):Int))=0 from rfl] at t1 t2
  by_cases hs:(aD x.kids:Int)<=c
  ·obtain ⟨i1,i2⟩:=ih (p++[x]) m (c-aD x.kids) (by omega) (by omega) e4 hm'
   rw [t1 hs,e3]
   refine ⟨fun h=> ?_,fun h=>i2 (by omega)⟩
   rw [i1 (by omega),show c-(aD x.kids:Int)-(aJ r:Int)=c-((aD x.kids+aJ r:Nat):Int) by omega]
  ·exact ⟨fun h=>absurd (by omega) hs,fun _=>t2 hs⟩
theorem aak (hk:Fu k) (J:Bool×Int->OS S) (hQ: ∀y∈t.kids,ub hd k y) (hQ': ∀b∈t.sys,∀y∈b.kids,ub hd k y) (ht:OkT t):
  ∀ (r p:LT) (m:Nat) (c:Int),0<=c->c<4611686018427387904->t.kids=p++r->r.length<m->
  ∃w,qk hd k J t m c (p.length:Int)=J (decide (((aD r+aJ t.sys:Nat):Int)<=c),w)/\(((aD r+aJ t.sys:Nat):Int)<=c->w=c-((aD r+aJ t.sys:Nat):Int)):=by
 obtain ⟨o1,o2,o3,o4,o5,o6,o7⟩:=ht.no
 intro r
 induction r with
 |nil=>
  intro p m c h0 h1 h hm
  obtain ⟨m,rfl,hm'⟩:=ax hm
  have hs: ∀more:Int,_:=fun more=>aal hk J (more:=more) hQ' o7 (fun b hb=>(ht.bi hb).1.2.2) t.sys [] k c h0 h1 rfl (by omega)
  have key: ∀more:Int,∃w,lH hd k J t k c 0 more=J (decide (((aJ t.sys:Nat):Int)<=c),w)/\(((aJ t.sys:Nat):Int)<=c->w=c-((aJ t.sys:Nat):Int)):=fun more=>by
   by_cases hc:(aJ t.sys:Int)<=c
   ·simp_all
   ·obtain ⟨w,e⟩:=(hs more).2 hc
    grind
  have hz:aD []+aJ t.sys=aJ t.sys:=by rw [aD,Nat.zero_add]
  rw [hz]
  simp only [qk,uC,eL h,ak]
  cases (t.kind==15) with
  |true=>exact key 1
  |false=>exact key 0
 |cons y r ih=>
  intro p m c h0 h1 h hm
  obtain ⟨m,rfl,hm'⟩:=ax hm
  obtain ⟨e1,e2,e3,e4⟩:=bL h (by omega)
  have hy:=hQ y (by grind)
  obtain ⟨w,hw,hw'⟩:=hy c (fun r1=>(fun r3:Bool×Int=>ac (!r3.1) (J (false,r3.2)) (qk hd k J t m r3.2 (((p++[y]).length:Nat):Int))) (r1.1,r1.2)) h0 h1
  have hz:aD (y::r)+aJ t.sys=aG y+aD r+aJ t.sys:=by rw [aD]
  rw [hz]
  simp only [qk,uC,e1,au,e2,bD,ao hk,qN,vl,aM,e3]
  rw [hw]
  by_cases hs:(aG y:Int)<=c
  ·have:=hw' hs
   subst this
   obtain ⟨u,i1,i2⟩:=ih (p++[y]) m (c-aG y) (by omega) (by omega) e4 hm'
   grind [ak]
  grind [au,decide_eq_false]
end
theorem aez (t:Tm):OkT t-> ∀ {k:Nat} (c:Int) (J:Bool×Int->OS S),Fd k (ap t)->0<=c->c<4611686018427387904->
  ∃w,jE k t c J=J (decide ((aG t:Int)-1<=c),w)/\((aG t:Int)-1<=c->w=c-((aG t:Int)-1)):=by
 induction t using lg with
 |h t ih1 ih2=>
  intro ht k c J hk h1 h2
  obtain ⟨q,rfl,hq,hf⟩:=hk.pos' (jj t)
  have cnt: ∀y,(∀ {k:Nat} (c:Int) (J:Bool×Int->OS S),Fd k (ap y)->0<=c->c<4611686018427387904-> ∃w,jE k y c J=J (decide ((aG y:Int)-1<=c),w)/\((aG y:Int)-1<=c->w=c-((aG y:Int)-1)))->
    Fd q (ap y)->ub (S:=S) (jE q) q y:=by
   intro y hy hfy c g h0 h1
   simp only [rQ,aM,dY (show-9223372036854775808<=c-1 by omega) (by omega),eC]
   have:=pb y
   by_cases hc:c-1>=0
   ·rw [if_pos hc]
    obtain ⟨w,e,e'⟩:=hy (c-1) (fun r1=>g (r1.1,r1.2)) hfy (by omega) (by omega)
    grind
   ·rw [if_neg hc]
    exact ⟨c-1,by grind,fun h=>by omega⟩
  obtain ⟨w,e,e'⟩:=aak hq J (fun y hy=>cnt y (fun c J=>ih1 y hy (ht.ki hy) c J) (hf _ (iL hy))) (fun b hb y hy=>cnt y (fun c J=>ih2 b hb y hy ((ht.bi hb).2 y hy) c J) (hf _ (ji hb hy))) ht t.kids [] q c h1 h2 rfl (by have:=ht.no.2.2.2.2.2.1;omega)
  grind [jE,HC,Pw]
theorem aff {t:Tm} (ht:OkT t) (hk:Fd k (ap t)) {most:Int} (h0:0<most) (h1:most<4611686018427387904) (J:Bool->OS S):zN k t most J=J (decide ((aG t:Int)<=most)):=by
 simp only [zN,ao hk.fu,rQ,aM,dY (show-9223372036854775808<=most-1 by omega) (by omega),eC]
 rw [if_pos (by omega)]
 obtain ⟨w,e,_⟩:=aez t ht (most-1) (fun r1=>J (r1.1,r1.2).1) hk (by omega) (by omega)
 grind
def VW (vars dims:Int) (n:Nat):Prop:= -9223372036854775808<=vars/\vars<9223372036854775808/\0<=dims/\dims+n<4611686018427387904
section
variable {hd:Tm->Int->Int->Bool->(Bool->OS S)->OS S} {vars dims:Int} {bd:Bool} {t:Tm}
theorem O2 (hv:VW vars dims 1) {v d:Int} (h1:0<=v/\v<=1) (h2:0<=d/\d<=1) (y:Tm) (g:Bool->OS S):vg hd k y v d vars dims bd g=hd y (aj .i64 (cL vars v)) (dims+d) bd g:=by
 obtain ⟨v1,v2,v3,v4⟩:=hv
 simp only [vg,aM,eC,dY (show-9223372036854775808<=dims+d by omega) (by omega)]
 unfold cL
 split
 ·rw [eb]
 ·rfl
theorem aaj (hk:Fu k) (J:Bool->OS S) (rec1:Int->Int->OS S) (hv:VW vars dims 1) {v more:Int} {x:Br Tm} (hm:more=aN t.kind) (hQ: ∀y∈x.kids,∀g,hd y vars (dims+more) bd g=g (aE bd vars (dims+more) y)) (hl:x.kids.length<1073741824):
  ∀ (r p:LT) (m:Nat),x.kids=p++r->r.length<m->oO hd k J rec1 vars dims bd t v x more m (p.length:Int)=if dn bd vars dims t.kind r then rec1 (aj .i64 (v+1)) more else J false:=by
 subst hm
 intro r
 induction r with
 |nil=>
  intro p m h hm
  obtain ⟨m,rfl,hm'⟩:=ax hm
  simp only [oO,yr,eL h,ak];rfl
 |cons y r ih=>
  intro p m h hm
  obtain ⟨m,rfl,hm'⟩:=ax hm
  obtain ⟨e1,e2,e3,e4⟩:=bL h (by omega)
  have hy:=hQ y (by grind)
  have h0:aj .i64 (cL vars 0)=vars:=by rw [show cL vars 0=vars by grind [cL]];exact dY hv.1 hv.2.1
  simp only [oO,yr,e1,au,e2,bD,ao hk,aM,O2 hv (show (0:Int)<=0/\(0:Int)<=1 by omega) (jM t.kind),h0,hy,e3,ih (p++[y]) m e4 hm',Pt]
  rw [dn]
theorem aai (hk:Fu k) (J:Bool->OS S) (hv:VW vars dims 1) {more:Int} (hm:more=aN t.kind) (hQ: ∀b∈t.sys,∀y∈b.kids,∀g,hd y vars (dims+more) bd g=g (aE bd vars (dims+more) y)) (hl:t.sys.length<1073741824) (hl': ∀b∈t.sys,b.kids.length<1073741824):
  ∀ (r p:LB) (m:Nat),t.sys=p++r->r.length<m->lJ hd k J vars dims bd t m (p.length:Int) more=J (aL bd vars dims t.kind r):=by
 intro r
 induction r with
 |nil=>
  grind [ax,lJ,uF,ak,aL]
 |cons x r ih=>
  intro p m h hml
  obtain ⟨m,rfl,hm'⟩:=ax hml
  obtain ⟨e1,e2,e3,e4⟩:=bL h (by omega)
  have hx:x∈t.sys:=by grind
  have hlx:=hl' x hx
  have:=aaj (t:=t) (bd:=bd) hk J (lJ hd k J vars dims bd t m) hv (v:=(p.length:Int)) hm (hQ x hx) hlx x.kids [] k rfl (by omega)
  have this:oO hd k J (lJ hd k J vars dims bd t m) vars dims bd t (p.length:Int) x more k 0=_:=this
  simp only [lJ,uF,e1,au,e2,bD,this,e3,ih (p++[x]) m e4 hm']
  have ea:aL bd vars dims t.kind (x::r)=(dn bd vars dims t.kind x.kids&&aL bd vars dims t.kind r):=by cases x;rfl
  grind
theorem aah (hk:Fu k) (J:Bool->OS S) (hv:VW vars dims 1) (hQ: ∀y∈t.kids,∀v d,0<=v/\v<=1->0<=d/\d<=1-> ∀g,hd y (aj .i64 (cL vars v)) (dims+d) bd g=g (aE bd (cL vars v) (dims+d) y)) (hQ': ∀b∈t.sys,∀y∈b.kids,∀g,hd y vars (dims+aN t.kind) bd g=g (aE bd vars (dims+aN t.kind) y)) (ht:OkT t):
  ∀ (r p:LT) (m:Nat),t.kids=p++r->r.length<m->ql hd k J vars dims bd t m (p.length:Int)=J (bK bd vars dims t.kind p.length r&&aL bd vars dims t.kind t.sys):=by
 obtain ⟨o1,o2,o3,o4,o5,o6,o7⟩:=ht.no
 intro r
 induction r with
 |nil=>
  intro p m h hm
  obtain ⟨m,rfl,hm'⟩:=ax hm
  have hs:lJ hd k J vars dims bd t k 0 (aN t.kind)=_:=aai hk J hv rfl hQ' o7 (fun b hb=>(ht.bi hb).1.2.2) t.sys [] k rfl (by omega)
  grind [ql,uE,bK,aN,jR]
 |cons y r ih=>
  intro p m h hm
  obtain ⟨m,rfl,hm'⟩:=ax hm
  obtain ⟨e1,e2,e3,e4⟩:=bL h (by omega)
  have b1:=yz t.kind p.length
  have b2:=jA t.kind p.length
  have hy:=hQ y (by grind) (cY t.kind p.length) (bJ t.kind p.length) b1 b2
  simp only [ql,uE,e1,au,e2,bD,ao hk,qN,aM,O2 hv b1 b2,hy,e3,ih (p++[y]) m e4 hm',Pu]
  grind [bK]
end
theorem xo (bd:Bool) (vars dims:Int) (t:Tm):aE bd vars dims t=(!(bd&&decide (dims>24))&&(dS vars dims t&&(bK bd vars dims t.kind 0 t.kids&&aL bd vars dims t.kind t.sys))):=by cases t;rfl
theorem agO {vars v:Int} (h:0<=v/\v<=1):vars<=cL vars v/\cL vars v<=vars+1:=by grind [cL]
theorem Uu {bd:Bool} (t:Tm):OkT t-> ∀ {V W D:Int},W<0->9223372036854775808<=V->aE bd W D t=aE bd V D t:=by
 induction t using ik with
 |h kd n nm r ks sys ih1 ih2=>
  intro ht V W D hW hV
  have ho:=ht
  rw [OkT] at ht
  obtain ⟨o1,o2,o3,o4,o5,o6,o7⟩:=ht.1
  have hk: ∀ {l:LT} {i:Nat},(∀x∈l,OkT x-> ∀ {V W D:Int},W<0->9223372036854775808<=V->aE bd W D x=aE bd V D x)->aK l->bK bd W D kd i l=bK bd V D kd i l:=by
   intro l
   induction l with
   |nil=>intro i _ _;rw [bK,bK]
   |cons t l ih=>
    intro i h hl
    rw [aK] at hl
    have hb:=yz kd i
    rw [bK,bK,ih (fun x hx=>h x (by simp [hx])) hl.2,h t (by simp) hl.1 (W:=cL W (cY kd i)) (V:=cL V (cY kd i)) (by unfold cL;split<;>omega) (by unfold cL;split<;>omega)]
  have hm: ∀ {l:LT},(∀x∈l,OkT x-> ∀ {V W D:Int},W<0->9223372036854775808<=V->aE bd W D x=aE bd V D x)->aK l->dn bd W D kd l=dn bd V D kd l:=by
   intro l
   induction l with
   |nil=>intro _ _;rw [dn,dn]
   |cons t l ih=>
    intro h hl
    rw [aK] at hl
    rw [dn,dn,ih (fun x hx=>h x (by simp [hx])) hl.2,h t (by simp) hl.1 hW hV]
  have hs: ∀ {l:LB},(∀b∈l,∀x∈b.kids,OkT x-> ∀ {V W D:Int},W<0->9223372036854775808<=V->aE bd W D x=aE bd V D x)->bk l->aL bd W D kd l=aL bd V D kd l:=by
   intro l
   induction l with
   |nil=>intro _ _;rw [aL,aL]
   |cons b l ih=>
    intro h hl
    obtain ⟨f,ks'⟩:=b
    rw [bk,g7] at hl
    rw [aL,aL,g8,g8,ih (fun b hb=>h b (by simp [hb])) hl.2,hm (l:=ks') (h ⟨f,ks'⟩ (by simp)) hl.1.2]
  have hw:dS W D (.mk kd n nm r ks sys)=dS V D (.mk kd n nm r ks sys):=by
   unfold dS
   have:decide (W<0\/n<W)=decide (V<0\/n<V):=by
    have hn:n<9223372036854775808:=by unfold aI at o2;omega
    rw [decide_eq_true (.inl hW),decide_eq_true (.inr (by omega))]
   dsimp only
   rw [this]
  rw [aE,aE,hw,hk ih1 ht.2.1,hs ih2 ht.2.2]
theorem O3 (t:Tm):OkT t-> ∀ {k:Nat} {vars dims:Int} {bd:Bool} (J:Bool->OS S),Fd k (ap t)->VW vars dims (ap t)->jD k t vars dims bd J=J (aE bd vars dims t):=by
 induction t using lg with
 |h t ih1 ih2=>
  intro ht k vars dims bd J hk hv
  obtain ⟨q,rfl,hq,hf⟩:=hk.pos' (jj t)
  have hp:=jj t
  have hv':=hv
  unfold VW at hv'
  have hv1:VW vars dims 1:=by unfold VW;omega
  have hm:=jM t.kind
  have hQ: ∀y∈t.kids,∀v d,0<=v/\v<=1->0<=d/\d<=1-> ∀g:Bool->OS S,jD q y (aj .i64 (cL vars v)) (dims+d) bd g=g (aE bd (cL vars v) (dims+d) y):=fun y hy v d h1 h2 g=>by
   have hd:=iL hy
   have hvb:=agO (vars:=vars) h1
   by_cases hlt:cL vars v<9223372036854775808
   ·rw [dY (by omega) hlt]
    exact ih1 y hy (ht.ki hy) g (hf _ (iL hy)) (by unfold VW;omega)
   ·have e:cL vars v=9223372036854775808:=by omega
    rw [e,show aj .i64 9223372036854775808= -9223372036854775808 from by decide,ih1 y hy (ht.ki hy) g (hf _ (iL hy)) (by unfold VW;omega),Uu y (ht.ki hy) (by omega) (f_ _)]
  have hQ': ∀b∈t.sys,∀y∈b.kids,∀g:Bool->OS S,jD q y vars (dims+aN t.kind) bd g=g (aE bd vars (dims+aN t.kind) y):=fun b hb y hy g=>ih2 b hb y hy ((ht.bi hb).2 y hy) g (hf _ (ji hb hy)) (by
   have:=ji hb hy;unfold VW;omega)
  have:=aah (bd:=bd) hq J hv1 hQ hQ' ht t.kids [] q rfl (by have:=ht.no.2.2.2.2.2.1;omega)
  have this:ql (jD q) q J vars dims bd t q 0=_:=this
  simp only [jD,PK,aM,ao hq,ae8 hq ht (show 0<=dims by omega) (show dims<9223372036854775808 by omega),zL,HD,this]
  rw [xo]
  cases bd with
  |true=>
   rw [au,eC,Bool.true_and]
   by_cases h24:dims>24
   ·grind
   ·rw [if_neg h24,decide_eq_false h24]
    cases dS vars dims t<;>rfl
  |false=>
   rw [ak]
   cases dS vars dims t<;>rfl
def VD (vars dims:Int) (n:Nat):Prop:= -4611686018427387904<=vars/\vars+n<4611686018427387904/\0<=dims/\dims+n<4611686018427387904
theorem aes (t:Tm) (ht:OkT t) {k:Nat} {vars dims:Int} {bd:Bool} (J:Bool->OS S) (hk:Fd k (ap t)) (hv:VD vars dims (ap t)):jD k t vars dims bd J=J (aE bd vars dims t):=
 O3 t ht J hk (by obtain ⟨v1,v2,v3,v4⟩:=hv;exact ⟨by omega,by omega,v3,v4⟩)
theorem Pn {t:Tm} (ht:OkT t) (hk:Fd k (ap t)) (J:Int->OS S):vk k t J=J (if ap t>200 then 62 else if aG t>20000 then 221 else 0):=by
 simp only [vk,aM,afe t ht _ hk (show (-4611686018427387904:Int)<=200 by omega) (show (200:Int)<4611686018427387904 by omega),ao hk.fu,aff ht hk (show (0:Int)<20000 by omega) (show (20000:Int)<4611686018427387904 by omega)]
 by_cases h1:ap t>200
 ·rw [if_pos h1,decide_eq_false (by omega)];rfl
 ·rw [if_neg h1,decide_eq_true (by omega),dL,ak]
  by_cases h2:aG t>20000
  ·rw [if_pos h2,decide_eq_false (by omega)];rfl
  ·rw [if_neg h2,decide_eq_true (by omega)];rfl
theorem lY {t:Tm} (ht:OkT t) (hk:Fd k (ap t)) (hdep:ap t<1099511627776) (J:Int->OS S):lw k t J=J (dl t):=by
 simp only [lw,aM,ao hk.fu,Pn ht hk,aes t ht _ hk (show VD (-1) 24 (ap t) by unfold VD;omega),eI]
 unfold dl
 by_cases h1:ap t>200
 ·rw [if_pos h1,if_pos h1];rfl
 ·rw [if_neg h1,if_neg h1]
  by_cases h2:aG t>20000
  ·rw [if_pos h2,if_pos h2];rfl
  ·rw [if_neg h2,if_neg h2,decide_eq_true rfl,dL,ak]
   cases aE false (-1) 24 t<;>rfl
theorem IQ: ∀ {l:LT},(∀x∈l,ap x<=aG x)->bj l<=aD l:=by
 intro l
 induction l<;>grind [bj,aD]
theorem VH: ∀ {l:LB},(∀b∈l,∀x∈b.kids,ap x<=aG x)->bB l<=aJ l:=by
 intro l
 induction l<;>grind [bB,aJ,zO,qS,IQ]
theorem IS (t:Tm):ap t<=aG t:=by
 induction t using lg<;>grind [zP,Pw,IQ,VH]
section
variable {hd:Tm->(Int->OS S)->OS S} {t:Tm}
end
section
variable {hd:Tm->(Int->OS S)->OS S} {t:Tm}
end
section
variable {hd:Tm->Int->Int->Bool->(Bool->OS S)->OS S} {vars dims:Int} {bd:Bool} {t:Tm}
end
theorem E5 (d:Int) (l:LC) (h:l.length=0):bM l d=true:=by
 grind [bM,mem_bitsN,zQ,pi]
theorem aaV (hk:Fu k) (J:Bool->OS S) {l:LC} (hlen:l.length<2147483648):
  ∀ (r p:LC) (m:Nat),l=p++r->r.length<m->sY k J l l m (p.length:Int)=J true:=by
 intro r
 induction r with
 |nil=>
  grind [ax,sY,yh,ak]
 |cons x r ih=>
  intro p m h hm
  obtain ⟨m,rfl,hm'⟩:=ax hm
  obtain ⟨e1,e2,e3,e4⟩:=bL h (by omega)
  grind [sY,yh,au,ak]
theorem GH (hk:Fu k) {l:LC} (hlen:l.length<2147483648) (J:Bool->OS S):rO k l l J=J true:=by
 simp only [rO,Ht,beq_self_eq_true,dL,ak]
 exact aaV hk J hlen l [] k rfl (by omega)
section
variable {hd:Tm->Tm->(Bool->OS S)->OS S}
theorem aaM (hk:Fu k) (J:Bool->OS S) {l:LT} (hlen:l.length<2147483648) (hQ: ∀y∈l,∀g,hd y y g=g true):
  ∀ (r p:LT) (m:Nat),l=p++r->r.length<m->s8 hd k J l l m (p.length:Int)=J true:=by
 intro r
 induction r with
 |nil=>
  grind [ax,s8,yk,ak]
 |cons x r ih=>
  intro p m h hm
  obtain ⟨m,rfl,hm'⟩:=ax hm
  obtain ⟨e1,e2,e3,e4⟩:=bL h (by omega)
  grind [s8,yk,au,aM,ak]
theorem Pg (hk:Fu k) (J:Bool->OS S) {l:LT} (hlen:l.length<2147483648) (hQ: ∀y∈l,∀g,hd y y g=g true):vf hd k l l J=J true:=by
 simp only [vf,Hw,beq_self_eq_true,dL,ak]
 exact aaM hk J hlen hQ l [] k rfl (by omega)
theorem aaT (hk:Fu k) (J:Bool->OS S) {t:Tm} (ht:OkT t) (hQ: ∀b∈t.sys,∀y∈b.kids,∀g,hd y y g=g true):
  ∀ (r p:LB) (m:Nat),t.sys=p++r->r.length<m->sZ hd k J t t m (p.length:Int)=J true:=by
 obtain ⟨o1,o2,o3,o4,o5,o6,o7⟩:=ht.no
 intro r
 induction r with
 |nil=>
  grind [ax,sZ,yj,ak]
 |cons x r ih=>
  intro p m h hm
  obtain ⟨m,rfl,hm'⟩:=ax hm
  obtain ⟨e1,e2,e3,e4⟩:=bL h (by omega)
  have hx:x∈t.sys:=by grind
  have hb:=(ht.bi hx).1
  simp only [sZ,yj,e1,au,e2,bD,ao hk,GH hk (show x.face.length<2147483648 by omega),Pg hk _ (show x.kids.length<2147483648 by omega) (hQ x hx),e3,ih (p++[x]) m e4 hm',dL,ak]
end
theorem afa (t:Tm):OkT t-> ∀ {k:Nat} (J:Bool->OS S),Fd k (ap t)->gH k t t J=J true:=by
 induction t using lg with
 |h t ih1 ih2=>
  intro ht k J hk
  obtain ⟨q,rfl,hq,hf⟩:=hk.pos' (jj t)
  obtain ⟨o1,o2,o3,o4,o5,o6,o7⟩:=ht.no
  have hQ: ∀y∈t.kids,∀g:Bool->OS S,gH q y y g=g true:=fun y hy g=>ih1 y hy (ht.ki hy) g (hf _ (iL hy))
  have hQ': ∀b∈t.sys,∀y∈b.kids,∀g:Bool->OS S,gH q y y g=g true:=fun b hb y hy g=>ih2 b hb y hy ((ht.bi hb).2 y hy) g (hf _ (ji hb hy))
  have:=aaT hq J ht hQ' t.sys [] q rfl (by omega)
  grind [gH,Ik,Hv,ak,ao,GH,Pg]
section
variable {hd:Tm->Int->(Int->OS S)->OS S} {t:Tm}
end
def pE {α:Type}:Except Int α->Pan Int α
 | .ok a=> .ok a
 | .error e=> .pan e
def eE {α β:Type} (x:Except Int α) (f:α->β) (g:Int->β):β:=match x with
 | .ok a=>f a
 | .error e=>g e
theorem pV {α β:Type} (x:Except Int α) (f:α->β) (g:Int->β):Pan.elim (pE x) f g=eE x f g:=by cases x<;>rfl
theorem dk {α β γ:Type} (x:Except Int α) (f:α->Except Int β) (u:β->γ) (w:Int->γ):eE (bE x f) u w=eE x (fun a=>eE (f a) u w) w:=by cases x<;>rfl
theorem dB {α β:Type} (a:α) (f:α->β) (g:Int->β):eE (.ok a) f g=f a:=rfl
theorem adZ {α:Type} (x:Except Int α) (J:Pan Int α->OS S):J (pE x)=eE x (fun a=>J (.ok a)) fun e=>J (.pan e):=by cases x<;>rfl
def noT:Tm:= .mk 0 0 aw [] [] []
def tE:Except Int Tm->Tm×Int
 | .ok t=>(t,0)
 | .error e=>(noT,e)
theorem gI {α β:Type} {x:Except Int α} {f f':α->β} {g g':Int->β} (h: ∀a,x= .ok a->f a=f' a) (h': ∀e,x= .error e->g e=g' e):eE x f g=eE x f' g':=by
 cases x with
 |ok a=>exact h a rfl
 |error e=>exact h' e rfl
theorem Ph (hk:Fu k) {a b d:Int} {f:LC} (hf:av f) (hl:f.length<1073741824) (hd:aI d) (hb:aI b) (J:Pan Int (LC)->OS S):vc k a b f d J=J (pE (eB d b f)):=by
 simp only [vc,ao hk,wR hk hf hl hd hb,eI,eC,dm (show 0+f.length<=1099511627776 by omega)]
 unfold eB
 by_cases h0:b=0
 ·rw [if_pos h0,if_pos (.inl h0)];rfl
 ·rw [if_neg h0]
  by_cases h1:d>=24
  ·rw [if_pos h1,if_pos (.inr h1)];rfl
  ·rw [if_neg h1,if_neg (show ¬ (b=0\/d>=24) by omega)]
   by_cases h2:(du f d b).2=0
   ·rw [decide_eq_true h2,qW h2];rfl
   ·rw [decide_eq_false h2,tZ h2];rfl
section
variable {hd:Int->Int->Tm->Int->Int->(Pan Int Tm->OS S)->OS S} {vb db v d:Int} {t:Tm}
theorem aaL (hk:Fu k) (J:Pan Int Tm->OS S) (rec2:LB->Int->Int->OS S) {r12 r2:LC} {b1 v90:Int} {ks:LT} {o:LB} {x:Br Tm} {more:Int} (hm:more=aN t.kind)
  (hd0:0<=d/\d<4611686018427387904) (hQ: ∀y∈x.kids,∀g,hd vb db y v (d+more) g=g (pE (dP vb db v (d+more) y))) (hl:x.kids.length<1073741824) (ho:o.length<1073741824):
  ∀ (r p:LT) (m:Nat) (acc:LT),x.kids=p++r->r.length<m->acc.length=p.length->
  oN hd k J rec2 r12 vb db t b1 r2 ks o x more v d v90 m acc (p.length:Int)=eE (gZ vb db v d t.kind r) (fun l=>rec2 (o++[⟨r12,acc++l⟩]) more (aj .i64 (v90+1))) fun e=>J (.pan e):=by
 subst hm
 have hmo:=jM t.kind
 intro r
 induction r with
 |nil=>
  grind [ax,oN,yg,ak,gZ,dB,dm]
 |cons y r ih=>
  intro p m acc h hm ha
  obtain ⟨m,rfl,hm'⟩:=ax hm
  obtain ⟨e1,e2,e3,e4⟩:=bL h (by omega)
  have hpl:p.length<x.kids.length:=by grind
  have hy:=hQ y (by grind)
  simp only [oN,yg,e1,au,e2,bD,aM,dY (n:=d+aN t.kind) (by omega) (by omega),hy,pV,gZ,dk,dB]
  refine gI (fun t' ht'=> ?_) fun e _=>rfl
  rw [dm (by grind),e3,ih (p++[y]) m (acc++[t']) e4 hm' (by grind)]
  simp
theorem aaK (hk:Fu k) (J:Pan Int Tm->OS S) {r2:LC} {b1:Int} {ks:LT} {more:Int} (hm:more=aN t.kind) (ht:OkT t) (hdb:aI db) (hd0:0<=d/\d<4611686018427387904)
  (hQ: ∀b∈t.sys,∀y∈b.kids,∀g,hd vb db y v (d+more) g=g (pE (dP vb db v (d+more) y))):
  ∀ (r p:LB) (m:Nat) (o:LB),t.sys=p++r->r.length<m->o.length=p.length->
  lE hd k J vb db t b1 r2 ks v d m o more (p.length:Int)=eE (eY vb db v d t.kind r) (fun l=>J (.ok (.mk t.kind b1 t.name r2 ks (o++l)))) fun e=>J (.pan e):=by
 obtain ⟨o1,o2,o3,o4,o5,o6,o7⟩:=ht.no
 intro r
 induction r with
 |nil=>
  grind [ax,lE,uz,ak,eY,dB]
 |cons x r ih=>
  intro p m o h hml ho
  obtain ⟨m,rfl,hm'⟩:=ax hml
  obtain ⟨e1,e2,e3,e4⟩:=bL h (by omega)
  have hx:x∈t.sys:=by grind
  have hpl:p.length<t.sys.length:=by grind
  have hb:=(ht.bi hx).1
  have hrow:=Ph (S:=S) hk (a:=vb) hb.1 hb.2.1 (show aI d by unfold aI;omega) hdb
  have:=fun r12=>aaL hk J (lE hd k J vb db t b1 r2 ks v d m) (r12:=r12) (r2:=r2) (b1:=b1) (v90:=(p.length:Int)) (ks:=ks) (o:=o) hm hd0 (hQ x hx) hb.2.2 (by omega) x.kids [] k [] rfl (by omega) rfl
  have this: ∀r12,oN hd k J (lE hd k J vb db t b1 r2 ks v d m) r12 vb db t b1 r2 ks o x more v d (p.length:Int) k [] 0=_:=this
  have hB:qv vb db v d t.kind x=bE (eB d db x.face) fun f'=>bE (gZ vb db v d t.kind x.kids) fun ks'=> .ok (.mk f' ks'):=by cases x;rfl
  simp only [lE,uz,e1,au,e2,bD,ao hk,hrow,pV,this,eY,hB,dk,dB,eF,e3]
  refine gI (fun f' _=>gI (fun ks' _=> ?_) fun e _=>rfl) fun e _=>rfl
  rw [ih (p++[x]) m (o++[Br.mk f' ks']) e4 hm' (by grind)]
  simp
theorem aaJ (hk:Fu k) (J:Pan Int Tm->OS S) {r2:LC} {b1:Int} (ht:OkT t) (hdb:aI db) (hd0:0<=d/\d<4611686018427387904) (hv0:0<=v/\v<4611686018427387904)
  (hQ: ∀y∈t.kids,∀a b,0<=a/\a<=1->0<=b/\b<=1-> ∀g,hd vb db y (v+a) (d+b) g=g (pE (dP vb db (v+a) (d+b) y))) (hQ': ∀b∈t.sys,∀y∈b.kids,∀g,hd vb db y v (d+aN t.kind) g=g (pE (dP vb db v (d+aN t.kind) y))):
  ∀ (r p:LT) (m:Nat) (acc:LT),t.kids=p++r->r.length<m->acc.length=p.length->
  ny hd k J vb db t b1 r2 v d m acc (p.length:Int)=eE (gY vb db v d t.kind p.length r) (fun l=>eE (eY vb db v d t.kind t.sys) (fun s=>J (.ok (.mk t.kind b1 t.name r2 (acc++l) s))) fun e=>J (.pan e)) fun e=>J (.pan e):=by
 obtain ⟨o1,o2,o3,o4,o5,o6,o7⟩:=ht.no
 intro r
 induction r with
 |nil=>
  intro p m acc h hm ha
  obtain ⟨m,rfl,hm'⟩:=ax hm
  have hs:lE hd k J vb db t b1 r2 acc v d k [] (aN t.kind) 0=_:=aaK hk J rfl ht hdb hd0 hQ' t.sys [] k [] rfl (by omega) rfl
  grind [ny,uy,gY,dB,jR,aN]
 |cons y r ih=>
  intro p m acc h hm ha
  obtain ⟨m,rfl,hm'⟩:=ax hm
  obtain ⟨e1,e2,e3,e4⟩:=bL h (by omega)
  have hpl:p.length<t.kids.length:=by grind
  have b1':=yz t.kind p.length
  have b2':=jA t.kind p.length
  have hy:=hQ y (by grind) (cY t.kind p.length) (bJ t.kind p.length) b1' b2'
  simp only [ny,uy,e1,au,e2,bD,ao hk,qN,aM,dY (n:=v+cY t.kind p.length) (by omega) (by omega),dY (n:=d+bJ t.kind p.length) (by omega) (by omega),hy,pV,gY,dk,dB]
  refine gI (fun t' ht'=> ?_) fun e _=>rfl
  rw [dm (by grind),e3,ih (p++[y]) m (acc++[t']) e4 hm' (by grind),show (p++[y]).length=p.length+1 by simp]
  simp
end
theorem abi (vb db v d:Int) (t:Tm):dP vb db v d t=if t.kind=1/\t.n>=v/\t.n>1000000000-vb then .error 100 else bE (eB d db t.r) fun r'=>bE (gY vb db v d t.kind 0 t.kids) fun ks'=>bE (eY vb db v d t.kind t.sys) fun sys'=> .ok (.mk t.kind (if t.kind=1/\t.n>=v then t.n+vb else t.n) t.name r' ks' sys'):=by cases t;rfl
theorem RowsT.no {t:Tm} (h:RowsT t):RF t.r/\(t.kind=1->t.r=[])/\0<=t.kind:=by cases t;rw [RowsT] at h;exact h.1
theorem RowsT.ki {t x:Tm} (h:RowsT t) (hx:x∈t.kids):RowsT x:=by cases t;rw [RowsT] at h;exact rowsK_iff.1 h.2.1 x hx
theorem RowsT.bi {t:Tm} {b:Br Tm} (h:RowsT t) (hb:b∈t.sys):RF b.face/\ ∀x∈b.kids,RowsT x:=by cases t;rw [RowsT] at h;exact rowsS_iff.1 h.2.2 b hb
def VP (v d:Int) (n:Nat):Prop:=0<=v/\v+n<4611686018427387904/\0<=d/\d+n<4611686018427387904
theorem GG {vb db:Int} (hvb:0<=vb/\vb<=1000000000) (hdb:aI db) (t:Tm):OkT t->RowsT t-> ∀ {k:Nat} {v d:Int} (J:Pan Int Tm->OS S),Fd k (ap t)->VP v d (ap t)->gF k vb db t v d J=J (pE (dP vb db v d t)):=by
 induction t using lg with
 |h t ih1 ih2=>
  intro ht hro k v d J hk hv
  obtain ⟨q,rfl,hq,hf⟩:=hk.pos' (jj t)
  obtain ⟨q',hq'⟩: ∃q',q=q'+1:=⟨q-1,by omega⟩
  have hp:=jj t
  unfold VP at hv
  obtain ⟨o1,o2,o3,o4,o5,o6,o7⟩:=ht.no
  have hmo:=jM t.kind
  have hQ: ∀y∈t.kids,∀a b,0<=a/\a<=1->0<=b/\b<=1-> ∀g:Pan Int Tm->OS S,gF q vb db y (v+a) (d+b) g=g (pE (dP vb db (v+a) (d+b) y)):=fun y hy a b h1 h2 g=>
   ih1 y hy (ht.ki hy) (hro.ki hy) g (hf _ (iL hy)) (by have:=iL hy;unfold VP;omega)
  have hQ': ∀b∈t.sys,∀y∈b.kids,∀g:Pan Int Tm->OS S,gF q vb db y v (d+aN t.kind) g=g (pE (dP vb db v (d+aN t.kind) y)):=fun b hb y hy g=>
   ih2 b hb y hy ((ht.bi hb).2 y hy) ((hro.bi hb).2 y hy) g (hf _ (ji hb hy)) (by have:=ji hb hy;unfold VP;omega)
  have h1:=fun r2 b1=>aaJ (r2:=r2) (b1:=b1) hq J ht hdb (show 0<=d/\d<4611686018427387904 by omega) (show 0<=v/\v<4611686018427387904 by omega) hQ hQ' t.kids [] q [] rfl (by omega) rfl
  have h0: ∀r2 b1,vL (gF q) q J vb db t r2 v d q b1=ny (gF q) q J vb db t b1 r2 v d q [] 0:=by
   intro r2 b1
   have: ∀j,j=q'+1->vL (gF q) q J vb db t r2 v d j b1=ny (gF q) q J vb db t b1 r2 v d q [] 0:=by rintro j rfl;rfl
   grind
  have h2: ∀r2 b1,vL (gF q) q J vb db t r2 v d q b1=_:=fun r2 b1=>(h0 r2 b1).trans (h1 r2 b1)
  have hrow:=Ph (S:=S) hq (a:=vb) o4 o5 (show aI d by unfold aI;omega) hdb
  simp only [gF,Hs,ao hq,hrow,pV,h2,List.length_nil,eF]
  rw [adZ _ J,abi]
  unfold aI at o2
  by_cases hc:t.kind=1
  ·have hr:=hro.no.2.1 hc
   rw [hr,Gm,dB,hc,show ((1:Int)==1)=true from rfl,au,eC]
   by_cases hn:t.n>=v
   ·rw [if_pos hn,dY (n:=1000000000-vb) (by omega) (by omega),eC]
    by_cases hb:t.n>1000000000-vb
    ·rw [if_pos hb,if_pos (show (1:Int)=1/\t.n>=v/\t.n>1000000000-vb from ⟨rfl,hn,hb⟩)];rfl
    grind [dk,dY,dB]
   grind [dk,dB]
  ·have hc':(t.kind==1)=false:=by grind
   rw [hc',if_neg (show ¬ (t.kind=1/\t.n>=v/\t.n>1000000000-vb) from fun h=>hc h.1)]
   simp_all [ak,dk,dB]
section
variable {hd:Tm->Int->Int->Int->Int->(Tm->OS S)->OS S} {vb db v d:Int} {t:Tm}
theorem B6 {z:LC×Int} {α:Type} (f:LC->α) (g:Int->α):ac (!(z.2==0)) (g z.2) (f z.1)=eE (fj z) f g:=by
 rw [eI]
 unfold fj
 by_cases h:z.2=0
 ·rw [decide_eq_true h,if_pos h];rfl
 ·rw [decide_eq_false h,if_neg h];rfl
end
end Go.Proofs.YtgajalidbabccaaGreatDoor
