/- Part 4 of a proof: the sources, with their names and remarks, lie in wip/. -/
import Derived.Test.YtgajalidbabccaaGreatDoorX3
open Bool renaming and_eq_true→aZ,not_false→ca,true_and→gR
open Eq renaming trans→ak
open List renaming all_eq_true→dA,length_eq_zero_iff→kj
open Nat renaming eq_of_testBit_eq→g6
set_option linter.unusedVariables false
set_option linter.unusedSimpArgs false
namespace Go.Proofs.YtgajalidbabccaaGreatDoor
open Go PI _root_.Go.Proofs.Tryz
set_option maxRecDepth 100000
noncomputable section
variable {S:Type} {o:Obj} (k:Nat)
def LS (hd:k_ S):Rw S:=am pG xn fun t most Z=>hd t most (be Z)
def qJ (hd:k_ S) (k:Nat):Fx S:=fp 119 [(9,LS hd)] [(5,bG [1,2,5,6] [(2,6)],aG 6 23),(9,bG [1,2,5,7] [(2,6)],aG 7 47),(15,bG [1,2,5,7,8] [(2,6)],aG 15 14639)] k f9 0
def K3 (t:Tm) (most:Int) (v5 i6:Int):St UU:=⟨[(1,(iI most)),(2,(pt 2)),(5,(iI v5)),(6,(iI i6))],[(2,bT t)],[],[]⟩
def zU (t:Tm) (most:Int) (v5' i7:Int):St UU:=⟨[(1,(iI most)),(2,(pt 2)),(5,(iI v5')),(7,(iI i7))],[(2,bT t)],[],[]⟩
def RW (t:Tm) (most i7:Int) (v5'' v8:Int):St UU:=⟨[(1,(iI most)),(2,(pt 2)),(5,(iI v5'')),(7,(iI i7)),(8,(iI v8))],[(2,bT t)],[],[]⟩
section
variable (hd:k_ S) (k:Nat) (t:Tm) (most:Int) (Z:Out UU->Option S)
theorem acW (i7 Z1): ∀n v5'' v8,(qJ hd k).lp Z 15 [Z1] n (RW t most i7 v5'' v8)=n_ hd k (be Z) (fun v5' i7=>Z1 (zU t most v5' i7)) t most i7 n v5'' v8:=bh (CC hd k (be Z) t most i7 (fun v5' i7=>Z1 (zU t most v5' i7)))
theorem acV: ∀n v5' i7,(qJ hd k).lp Z 9 [] n (zU t most v5' i7)=mJ hd k (be Z) t most n v5' i7:=bh (fun own=>xD hd k (be Z) t most (fun i7 v5'' v8=>n_ hd k (be Z) own t most i7 k v5'' v8) own) rfl (fun _=>rfl) fun r v5' i7=>ak (b:=xD hd k (be Z) t most (fun i7 v5'' v8=>(qJ hd k).lp Z 15 [r] k (RW t most i7 v5'' v8)) (fun v5' i7=>r (zU t most v5' i7)) v5' i7) (by kernel_rfl) (by simp only [acW])
theorem acU: ∀n v5 i6,(qJ hd k).lp Z 5 [] n (K3 t most v5 i6)=sc hd k (be Z) t most n v5 i6:=bh (fun own=>xB hd k (be Z) t most (fun v5' i7=>mJ hd k (be Z) t most k v5' i7) own) rfl (fun _=>rfl) fun r v5 i6=>ak (b:=xB hd k (be Z) t most (fun v5' i7=>(qJ hd k).lp Z 9 [] k (zU t most v5' i7)) (fun v5 i6=>r (K3 t most v5 i6)) v5 i6) (by kernel_rfl) (by simp only [acV])
end
theorem QK (o:Obj) (ho:ao o): ∀k:Nat,Tl o 9 (LS (ky k:k_ S))
 |0=>fT fun t most Z x h=>by cases h
 |k+1=>ap (qJ (ky k) k) ⟨QK o ho k,trivial⟩ func9 fun t most Z x h=>ak (b:=Of (ky k) k (be Z) (fun v5 i6=>(qJ (ky k) k).lp Z 5 [] k (K3 t most v5 i6)) t most) (by kernel_rfl) (ak (by simp only [acU];rfl) h)
def mV:Rw S:=am Rj xn fun kind kid Z=>ab k (kA k kind kid) (oF Z)
def FX2:Fx S:=fp 26 [] [] k f49 0
theorem nL (ho:ao o):Tl o 49 (mV k:Rw S):=ap (FX2 k) trivial func49 fun kind kid Z x h=>aE h
def AW (hd:f8 S):Rw S:=am pG xn fun t left Z=>hd t left (a_ Z)
def WN (hd:f8 S) (k:Nat):Rw S:=am Ft dh fun a_k p p' c0 Z=>ab k (zg hd k a_k p p' c0) (iy c0 Z)
def FX4 (hd:f8 S) (k:Nat):Fx S:=fp 12 [(113,AW hd)] [] k f198 1
theorem eX4 (o:Obj) (ho:ao o) (hd:f8 S) (Hd:Tl o 113 (AW hd)) (k:Nat):Tl o 198 (WN hd k:Rw S):=ap (FX4 hd k) ⟨Hd,trivial⟩ func198 fun a_k p p' c0 Z x h=>aE h
def WS (hd:f8 S) (k:Nat):Rw S:=am kX5 dh fun t c0 Z=>ab k (Jy hd k t c0) (iy c0 Z)
def qU (hd:f8 S) (k:Nat):Fx S:=fp 60 [(49,mV k),(198,WN hd k)] [(2,bG [1,2,15,16,17] [(2,6),(1000000,1)],aG 4 5),(12,bG [1,9,40,41,42] [(1000000,1)],aG 7 47),(15,bG [1,9,40,41,42,47,48,49] [(1000000,1)],aG 15 13103)] k f116 1
def Ll (c0:Int) (t:Tm) (v17:Int):St UU:=⟨[(1,(.func 198 [] [(pt 1000000)])),(2,(pt 2)),(15,(sT t.kids)),(16,(iI t.kids.length)),(17,(iI v17))],[(2,bT t),(1000000,bI c0)],[],[]⟩
def Am (c0:Int) (t:Tm) (v42 more9:Int):St UU:=⟨[(1,(.func 198 [] [(pt 1000000)])),(9,(iI more9)),(40,(sB t.sys)),(41,(iI t.sys.length)),(42,(iI v42))],[(1000000,bI c0)],[],[]⟩
def TB (c0:Int) (t:Tm) (v42:Int) (x4:(Br Tm)) (more9:Int) (v49:Int):St UU:=⟨[(1,(.func 198 [] [(pt 1000000)])),(9,(iI more9)),(40,(sB t.sys)),(41,(iI t.sys.length)),(42,(iI v42)),(47,(sT x4.kids)),(48,(iI x4.kids.length)),(49,(iI v49))],[(1000000,bI c0)],[],[]⟩
section
variable (hd:f8 S) (k:Nat) (t:Tm) (c0:Int) (Z:Out UU->Option S)
theorem ae_ (v42 x4 more9 Z1): ∀n v49,(qU hd k).lp Z 15 [Z1] n (TB c0 t v42 x4 more9 v49)=sx hd k (iy c0 Z) (fun v42 more9=>Z1 (Am c0 t v42 more9)) c0 t v42 x4 more9 n v49:=dO (C1 hd k (iy c0 Z) c0 t v42 x4 more9 (fun v42 more9=>Z1 (Am c0 t v42 more9)))
theorem ae9: ∀n v42 more9,(qU hd k).lp Z 12 [] n (Am c0 t v42 more9)=mN hd k (iy c0 Z) c0 t n v42 more9:=bh (fun own=>yb hd k (iy c0 Z) c0 t (fun v42 x4 more9 v49=>sx hd k (iy c0 Z) own c0 t v42 x4 more9 k v49) own) rfl (fun _=>rfl) fun r v42 more9=>ak (b:=yb hd k (iy c0 Z) c0 t (fun v42 x4 more9 v49=>(qU hd k).lp Z 15 [r] k (TB c0 t v42 x4 more9 v49)) (fun v42 more9=>r (Am c0 t v42 more9)) v42 more9) (by kernel_rfl) (by simp only [ae_])
theorem ae8: ∀n v17,(qU hd k).lp Z 2 [] n (Ll c0 t v17)=vJ hd k (iy c0 Z) c0 t n v17:=dO (fun own=>ya hd k (iy c0 Z) c0 t (fun v42 more9=>mN hd k (iy c0 Z) c0 t k v42 more9) own) rfl (fun _=>rfl) fun r v17=>ak (b:=ya hd k (iy c0 Z) c0 t (fun v42 more9=>(qU hd k).lp Z 12 [] k (Am c0 t v42 more9)) (fun v17=>r (Ll c0 t v17)) v17) (by kernel_rfl) (by simp only [ae9])
end
theorem eX5 (o:Obj) (ho:ao o) (hd:f8 S) (Hd:Tl o 113 (AW hd)) (k:Nat):Tl o 116 (WS hd k:Rw S):=ap (qU hd k) ⟨nL k ho,eX4 o ho hd Hd k,trivial⟩ func116 fun t c0 Z x h=>ak (b:=ON hd k (iy c0 Z) (fun v17=>(qU hd k).lp Z 2 [] k (Ll c0 t v17)) t c0) (by kernel_rfl) (ak (by simp only [ae8];rfl) (bp h))
def FX3 (hd:f8 S) (k:Nat):Fx S:=fp 12 [(116,WS hd k)] [] k f113 0
theorem QU (o:Obj) (ho:ao o): ∀k:Nat,Tl o 113 (AW (mw k:f8 S))
 |0=>fT fun t left Z x h=>by cases h
 |k+1=>ap (FX3 (mw k) k) ⟨eX5 o ho (mw k) (QU o ho k) k,trivial⟩ func113 fun t left Z x h=>ak (by kernel_rfl) h
def GD (hd:gw S):Rw S:=am kX6 ZJ fun t c1 Z=>hd t c1 (j6 Z)
def Mw (hd:gw S) (k:Nat):Rw S:=am kX8 xX9 fun t c0 Z=>ab k (ui hd k t c0) (qX6 Z)
def FX7 (hd:gw S) (k:Nat):Fx S:=fp 14 [(116,GD hd)] [] k f199 2
theorem Qf (o:Obj) (ho:ao o) (hd:gw S) (Hd:Tl o 116 (GD hd)) (k:Nat):Tl o 199 (Mw hd k:Rw S):=ap (FX7 hd k) ⟨Hd,trivial⟩ func199 fun t c0 Z x h=>aE h
def Xa (hd:gw S) (k:Nat):Rw S:=am Ft ZJ fun a_k p p' c1 Z=>ab k (zh hd k a_k p p' c1) (j6 Z)
def FX8 (hd:gw S) (k:Nat):Fx S:=fp 11 [(199,Mw hd k)] [] k f200 2
theorem eX8 (o:Obj) (ho:ao o) (hd:gw S) (Hd:Tl o 116 (GD hd)) (k:Nat):Tl o 200 (Xa hd k:Rw S):=ap (FX8 hd k) ⟨Qf o ho hd Hd k,trivial⟩ func200 fun a_k p p' c1 Z x h=>aE h
def qV (hd:gw S) (k:Nat):Fx S:=fp 60 [(49,mV k),(200,Xa hd k)] [(2,bG [1,2,15,16,17] [(2,6),(1000000,1),(1000001,1)],aG 4 5),(12,bG [1,9,40,41,42] [(1000000,1),(1000001,1)],aG 7 47),(15,bG [1,9,40,41,42,47,48,49] [(1000000,1),(1000001,1)],aG 15 13103)] k f116 2
def Lm (t:Tm) (gW v17:Int):St UU:=⟨[(1,(.func 200 [] [(pt 1000000)])),(2,(pt 2)),(15,(sT t.kids)),(16,(iI t.kids.length)),(17,(iI v17))],[(2,bT t),(1000000,.cells [(.func 199 [] [(pt 1000001),(pt 1000000)])]),(1000001,bI gW)],[],[]⟩
def An (t:Tm) (e1_0' v42 more9:Int):St UU:=⟨[(1,(.func 200 [] [(pt 1000000)])),(9,(iI more9)),(40,(sB t.sys)),(41,(iI t.sys.length)),(42,(iI v42))],[(1000000,.cells [(.func 199 [] [(pt 1000001),(pt 1000000)])]),(1000001,bI e1_0')],[],[]⟩
def TD (t:Tm) (v42:Int) (x4:(Br Tm)) (more9:Int) (e1_0'' v49:Int):St UU:=⟨[(1,(.func 200 [] [(pt 1000000)])),(9,(iI more9)),(40,(sB t.sys)),(41,(iI t.sys.length)),(42,(iI v42)),(47,(sT x4.kids)),(48,(iI x4.kids.length)),(49,(iI v49))],[(1000000,.cells [(.func 199 [] [(pt 1000001),(pt 1000000)])]),(1000001,bI e1_0'')],[],[]⟩
section
variable (hd:gw S) (k:Nat) (t:Tm) (c1:Int) (Z:Out UU->Option S)
theorem afd (v42 x4 more9 Z1): ∀n e1_0'' v49,(qV hd k).lp Z 15 [Z1] n (TD t v42 x4 more9 e1_0'' v49)=ou hd k (j6 Z) (fun e1_0' v42 more9=>Z1 (An t e1_0' v42 more9)) t v42 x4 more9 n e1_0'' v49:=bh (CZ hd k (j6 Z) t v42 x4 more9 (fun e1_0' v42 more9=>Z1 (An t e1_0' v42 more9)))
theorem afc: ∀n e1_0' v42 more9,(qV hd k).lp Z 12 [] n (An t e1_0' v42 more9)=lJ hd k (j6 Z) t n e1_0' v42 more9:=h_ (fun own=>xY hd k (j6 Z) t (fun v42 x4 more9 e1_0'' v49=>ou hd k (j6 Z) own t v42 x4 more9 k e1_0'' v49) own) rfl (fun _=>rfl) fun r e1_0' v42 more9=>ak (b:=xY hd k (j6 Z) t (fun v42 x4 more9 e1_0'' v49=>(qV hd k).lp Z 15 [r] k (TD t v42 x4 more9 e1_0'' v49)) (fun e1_0' v42 more9=>r (An t e1_0' v42 more9)) e1_0' v42 more9) (by kernel_rfl) (by simp only [afd])
theorem afb: ∀n gW v17,(qV hd k).lp Z 2 [] n (Lm t gW v17)=sr hd k (j6 Z) t n gW v17:=bh (fun own=>xX hd k (j6 Z) t (fun e1_0' v42 more9=>lJ hd k (j6 Z) t k e1_0' v42 more9) own) rfl (fun _=>rfl) fun r gW v17=>ak (b:=xX hd k (j6 Z) t (fun e1_0' v42 more9=>(qV hd k).lp Z 12 [] k (An t e1_0' v42 more9)) (fun gW v17=>r (Lm t gW v17)) gW v17) (by kernel_rfl) (by simp only [afc])
end
theorem QX (o:Obj) (ho:ao o): ∀k:Nat,Tl o 116 (GD (jj k:gw S))
 |0=>fT fun t c1 Z x h=>by cases h
 |k+1=>ap (qV (jj k) k) ⟨nL k ho,eX8 o ho (jj k) (QX o ho k) k,trivial⟩ func116 fun t c1 Z x h=>ak (b:=OL (jj k) k (j6 Z) (fun gW v17=>(qV (jj k) k).lp Z 2 [] k (Lm t gW v17)) t c1) (by kernel_rfl) (ak (by simp only [afb];rfl) h)
def Xh:Rw S:=am pG xn fun t most Z=>ab k (EP k t most) (a_ Z)
def FX9:Fx S:=fp 10 [(199,Mw (jj k) k)] [] k f114 0
theorem eX9 (ho:ao o):Tl o 114 (Xh k:Rw S):=ap (FX9 k) ⟨Qf o ho (jj k) (QX o ho k) k,trivial⟩ func114 fun t most Z x h=>aE h
def Uz:Rw S:=am eh xn fun t Z=>ab k (EO k t) (be Z)
def ZN:Fx S:=fp 11 [(113,AW (mw k)),(114,Xh k)] [] k f50 0
theorem agQ (ho:ao o):Tl o 50 (Uz k:Rw S):=ap (ZN k) ⟨QU o ho k,eX9 k ho,trivial⟩ func50 fun t Z x h=>aE h
def UH:Rw S:=am ir xn fun kind Z=>ab k (EJ k kind) (be Z)
def ZV:Fx S:=fp 38 [] [] k f201 0
theorem agY (ho:ao o):Tl o 201 (UH k:Rw S):=ap (ZV k) trivial func201 fun kind Z x h=>aE h
def UL:Rw S:=am ir xn fun kind Z=>ab k (po k kind) (be Z)
def Z7:Fx S:=fp 10 [] [] k f202 0
theorem ag2 (ho:ao o):Tl o 202 (UL k:Rw S):=ap (Z7 k) trivial func202 fun kind Z x h=>aE h
def US:Rw S:=am Q_ xn fun s Z=>ab k (EM k s) (a_ Z)
def wQ:Fx S:=fp 49 [] [(2,bG [0,7,8] [],aG 4 5),(1000006,bG [0,3,4,5,7,8] [],aG 12 3685)] k f203 0
def zZ (s:ByteArray) (v8:Int):St UU:=⟨[(0,(.str s)),(7,(.int .i64 (s.size:Int))),(8,(iI v8))],[],[],[]⟩
def Sa (s:ByteArray) (v8:Int) (x1:UInt8) (letter5:Bool):St UU:=⟨[(0,(.str s)),(3,(iI v8)),(4,(.int .u8 (x1.toNat:Int))),(5,(.bool letter5)),(7,(.int .i64 (s.size:Int))),(8,(iI v8))],[],[],[]⟩
section
variable (k:Nat) (s:ByteArray) (Z:Out UU->Option S)
theorem adj (v8 x1 Z0): ∀n letter5,(wQ k).jn Z 1000006 [Z0] n (Sa s v8 x1 letter5)=FF k (a_ Z) (fun v8=>Z0 (zZ s v8)) s v8 x1 n letter5:=rL (IQ k (a_ Z) s v8 x1 (fun v8=>Z0 (zZ s v8)))
theorem adi: ∀n v8,(wQ k).lp Z 2 [] n (zZ s v8)=sD k (a_ Z) s n v8:=dO (fun own=>yg k (a_ Z) s (fun v8 x1 letter5=>FF k (a_ Z) own s v8 x1 k letter5) own) rfl (fun _=>rfl) fun r v8=>ak (b:=yg k (a_ Z) s (fun v8 x1 letter5=>(wQ k).jn Z 1000006 [r] k (Sa s v8 x1 letter5)) (fun v8=>r (zZ s v8)) v8) (by kernel_rfl) (by simp only [adj])
end
theorem ag9 (ho:ao o):Tl o 203 (US k:Rw S):=ap (wQ k) trivial func203 fun s Z x h=>ak (b:=OQ k (a_ Z) (fun v8=>(wQ k).lp Z 2 [] k (zZ s v8)) s) (by kernel_rfl) (ak (by simp only [adi];rfl) (bp h))
def U0:Rw S:=am zH xn fun s Z=>ab k (t7 k s) (a_ Z)
def aaj:Fx S:=fp 6 [] [] k f276 0
theorem ahf (ho:ao o):Tl o 276 (U0 k:Rw S):=ap (aaj k) trivial func276 fun s Z x h=>aE h
def L0:Rw S:=am rM xn fun c Z=>ab k (yp k c) (a_ Z)
def aam:Fx S:=fp 11 [(276,U0 k)] [] k f224 0
theorem PP (ho:ao o):Tl o 224 (L0 k:Rw S):=ap (aam k) ⟨ahf k ho,trivial⟩ func224 fun c Z x h=>aE h
def Gp:Rw S:=am zI xn fun a b Z=>ab k (tO k a b) (Uu Z)
def aau:Fx S:=fp 16 [] [] k f278 0
theorem JI (ho:ao o):Tl o 278 (Gp k:Rw S):=ap (aau k) trivial func278 fun a b Z x h=>aE h
def Va:Rw S:=am zI xn fun a b Z=>ab k (Dl k a b) (a_ Z)
def aay:Fx S:=fp 10 [(278,Gp k)] [] k f229 0
theorem ahq (ho:ao o):Tl o 229 (Va k:Rw S):=ap (aay k) ⟨JI k ho,trivial⟩ func229 fun a b Z x h=>aE h
def Vd:Rw S:=am Kx Bv fun d c0 Z=>ab k (Dp k d c0) (Uw c0 Z)
def aaC:Fx S:=fp 12 [(229,Va k)] [] k f228 1
theorem aht (ho:ao o):Tl o 228 (Vd k:Rw S):=ap (aaC k) ⟨ahq k ho,trivial⟩ func228 fun d c0 Z x h=>aE h
def Ve:Rw S:=am Ri Bv fun s c0 Z=>ab k (Jw k s c0) (Gl c0 Z)
def HH:Fx S:=fp 19 [(228,Vd k)] [(2,bG [0,1,7,8] [(1000000,2)],aG 4 5)] k f277 1
def Sj (c0:Cl) (s:List Cl) (v8:Int):St UU:=⟨[(0,(sC s)),(1,(.func 228 [] [(pt 1000000)])),(7,(iI s.length)),(8,(iI v8))],[(1000000,bC c0)],[],[]⟩
section
variable (k:Nat) (s:List Cl) (c0:Cl) (Z:Out UU->Option S)
theorem ady: ∀n v8,(HH k).lp Z 2 [] n (Sj c0 s v8)=vF k (Gl c0 Z) c0 s n v8:=dO (CV k (Gl c0 Z) c0 s)
end
theorem ahu (ho:ao o):Tl o 277 (Ve k:Rw S):=ap (HH k) ⟨aht k ho,trivial⟩ func277 fun s c0 Z x h=>ak (b:=OH k (Gl c0 Z) (fun v8=>(HH k).lp Z 2 [] k (Sj c0 s v8)) s c0) (by kernel_rfl) (ak (by simp only [ady];rfl) (bp h))
def Vi:Rw S:=am Ri Bv fun s c0 Z=>ab k (Ju k s c0) (Uw c0 Z)
def aaH:Fx S:=fp 9 [(277,Ve k)] [] k f227 1
theorem ahy (ho:ao o):Tl o 227 (Vi k:Rw S):=ap (aaH k) ⟨ahu k ho,trivial⟩ func227 fun s c0 Z x h=>aE h
def Vo:Rw S:=am Kx atP fun c c0 Z=>ab k (Dm k c c0) (apC c0 Z)
def aaO:Fx S:=fp 7 [(227,Vi k)] [] k f226 1
theorem ahE (ho:ao o):Tl o 226 (Vo k:Rw S):=ap (aaO k) ⟨ahy k ho,trivial⟩ func226 fun c c0 Z x h=>aE h
def mX:Rw S:=am gJ xn fun l Z=>ab k (ko k l) (a8 Z)
def wU:Fx S:=fx 55 (fun _=>[]) (fun|53=>true|_=>false) [(224,L0 k),(226,Vo k)] [(4,⟨[(4,aa),(5,aa),(13,aa),(14,aa),(15,aa)],[(5,[ar 200320]),(12,[])]⟩,aG 6 23),(15,⟨[(8,aa),(9,ar 100009),(34,aa),(35,aa),(36,aa)],[(5,[aa])]⟩,aG 9 191)] k f146 false [] 0
def Ld (l:List Cl) (gS:List (Cl×Bool)) (b5_0:List Cl) (v15:Int):St UU:=⟨[(4,(.mp 12)),(5,(pt 5)),(13,(sC l)),(14,(iI l.length)),(15,(iI v15))],[(5,.cells [(.own 200320 0)]),(12,.map ET.C gS)],[(200320,⟨0,ET.C,b5_0⟩)],[(200320,.wr)]⟩
def SH (b5_0:List Cl) (v36:Int) (kept9:List Cl):St UU:=⟨[(8,(.func 226 [] [(pt 5)])),(9,(.own 100009 0)),(34,(sC b5_0)),(35,(iI b5_0.length)),(36,(iI v36))],[(5,.cells [(sC b5_0)])],[(100009,⟨0,ET.C,kept9⟩)],[(100009,.wr)]⟩
section
variable (k:Nat) (l:List Cl) (Z:Out UU->Option S)
theorem ad3 (b5_0): ∀n v36 kept9,(wU k).lp Z 15 [] n (SH b5_0 v36 kept9)=rN k (a8 Z) b5_0 n v36 kept9:=bh (BF k (a8 Z) b5_0)
theorem ad2: ∀n gS b5_0 v15,(wU k).lp Z 4 [] n (Ld l gS b5_0 v15)=uK k (a8 Z) l n gS b5_0 v15:=h_ (fun own=>xb k (a8 Z) l (fun b5_0 v36 kept9=>rN k (a8 Z) b5_0 k v36 kept9) own) rfl (fun _=>rfl) fun r gS b5_0 v15=>ak (b:=xb k (a8 Z) l (fun b5_0 v36 kept9=>(wU k).lp Z 15 [] k (SH b5_0 v36 kept9)) (fun gS b5_0 v15=>r (Ld l gS b5_0 v15)) gS b5_0 v15) (by kernel_rfl) (by simp only [ad3])
end
theorem nN (ho:ao o):Tl o 146 (mX k:Rw S):=ap (wU k) ⟨PP k ho,ahE k ho,trivial⟩ func146 fun l Z x h=>ak (b:=Np k (a8 Z) (fun gS b5_0 v15=>(wU k).lp Z 4 [] k (Ld l gS b5_0 v15)) l) (by kernel_rfl) (ak (by simp only [ad2];rfl) (bp h))
def Vt:Rw S:=am mH xn fun s1 s2 Z=>ab k (EI k s1 s2) (a_ Z)
def HU:Fx S:=fp 26 [] [(4,bG [0,1,12,13] [],aG 5 11)] k f223 0
def SO (s1 s2:List Cl) (v13:Int):St UU:=⟨[(0,(sC s1)),(1,(sC s2)),(12,(iI s1.length)),(13,(iI v13))],[],[],[]⟩
section
variable (k:Nat) (s1 s2:List Cl) (Z:Out UU->Option S)
theorem aeb: ∀n v13,(HU k).lp Z 4 [] n (SO s1 s2 v13)=vE k (a_ Z) s1 s2 n v13:=dO (CU k (a_ Z) s1 s2)
end
theorem ahJ (ho:ao o):Tl o 223 (Vt k:Rw S):=ap (HU k) trivial func223 fun s1 s2 Z x h=>ak (b:=OG k (a_ Z) (fun v13=>(HU k).lp Z 4 [] k (SO s1 s2 v13)) s1 s2) (by kernel_rfl) (ak (by simp only [aeb];rfl) (bp h))
def sX:Rw S:=am gJ xn fun f Z=>ab k (lm k f) (a_ Z)
def aa2:Fx S:=fp 17 [(146,mX k),(223,Vt k)] [] k f140 0
theorem uu (ho:ao o):Tl o 140 (sX k:Rw S):=ap (aa2 k) ⟨nN k ho,ahJ k ho,trivial⟩ func140 fun f Z x h=>aE h
def AU:Rw S:=am ir xn fun i Z=>ab k (rl k i) (a_ Z)
def aa7:Fx S:=fp 9 [] [] k f232 0
theorem EY (ho:ao o):Tl o 232 (AU k:Rw S):=ap (aa7 k) trivial func232 fun i Z x h=>aE h
def Gv:Rw S:=am pH xn fun s i Z=>ab k (nB k s i) (dl Z)
def abd:Fx S:=fp 16 [(232,AU k)] [] k f233 0
theorem JM (ho:ao o):Tl o 233 (Gv k:Rw S):=ap (abd k) ⟨EY k ho,trivial⟩ func233 fun s i Z x h=>aE h
def Gw:Rw S:=am gJ xn fun f Z=>ab k (tT k f) (dl Z)
def H6:Fx S:=fp 22 [(233,Gv k)] [(3,bG [3,6,7,8] [],aG 5 11)] k f150 0
def S2 (f:List Cl) (s3 v8:Int):St UU:=⟨[(3,(iU s3)),(6,(sC f)),(7,(iI f.length)),(8,(iI v8))],[],[],[]⟩
section
variable (k:Nat) (f:List Cl) (Z:Out UU->Option S)
theorem aes: ∀n s3 v8,(H6 k).lp Z 3 [] n (S2 f s3 v8)=uQ k (dl Z) f n s3 v8:=bh (BS k (dl Z) f)
end
theorem JN (ho:ao o):Tl o 150 (Gw k:Rw S):=ap (H6 k) ⟨JM k ho,trivial⟩ func150 fun f Z x h=>ak (b:=NC k (dl Z) (fun s3 v8=>(H6 k).lp Z 3 [] k (S2 f s3 v8)) f) (by kernel_rfl) (ak (by simp only [aes];rfl) (bp h))
def Wa:Rw S:=am Ky xn fun f dims Z=>ab k (pq k f dims) (a_ Z)
def abt:Fx S:=fp 15 [(150,Gw k)] [] k f204 0
theorem aip (ho:ao o):Tl o 204 (Wa k:Rw S):=ap (abt k) ⟨JN k ho,trivial⟩ func204 fun f dims Z x h=>aE h
def Mk:Rw S:=am rM xn fun c Z=>ab k (yo k c) (a_ Z)
def abA:Fx S:=fp 9 [] [] k f269 0
theorem P7 (ho:ao o):Tl o 269 (Mk k:Rw S):=ap (abA k) trivial func269 fun c Z x h=>aE h
def Wi:Rw S:=am Rk xn fun s Z=>ab k (Jx k s) (be Z)
def Ii:Fx S:=fp 19 [(269,Mk k)] [(2,bG [0,1,7,8] [],aG 4 5)] k f277 0
def Ti (s:List Cl) (v8:Int):St UU:=⟨[(0,(sC s)),(1,(.func 269 [] [])),(7,(iI s.length)),(8,(iI v8))],[],[],[]⟩
section
variable (k:Nat) (s:List Cl) (Z:Out UU->Option S)
theorem aeN: ∀n v8,(Ii k).lp Z 2 [] n (Ti s v8)=vG k (be Z) s n v8:=dO (CW k (be Z) s)
end
theorem aix (ho:ao o):Tl o 277 (Wi k:Rw S):=ap (Ii k) ⟨P7 k ho,trivial⟩ func277 fun s Z x h=>ak (b:=OI k (be Z) (fun v8=>(Ii k).lp Z 2 [] k (Ti s v8)) s) (by kernel_rfl) (ak (by simp only [aeN];rfl) (bp h))
def Ws:Rw S:=am Rk xn fun s Z=>ab k (Jv k s) (a_ Z)
def abN:Fx S:=fp 9 [(277,Wi k)] [] k f227 0
theorem aiG (ho:ao o):Tl o 227 (Ws k:Rw S):=ap (abN k) ⟨aix k ho,trivial⟩ func227 fun s Z x h=>aE h
def Mr:Rw S:=am gJ xn fun f Z=>ab k (tQ k f) (a_ Z)
def abW:Fx S:=fp 10 [(140,sX k),(227,Ws k)] [] k f205 0
theorem Qa (ho:ao o):Tl o 205 (Mr k:Rw S):=ap (abW k) ⟨uu k ho,aiG k ho,trivial⟩ func205 fun f Z x h=>aE h
def WJ:Rw S:=am nX xn fun t vars dims Z=>ab k (zf k t vars dims) (a_ Z)
def wY:Fx S:=fp 138 [(140,sX k),(201,UH k),(202,UL k),(203,US k),(204,Wa k),(205,Mr k)] [(1000003,bG [1,2,3] [(3,6)],aG 2 3),(15,bG [2,3,107,108,109] [(3,6)],aG 6 23)] k f115 0
def To (t:Tm) (vars dims:Int):St UU:=⟨[(1,(iI vars)),(2,(iI dims)),(3,(pt 3))],[(3,bT t)],[],[]⟩
def Tp (t:Tm) (dims:Int) (v109:Int):St UU:=⟨[(2,(iI dims)),(3,(pt 3)),(107,(sB t.sys)),(108,(iI t.sys.length)),(109,(iI v109))],[(3,bT t)],[],[]⟩
section
variable (k:Nat) (t:Tm) (vars dims:Int) (Z:Out UU->Option S)
theorem aeU: ∀n v109,(wY k).lp Z 15 [] n (Tp t dims v109)=ox k (a_ Z) t dims n v109:=dO (C4 k (a_ Z) t dims)
theorem aeT: ∀n,(wY k).jn Z 1000003 [] n (To t vars dims)=FG k (a_ Z) t vars dims n:=mG (yh k (a_ Z) t vars dims (fun v109=>ox k (a_ Z) t dims k v109)) rfl (fun _=>rfl) (ak (b:=yh k (a_ Z) t vars dims (fun v109=>(wY k).lp Z 15 [] k (Tp t dims v109))) (by kernel_rfl) (by simp only [aeU]))
end
theorem aiY (ho:ao o):Tl o 115 (WJ k:Rw S):=ap (wY k) ⟨uu k ho,agY k ho,ag2 k ho,ag9 k ho,aip k ho,Qa k ho,trivial⟩ func115 fun t vars dims Z x h=>ak (b:=OR k (a_ Z) ((wY k).jn Z 1000003 [] k (To t vars dims)) t vars dims) (by kernel_rfl) (ak (by simp only [aeT];rfl) (bp h))
def AY (hd:f7 S):Rw S:=am Rl xn fun t vars dims bound Z=>hd t vars dims bound (a_ Z)
def WK (hd:f7 S) (k:Nat):Rw S:=am akW ZG fun a_k v d c0 c1 c2 Z=>ab k (zd hd k a_k v d c0 c1 c2) (jZ c0 c1 c2 Z)
def ab4 (hd:f7 S) (k:Nat):Fx S:=fp 21 [(51,AY hd)] [] k f117 3
theorem aiZ (o:Obj) (ho:ao o) (hd:f7 S) (Hd:Tl o 51 (AY hd)) (k:Nat):Tl o 117 (WK hd k:Rw S):=ap (ab4 hd k) ⟨Hd,trivial⟩ func117 fun a_k v d c0 c1 c2 Z x h=>aE h
def WL (hd:f7 S) (k:Nat):Rw S:=am akX ZG fun t c0 c1 c2 Z=>ab k (EK hd k t c0 c1 c2) (jZ c0 c1 c2 Z)
def qT (hd:f7 S) (k:Nat):Fx S:=fp 60 [(49,mV k),(117,WK hd k)] [(2,bG [1,2,15,16,17] [(2,6),(1000000,1),(1000001,1),(1000002,1)],aG 4 5),(12,bG [1,9,40,41,42] [(1000000,1),(1000001,1),(1000002,1)],aG 7 47),(15,bG [1,9,40,41,42,47,48,49] [(1000000,1),(1000001,1),(1000002,1)],aG 15 13103)] k f116 3
def Lj (c0 c1:Int) (c2:Bool) (t:Tm) (v17:Int):St UU:=⟨[(1,(.func 117 [] [(pt 1000000),(pt 1000001),(pt 1000002)])),(2,(pt 2)),(15,(sT t.kids)),(16,(iI t.kids.length)),(17,(iI v17))],[(2,bT t),(1000000,bI c0),(1000001,bI c1),(1000002,.cells [(.bool c2)])],[],[]⟩
def Ak (c0 c1:Int) (c2:Bool) (t:Tm) (v42 more9:Int):St UU:=⟨[(1,(.func 117 [] [(pt 1000000),(pt 1000001),(pt 1000002)])),(9,(iI more9)),(40,(sB t.sys)),(41,(iI t.sys.length)),(42,(iI v42))],[(1000000,bI c0),(1000001,bI c1),(1000002,.cells [(.bool c2)])],[],[]⟩
def Tq (c0 c1:Int) (c2:Bool) (t:Tm) (v42:Int) (x4:(Br Tm)) (more9:Int) (v49:Int):St UU:=⟨[(1,(.func 117 [] [(pt 1000000),(pt 1000001),(pt 1000002)])),(9,(iI more9)),(40,(sB t.sys)),(41,(iI t.sys.length)),(42,(iI v42)),(47,(sT x4.kids)),(48,(iI x4.kids.length)),(49,(iI v49))],[(1000000,bI c0),(1000001,bI c1),(1000002,.cells [(.bool c2)])],[],[]⟩
section
variable (hd:f7 S) (k:Nat) (t:Tm) (c0 c1:Int) (c2:Bool) (Z:Out UU->Option S)
theorem aeX (v42 x4 more9 Z1): ∀n v49,(qT hd k).lp Z 15 [Z1] n (Tq c0 c1 c2 t v42 x4 more9 v49)=p8 hd k (jZ c0 c1 c2 Z) (fun v42 more9=>Z1 (Ak c0 c1 c2 t v42 more9)) c0 c1 c2 t v42 x4 more9 n v49:=dO (C0 hd k (jZ c0 c1 c2 Z) c0 c1 c2 t v42 x4 more9 (fun v42 more9=>Z1 (Ak c0 c1 c2 t v42 more9)))
theorem aeW: ∀n v42 more9,(qT hd k).lp Z 12 [] n (Ak c0 c1 c2 t v42 more9)=lK hd k (jZ c0 c1 c2 Z) c0 c1 c2 t n v42 more9:=bh (fun own=>x_ hd k (jZ c0 c1 c2 Z) c0 c1 c2 t (fun v42 x4 more9 v49=>p8 hd k (jZ c0 c1 c2 Z) own c0 c1 c2 t v42 x4 more9 k v49) own) rfl (fun _=>rfl) fun r v42 more9=>ak (b:=x_ hd k (jZ c0 c1 c2 Z) c0 c1 c2 t (fun v42 x4 more9 v49=>(qT hd k).lp Z 15 [r] k (Tq c0 c1 c2 t v42 x4 more9 v49)) (fun v42 more9=>r (Ak c0 c1 c2 t v42 more9)) v42 more9) (by kernel_rfl) (by simp only [aeX])
theorem aeV: ∀n v17,(qT hd k).lp Z 2 [] n (Lj c0 c1 c2 t v17)=su hd k (jZ c0 c1 c2 Z) c0 c1 c2 t n v17:=dO (fun own=>xZ hd k (jZ c0 c1 c2 Z) c0 c1 c2 t (fun v42 more9=>lK hd k (jZ c0 c1 c2 Z) c0 c1 c2 t k v42 more9) own) rfl (fun _=>rfl) fun r v17=>ak (b:=xZ hd k (jZ c0 c1 c2 Z) c0 c1 c2 t (fun v42 more9=>(qT hd k).lp Z 12 [] k (Ak c0 c1 c2 t v42 more9)) (fun v17=>r (Lj c0 c1 c2 t v17)) v17) (by kernel_rfl) (by simp only [aeW])
end
theorem ai0 (o:Obj) (ho:ao o) (hd:f7 S) (Hd:Tl o 51 (AY hd)) (k:Nat):Tl o 116 (WL hd k:Rw S):=ap (qT hd k) ⟨nL k ho,aiZ o ho hd Hd k,trivial⟩ func116 fun t c0 c1 c2 Z x h=>ak (b:=OM hd k (jZ c0 c1 c2 Z) (fun v17=>(qT hd k).lp Z 2 [] k (Lj c0 c1 c2 t v17)) t c0 c1 c2) (by kernel_rfl) (ak (by simp only [aeV];rfl) (bp h))
def ab3 (hd:f7 S) (k:Nat):Fx S:=fp 24 [(115,WJ k),(116,WL hd k)] [] k f51 0
theorem QW (o:Obj) (ho:ao o): ∀k:Nat,Tl o 51 (AY (kB k:f7 S))
 |0=>fT fun t vars dims bound Z x h=>by cases h
 |k+1=>ap (ab3 (kB k) k) ⟨aiY k ho,ai0 o ho (kB k) (QW o ho k) k,trivial⟩ func51 fun t vars dims bound Z x h=>ak (by kernel_rfl) h
def lW:Rw S:=am eh xn fun t Z=>ab k (ji k t) (be Z)
def ab5:Fx S:=fp 12 [(50,Uz k),(51,AY (kB k))] [] k f40 0
theorem mA (ho:ao o):Tl o 40 (lW k:Rw S):=ap (ab5 k) ⟨agQ k ho,QW o ho k,trivial⟩ func40 fun t Z x h=>aE h
def qu (hd:iG S):Rw S:=am eh xn fun t Z=>hd t (aV Z)
def WM (hd:iG S) (k:Nat):Rw S:=am Kz xn fun l Z=>ab k (ze hd k l) (F5 Z)
def Iq (hd:iG S) (k:Nat):Fx S:=fp 19 [(41,qu hd)] [(3,⟨[(3,ar 100003),(6,aa),(7,aa),(8,aa)],[]⟩,aG 5 11)] k f92 0
def Ts (l:List Tm) (out3:List Tm) (v8:Int):St UU:=⟨[(3,(.own 100003 0)),(6,(sT l)),(7,(iI l.length)),(8,(iI v8))],[],[(100003,⟨0,ET.T,out3⟩)],[(100003,.wr)]⟩
section
variable (hd:iG S) (k:Nat) (l:List Tm) (Z:Out UU->Option S)
theorem aeZ: ∀n out3 v8,(Iq hd k).lp Z 3 [] n (Ts l out3 v8)=vI hd k (F5 Z) l n out3 v8:=bh (CY hd k (F5 Z) l)
end
theorem ai1 (o:Obj) (ho:ao o) (hd:iG S) (Hd:Tl o 41 (qu hd)) (k:Nat):Tl o 92 (WM hd k:Rw S):=ap (Iq hd k) ⟨Hd,trivial⟩ func92 fun l Z x h=>ak (b:=OK hd k (F5 Z) (fun out3 v8=>(Iq hd k).lp Z 3 [] k (Ts l out3 v8)) l) (by kernel_rfl) (ak (by simp only [aeZ];rfl) (bp h))
def Ip (hd:iG S) (k:Nat):Fx S:=fp 40 [(91,MK),(92,WM hd k)] [(3,⟨[(2,aa),(3,aa),(20,aa),(21,aa),(22,aa)],[(2,[aa,aa,aa,ar 200131,ar 200132,ar 200133]),(3,[aa,aa,aa,aa,aa,ar 200197])]⟩,aG 5 11)] k f41 0
def Tr (t:Tm) (r1:List Cl) (r2:List Tm) (b3_5:List (Br Tm)) (v22:Int):St UU:=⟨[(2,(pt 2)),(3,(pt 3)),(20,(sB t.sys)),(21,(iI t.sys.length)),(22,(iI v22))],[(2,.cells [(iI 0),(iI 0),cx,(.own 200131 0),(.own 200132 0),(.own 200133 0)]),(3,.cells [(iI t.kind),(iI t.n),(.str t.name),(sC r1),(sT r2),(.own 200197 0)])],[(200197,⟨0,ET.B,b3_5⟩),(200133,b_),(200132,cu),(200131,cq)],[(200197,.wr),(200133,.wr),(200132,.wr),(200131,.wr)]⟩
section
variable (hd:iG S) (k:Nat) (t:Tm) (Z:Out UU->Option S)
theorem aeY (r1 r2): ∀n b3_5 v22,(Ip hd k).lp Z 3 [] n (Tr t r1 r2 b3_5 v22)=vH hd k (aV Z) t r1 r2 n b3_5 v22:=bh (CX hd k (aV Z) t r1 r2)
end
theorem uG (o:Obj) (ho:ao o): ∀k:Nat,Tl o 41 (qu (fc k:iG S))
 |0=>fT fun t Z x h=>by cases h
 |k+1=>ap (Ip (fc k) k) ⟨as8 o ho,ai1 o ho (fc k) (uG o ho k) k,trivial⟩ func41 fun t Z x h=>ak (b:=OJ (fc k) k (aV Z) (fun r1 r2 b3_5 v22=>(Ip (fc k) k).lp Z 3 [] k (Tr t r1 r2 b3_5 v22)) t) (by kernel_rfl) (ak (by simp only [aeY];rfl) h)
def lX:Rw S:=am Rm dh fun t a_e c0 Z=>ab k (jh k t a_e c0) (j5 Z)
def ab7:Fx S:=fp 23 [] [] k f93 1
theorem mB (ho:ao o):Tl o 93 (lX k:Rw S):=ap (ab7 k) trivial func93 fun t a_e c0 Z x h=>aE h
def ap8:Rw S:=am Fv dh fun c0 Z=>ab k (eb k c0) (iy c0 Z)
def lY:Rw S:=am Fv dh fun c0 Z=>ab k (eb k c0) (a_ Z)
def ab8:Fx S:=fp 8 [] [] k f94 1
theorem ai3 (ho:ao o):Tl o 94 (ap8 k:Rw S):=ap (ab8 k) trivial func94 fun c0 Z x h=>aE h
theorem mC (ho:ao o):Tl o 94 (lY k:Rw S):=Zb (ai3 k ho) fun c0 Z x h=>ak (b:=ab k (eb k c0) (iy c0 (De _ Z))) (by kernel_rfl) (ak (congrArg (ab k (eb k c0)) (funext fun r=>if_pos rfl)) h)
def Ms:Rw S:=am pI dh fun t c0 Z=>ab k (jg k t c0) (apF Z)
def ab9:Fx S:=fp 20 [(40,lW k),(41,qu (fc k)),(93,lX k),(94,lY k)] [] k f42 1
theorem Qb (ho:ao o):Tl o 42 (Ms k:Rw S):=ap (ab9 k) ⟨mA k ho,uG o ho k,mB k ho,mC k ho,trivial⟩ func42 fun t c0 Z x h=>aE h
def GA:Rw S:=am akY xn fun l Z=>ab k (tV k l) (be Z)
def Ir:Fx S:=fp 15 [(140,sX k)] [(2,bG [5,6,7] [],aG 4 5)] k f141 0
def Tt (l:List (List Cl)) (v7:Int):St UU:=⟨[(5,(Nd l .none)),(6,(iI l.length)),(7,(iI v7))],[],[],[]⟩
section
variable (k:Nat) (l:List (List Cl)) (Z:Out UU->Option S)
theorem ae0: ∀n v7,(Ir k).lp Z 2 [] n (Tt l v7)=uV k (be Z) l n v7:=dO (BY k (be Z) l)
end
theorem JQ (ho:ao o):Tl o 141 (GA k:Rw S):=ap (Ir k) ⟨uu k ho,trivial⟩ func141 fun l Z x h=>ak (b:=NI k (be Z) (fun v7=>(Ir k).lp Z 2 [] k (Tt l v7)) l) (by kernel_rfl) (ak (by simp only [ae0];rfl) (bp h))
def Mt:Rw S:=am cn xn fun Z=>ab k (yy k) (apG Z)
def ab_:Fx S:=fx 1 (fun _=>[]) (fun _=>false) [] [] k f143 false [true] 0
theorem Qc (ho:ao o):Tl o 143 (Mt k:Rw S):=ap (ab_ k) trivial func143 fun Z x h=>aE h
def Mu:Rw S:=am ir xn fun i Z=>ab k (t8 k i) (dl Z)
def aca:Fx S:=fp 9 [] [] k f244 0
theorem Qd (ho:ao o):Tl o 244 (Mu k:Rw S):=ap (aca k) trivial func244 fun i Z x h=>aE h
def WO:Rw S:=am Rn xn fun s a_from a_by Z=>ab k (pe k s a_from a_by) (AG Z)
def acb:Fx S:=fp 46 [(244,Mu k)] [] k f225 0
theorem ai4 (ho:ao o):Tl o 225 (WO k:Rw S):=ap (acb k) ⟨Qd k ho,trivial⟩ func225 fun s a_from a_by Z x h=>aE h
def WP:Rw S:=am Rp xn fun c a_from a_by Z=>ab k (Dq k c a_from a_by) (Uo Z)
def acd:Fx S:=fp 42 [(224,L0 k),(225,WO k)] [] k f145 0
theorem ai5 (ho:ao o):Tl o 145 (WP k:Rw S):=ap (acd k) ⟨PP k ho,ai4 k ho,trivial⟩ func145 fun c a_from a_by Z x h=>aE h
def WQ:Rw S:=am akZ Hs fun a_have c c0 c1 Z=>ab k (Jg k a_have c c0 c1) (apH c0 c1 Z)
def ace:Fx S:=fx 22 (fun _=>[]) (fun _=>false) [(145,WP k)] [] k f144 false [true,false] 2
theorem ai6 (ho:ao o):Tl o 144 (WQ k:Rw S):=ap (ace k) ⟨ai5 k ho,trivial⟩ func144 fun a_have c c0 c1 Z x h=>aE h
def WR:Rw S:=am ak0 Hs fun l a_from c0 c1 Z=>ab k (DH k l a_from c0 c1) (F6 c0 c1 Z)
def Is:Fx S:=fx 33 (fun|23=>[true,false]|_=>[]) (fun _=>false) [(144,WQ k)] [(2,⟨[(1,ar 100001),(2,aa),(13,aa),(14,aa),(15,aa)],[(1000000,[aa]),(1000001,[aa])]⟩,aG 4 5)] k f142 false [] 2
def Tu (c0 c1:Int) (l:List Cl) (v1:List Cl) (v15:Int):St UU:=⟨[(1,(.own 100001 0)),(2,(.func 144 [] [(pt 1000000),(pt 1000001)])),(13,(sC l)),(14,(iI l.length)),(15,(iI v15))],[(1000000,bI c0),(1000001,bI c1)],[(100001,⟨0,ET.C,v1⟩)],[(100001,.wr)]⟩
section
variable (k:Nat) (l a_from:List Cl) (c0 c1:Int) (Z:Out UU->Option S)
theorem ae1: ∀n v1 v15,(Is k).lp Z 2 [] n (Tu c0 c1 l v1 v15)=uT k (F6 c0 c1 Z) c0 c1 l n v1 v15:=bh (BV k (F6 c0 c1 Z) c0 c1 l)
end
theorem ai7 (ho:ao o):Tl o 142 (WR k:Rw S):=ap (Is k) ⟨ai6 k ho,trivial⟩ func142 fun l a_from c0 c1 Z x h=>ak (b:=NF k (F6 c0 c1 Z) (fun v1 v15=>(Is k).lp Z 2 [] k (Tu c0 c1 l v1 v15)) l a_from c0 c1) (by kernel_rfl) (ak (by simp only [ae1];rfl) (bp h))
def sZ:Rw S:=am KA xn fun f a_from a_by Z=>ab k (nz k f a_from a_by) (a8 Z)
def acf:Fx S:=fx 31 (fun|21=>[false,true,false]|_=>[]) (fun _=>false) [(141,GA k),(142,WR k),(143,Mt k),(146,mX k)] [] k f75 false [] 0
theorem ux (ho:ao o):Tl o 75 (sZ k:Rw S):=ap (acf k) ⟨JQ k ho,ai7 k ho,Qc k ho,nN k ho,trivial⟩ func75 fun f a_from a_by Z x h=>aE h
def WT:Rw S:=am ak1 xn fun l_0 l_1 f a_from Z=>ab k (yC k l_0 l_1 f a_from) (apI Z)
def acg:Fx S:=fp 31 [(75,sZ k)] [] k f165 0
theorem ai9 (ho:ao o):Tl o 165 (WT k:Rw S):=ap (acg k) ⟨ux k ho,trivial⟩ func165 fun l_0 l_1 f a_from Z x h=>aE h
def AZ (hd:jC S):Rw S:=am ak2 xn fun l_0 l_1 t v d Z=>hd l_0 l_1 t v d (dP Z)
def nq (hd:jC S) (k:Nat):Fx S:=fp 128 [(49,mV k),(85,AZ hd),(165,WT k)] [(1000006,⟨[(2,aa),(3,aa),(4,aa),(5,aa),(8,aa),(9,aa)],[(4,[aa,aa]),(5,[aa,aa,aa,aa,aa,aa]),(8,[aa,aa,aa,ar 200515,ar 200516,ar 200517]),(9,[aa,aa,aa,aa,ar 200580,ar 200581])]⟩,aG 3 7),(7,⟨[(2,aa),(3,aa),(4,aa),(5,aa),(8,aa),(9,aa),(55,aa),(56,aa),(57,aa)],[(4,[aa,aa]),(5,[aa,aa,aa,aa,aa,aa]),(8,[aa,aa,aa,ar 200515,ar 200516,ar 200517]),(9,[aa,aa,aa,aa,ar 200580,ar 200581])]⟩,aG 6 23),(16,⟨[(2,aa),(3,aa),(4,aa),(8,aa),(9,aa),(14,aa),(88,aa),(89,aa),(90,aa)],[(4,[aa,aa]),(8,[aa,aa,aa,ar 200515,ar 200516,ar 200517]),(9,[aa,aa,aa,aa,ar 200580,ar 200581])]⟩,aG 9 191),(20,⟨[(2,aa),(3,aa),(4,aa),(8,aa),(9,aa),(14,aa),(17,aa),(88,aa),(89,aa),(90,aa),(101,aa),(102,aa),(103,aa)],[(4,[aa,aa]),(8,[aa,aa,aa,ar 200515,ar 200516,ar 200517]),(9,[aa,aa,aa,aa,ar 200580,ar 200581]),(17,[aa,ar 201089])]⟩,aG 19 183487)] k f85 0
def Tv (l_0 l_1:Int) (t:Tm) (r2:List Cl) (v d:Int) (bO:Int):St UU:=⟨[(2,(iI v)),(3,(iI d)),(4,(pt 4)),(5,(pt 5)),(8,(pt 8)),(9,(pt 9))],[(4,.cells [(iI l_0),(iI l_1)]),(5,bT t),(8,.cells [(iI 0),(iI 0),cx,(.own 200515 0),(.own 200516 0),(.own 200517 0)]),(9,.cells [(iI t.kind),(iI bO),(.str t.name),(sC r2),(.own 200580 0),(.own 200581 0)])],[(200581,b_),(200580,cu),(200517,b_),(200516,cu),(200515,cq)],[(200581,.wr),(200580,.wr),(200517,.wr),(200516,.wr),(200515,.wr)]⟩
def Lk (l_0 l_1:Int) (t:Tm) (bO:Int) (r2:List Cl) (v d:Int) (b9_4:List Tm) (v57:Int):St UU:=⟨[(2,(iI v)),(3,(iI d)),(4,(pt 4)),(5,(pt 5)),(8,(pt 8)),(9,(pt 9)),(55,(sT t.kids)),(56,(iI t.kids.length)),(57,(iI v57))],[(4,.cells [(iI l_0),(iI l_1)]),(5,bT t),(8,.cells [(iI 0),(iI 0),cx,(.own 200515 0),(.own 200516 0),(.own 200517 0)]),(9,.cells [(iI t.kind),(iI bO),(.str t.name),(sC r2),(.own 200580 0),(.own 200581 0)])],[(200581,b_),(200580,⟨0,ET.T,b9_4⟩),(200517,b_),(200516,cu),(200515,cq)],[(200581,.wr),(200580,.wr),(200517,.wr),(200516,.wr),(200515,.wr)]⟩
def Al (l_0 l_1:Int) (t:Tm) (bO:Int) (r2:List Cl) (b9_4:List Tm) (v d:Int) (b9_5:List (Br Tm)) (more14 v90:Int):St UU:=⟨[(2,(iI v)),(3,(iI d)),(4,(pt 4)),(8,(pt 8)),(9,(pt 9)),(14,(iI more14)),(88,(sB t.sys)),(89,(iI t.sys.length)),(90,(iI v90))],[(4,.cells [(iI l_0),(iI l_1)]),(8,.cells [(iI 0),(iI 0),cx,(.own 200515 0),(.own 200516 0),(.own 200517 0)]),(9,.cells [(iI t.kind),(iI bO),(.str t.name),(sC r2),(.own 200580 0),(.own 200581 0)])],[(200581,⟨0,ET.B,b9_5⟩),(200580,⟨0,ET.T,b9_4⟩),(200517,b_),(200516,cu),(200515,cq)],[(200581,.wr),(200580,.wr),(200517,.wr),(200516,.wr),(200515,.wr)]⟩
def Tw (r12:List Cl) (l_0 l_1:Int) (t:Tm) (bO:Int) (r2:List Cl) (b9_4:List Tm) (b9_5:List (Br Tm)) (x10:(Br Tm)) (more14 v d v90:Int) (b17_1:List Tm) (v103:Int):St UU:=⟨[(2,(iI v)),(3,(iI d)),(4,(pt 4)),(8,(pt 8)),(9,(pt 9)),(14,(iI more14)),(17,(pt 17)),(88,(sB t.sys)),(89,(iI t.sys.length)),(90,(iI v90)),(101,(sT x10.kids)),(102,(iI x10.kids.length)),(103,(iI v103))],[(4,.cells [(iI l_0),(iI l_1)]),(8,.cells [(iI 0),(iI 0),cx,(.own 200515 0),(.own 200516 0),(.own 200517 0)]),(9,.cells [(iI t.kind),(iI bO),(.str t.name),(sC r2),(.own 200580 0),(.own 200581 0)]),(17,.cells [(sC r12),(.own 201089 0)])],[(201089,⟨0,ET.T,b17_1⟩),(200581,⟨0,ET.B,b9_5⟩),(200580,⟨0,ET.T,b9_4⟩),(200517,b_),(200516,cu),(200515,cq)],[(201089,.wr),(200581,.wr),(200580,.wr),(200517,.wr),(200516,.wr),(200515,.wr)]⟩
section
variable (hd:jC S) (k:Nat) (l_0 l_1:Int) (t:Tm) (v d:Int) (Z:Out UU->Option S)
theorem ae5 (r12 bO r2 b9_4 b9_5 x10 more14 v90 Z2): ∀n b17_1 v103,(nq hd k).lp Z 20 [Z2] n (Tw r12 l_0 l_1 t bO r2 b9_4 b9_5 x10 more14 v d v90 b17_1 v103)=pP hd k (dP Z) (fun b9_5 more14 v90=>Z2 (Al l_0 l_1 t bO r2 b9_4 v d b9_5 more14 v90)) r12 l_0 l_1 t bO r2 b9_4 b9_5 x10 more14 v d v90 n b17_1 v103:=bh (B_ hd k (dP Z) r12 l_0 l_1 t bO r2 b9_4 b9_5 x10 more14 v d v90 (fun b9_5 more14 v90=>Z2 (Al l_0 l_1 t bO r2 b9_4 v d b9_5 more14 v90)))
theorem ae4 (bO r2 b9_4): ∀n b9_5 more14 v90,(nq hd k).lp Z 16 [] n (Al l_0 l_1 t bO r2 b9_4 v d b9_5 more14 v90)=lD hd k (dP Z) l_0 l_1 t bO r2 b9_4 v d n b9_5 more14 v90:=h_ (fun own=>xj hd k (dP Z) l_0 l_1 t bO r2 b9_4 v d (fun r12 b9_5 x10 more14 v90 b17_1 v103=>pP hd k (dP Z) own r12 l_0 l_1 t bO r2 b9_4 b9_5 x10 more14 v d v90 k b17_1 v103) own) rfl (fun _=>rfl) fun r b9_5 more14 v90=>ak (b:=xj hd k (dP Z) l_0 l_1 t bO r2 b9_4 v d (fun r12 b9_5 x10 more14 v90 b17_1 v103=>(nq hd k).lp Z 20 [r] k (Tw r12 l_0 l_1 t bO r2 b9_4 b9_5 x10 more14 v d v90 b17_1 v103)) (fun b9_5 more14 v90=>r (Al l_0 l_1 t bO r2 b9_4 v d b9_5 more14 v90)) b9_5 more14 v90) (by kernel_rfl) (by simp only [ae5])
theorem ae3 (bO r2): ∀n b9_4 v57,(nq hd k).lp Z 7 [] n (Lk l_0 l_1 t bO r2 v d b9_4 v57)=n3 hd k (dP Z) l_0 l_1 t bO r2 v d n b9_4 v57:=bh (fun own=>xh hd k (dP Z) l_0 l_1 t bO r2 v d (fun b9_4 b9_5 more14 v90=>lD hd k (dP Z) l_0 l_1 t bO r2 b9_4 v d k b9_5 more14 v90) own) rfl (fun _=>rfl) fun r b9_4 v57=>ak (b:=xh hd k (dP Z) l_0 l_1 t bO r2 v d (fun b9_4 b9_5 more14 v90=>(nq hd k).lp Z 16 [] k (Al l_0 l_1 t bO r2 b9_4 v d b9_5 more14 v90)) (fun b9_4 v57=>r (Lk l_0 l_1 t bO r2 v d b9_4 v57)) b9_4 v57) (by kernel_rfl) (by simp only [ae4])
theorem ae2 (r2): ∀n bO,(nq hd k).jn Z 1000006 [] n (Tv l_0 l_1 t r2 v d bO)=zK hd k (dP Z) l_0 l_1 t r2 v d n bO:=rL (IF hd k (dP Z) l_0 l_1 t r2 v d (fun bO b9_4 v57=>n3 hd k (dP Z) l_0 l_1 t bO r2 v d k b9_4 v57)) rfl (fun _=>rfl) (fun bO=>ak (b:=IF hd k (dP Z) l_0 l_1 t r2 v d (fun bO b9_4 v57=>(nq hd k).lp Z 7 [] k (Lk l_0 l_1 t bO r2 v d b9_4 v57)) bO) (by kernel_rfl) (by simp only [ae3]))
end
theorem Fp (o:Obj) (ho:ao o): ∀k:Nat,Tl o 85 (AZ (eZ k:jC S))
 |0=>fT fun l_0 l_1 t v d Z x h=>by cases h
 |k+1=>ap (nq (eZ k) k) ⟨nL k ho,Fp o ho k,ai9 k ho,trivial⟩ func85 fun l_0 l_1 t v d Z x h=>ak (b:=NP (eZ k) k (dP Z) (fun r2 bO=>(nq (eZ k) k).jn Z 1000006 [] k (Tv l_0 l_1 t r2 v d bO)) l_0 l_1 t v d) (by kernel_rfl) (ak (by simp only [ae2];rfl) h)
def WU:Rw S:=am KB ZH fun c0 c1 c2 Z=>ab k (DV k c0 c1 c2) (apJ c0 c1 c2 Z)
def ach:Fx S:=fp 11 [(85,AZ (eZ k))] [] k f206 3
theorem ai_ (ho:ao o):Tl o 206 (WU k:Rw S):=ap (ach k) ⟨Fp o ho k,trivial⟩ func206 fun c0 c1 c2 Z x h=>aE h
def WV:Rw S:=am ak3 ZH fun t numbers c0 c1 c2 Z=>ab k (D0 k t numbers c0 c1 c2) (F7 c0 c1 c2 Z)
def It:Fx S:=⟨⟨30,(fun _=>[]),(fun _=>false),aa,fun|6=>true|7=>true|_=>false⟩,[(40,lW k),(206,WU k)],[(5,⟨[(2,aa),(6,aa),(7,aa),(17,aa),(18,aa),(19,aa)],[(1000000,[aa]),(1000001,[aa]),(1000002,[aa,aa,aa,aa,aa,aa]),(5000006,[aa,aa,aa,ar 320200387,ar 320200388,ar 320200389]),(5000007,[aa])]⟩,aG 5 11)],k,f83,false,[],3,some (tK 16 164 f164 k)⟩
def Tx (c0 c1:Int) (c2:Tm) (numbers:List Int) (v19:Int):St UU:=⟨[(2,(.func 206 [] [(pt 1000000),(pt 1000001),(pt 1000002)])),(6,(pt 5000006)),(7,(pt 5000007)),(17,(oN numbers .none)),(18,(iI numbers.length)),(19,(iI v19))],[(1000000,bI c0),(1000001,bI c1),(1000002,bT c2),(5000006,.cells [(iI 0),(iI 0),cx,(.own 320200387 0),(.own 320200388 0),(.own 320200389 0)]),(5000007,bI 0)],[(320200389,b_),(320200388,cu),(320200387,cq)],[(320200389,.wr),(320200388,.wr),(320200387,.wr)]⟩
section
variable (k:Nat) (t:Tm) (numbers:List Int) (c0 c1:Int) (c2:Tm) (Z:Out UU->Option S)
theorem ae6: ∀n v19,(It k).lp Z 5 [] n (Tx c0 c1 c2 numbers v19)=rS k (F7 c0 c1 c2 Z) c0 c1 c2 numbers n v19:=dO (B9 k (F7 c0 c1 c2 Z) c0 c1 c2 numbers)
end
theorem aja (ho:ao o):Tl o 83 (WV k:Rw S):=Hc (It k) rfl (C9 o func164 (by kernel_rfl)) ⟨mA k ho,ai_ k ho,trivial⟩ func83 (by kernel_rfl) fun t numbers c0 c1 c2 Z x h=>ak (b:=G7 k (F7 c0 c1 c2 Z) (fun v19=>(It k).lp Z 5 [] k (Tx c0 c1 c2 numbers v19)) t numbers c0 c1 c2) (by kernel_rfl) (ak (by simp only [ae6];rfl) (bp h))
def GB:Rw S:=am nX xn fun t vars dims Z=>ab k (pb k t vars dims) (dQ Z)
def aci:Fx S:=fp 18 [(83,WV k)] [] k f119 0
theorem JR (ho:ao o):Tl o 119 (GB k:Rw S):=ap (aci k) ⟨aja k ho,trivial⟩ func119 fun t vars dims Z x h=>aE h
def s8:Rw S:=am KC dh fun t vars dims c0 Z=>ab k (gU k t vars dims c0) (j5 Z)
def acj:Fx S:=fp 21 [(93,lX k),(94,lY k),(119,GB k)] [] k f56 1
theorem uy (ho:ao o):Tl o 56 (s8 k:Rw S):=ap (acj k) ⟨mB k ho,mC k ho,JR k ho,trivial⟩ func56 fun t vars dims c0 Z x h=>aE h
def Mv:Rw S:=am ir xn fun a_n Z=>ab k (yE k a_n) (F8 Z)
def ack:Fx S:=fx 5 (fun _=>[]) (fun _=>false) [] [] k f95 true [] 0
theorem Qe (ho:ao o):Tl o 95 (Mv k:Rw S):=ap (ack k) trivial func95 fun a_n Z x h=>aE h
def s9:Rw S:=am ak4 dh fun a_e c0 Z=>ab k (mm k a_e c0) (apK Z)
def acl:Fx S:=fp 13 [] [] k f270 1
theorem uz (ho:ao o):Tl o 270 (s9 k:Rw S):=ap (acl k) trivial func270 fun a_e c0 Z x h=>aE h
def GC:Rw S:=am Kz xn fun l Z=>ab k (o8 k l) (F9 Z)
def Iu:Fx S:=fp 22 [(40,lW k),(270,s9 k)] [(3,bG [3,8,9,10] [(7,1)],aG 5 11)] k f207 0
def Tz (l:List Tm) (jI v10:Int):St UU:=⟨[(3,(pt 7)),(8,(sT l)),(9,(iI l.length)),(10,(iI v10))],[(7,bI jI)],[],[]⟩
section
variable (k:Nat) (l:List Tm) (Z:Out UU->Option S)
theorem ae7: ∀n jI v10,(Iu k).lp Z 3 [] n (Tz l jI v10)=uJ k (F9 Z) l n jI v10:=bh (BE k (F9 Z) l)
end
theorem JS (ho:ao o):Tl o 207 (GC k:Rw S):=ap (Iu k) ⟨mA k ho,uz k ho,trivial⟩ func207 fun l Z x h=>ak (b:=Nn k (F9 Z) (fun jI v10=>(Iu k).lp Z 3 [] k (Tz l jI v10)) l) (by kernel_rfl) (ak (by simp only [ae7];rfl) (bp h))
def qv:Rw S:=am Fv dh fun c0 Z=>ab k (eT k c0) (iy c0 Z)
def acm:Fx S:=fp 8 [] [] k f210 1
theorem rC (ho:ao o):Tl o 210 (qv k:Rw S):=ap (acm k) trivial func210 fun c0 Z x h=>aE h
def WW:Rw S:=am ak5 dh fun f c0 Z=>ab k (yn k f c0) (Uq Z)
def acn:Fx S:=fp 23 [(75,sZ k),(210,qv k),(270,s9 k)] [] k f211 1
theorem ajb (ho:ao o):Tl o 211 (WW k:Rw S):=ap (acn k) ⟨ux k ho,rC k ho,uz k ho,trivial⟩ func211 fun f c0 Z x h=>aE h
section
variable (k:Nat) (l:List (List Cl)) (Z:Out UU->Option S)
end
def WX:Rw S:=am mH xn fun f g Z=>ab k (Dz k f g) (a8 Z)
def aco:Fx S:=fp 14 [(146,mX k)] [] k f243 0
theorem ajc (ho:ao o):Tl o 243 (WX k:Rw S):=ap (aco k) ⟨nN k ho,trivial⟩ func243 fun f g Z x h=>aE h
def WY:Rw S:=am KB Ht fun c0 c1 c2 Z=>ab k (DW k c0 c1 c2) (Ur c0 c1 c2 Z)
def acp:Fx S:=fp 10 [(85,AZ (eZ k))] [] k f84 3
theorem ajd (ho:ao o):Tl o 84 (WY k:Rw S):=ap (acp k) ⟨Fp o ho k,trivial⟩ func84 fun c0 c1 c2 Z x h=>aE h
def WZ:Rw S:=am ak7 Ht fun t numbers c0 c1 c2 Z=>ab k (DY k t numbers c0 c1 c2) (ql c0 c1 c2 Z)
def Iv:Fx S:=⟨⟨30,(fun _=>[]),(fun _=>false),aa,fun|6=>true|7=>true|_=>false⟩,[(40,lW k),(84,WY k)],[(5,⟨[(2,aa),(6,aa),(7,aa),(17,aa),(18,aa),(19,aa)],[(1000000,[aa]),(1000001,[aa,aa,aa,aa,aa,aa]),(1000002,[aa]),(5000006,[aa,aa,aa,ar 320200387,ar 320200388,ar 320200389]),(5000007,[aa])]⟩,aG 5 11)],k,f83,false,[],3,some (tK 16 164 f164 k)⟩
def TC (c0:Int) (c1:Tm) (c2:Int) (numbers:List Int) (v19:Int):St UU:=⟨[(2,(.func 84 [] [(pt 1000000),(pt 1000001),(pt 1000002)])),(6,(pt 5000006)),(7,(pt 5000007)),(17,(oN numbers .none)),(18,(iI numbers.length)),(19,(iI v19))],[(1000000,bI c0),(1000001,bT c1),(1000002,bI c2),(5000006,.cells [(iI 0),(iI 0),cx,(.own 320200387 0),(.own 320200388 0),(.own 320200389 0)]),(5000007,bI 0)],[(320200389,b_),(320200388,cu),(320200387,cq)],[(320200389,.wr),(320200388,.wr),(320200387,.wr)]⟩
section
variable (k:Nat) (t:Tm) (numbers:List Int) (c0:Int) (c1:Tm) (c2:Int) (Z:Out UU->Option S)
theorem afa: ∀n v19,(Iv k).lp Z 5 [] n (TC c0 c1 c2 numbers v19)=rQ k (ql c0 c1 c2 Z) c0 c1 c2 numbers n v19:=dO (B7 k (ql c0 c1 c2 Z) c0 c1 c2 numbers)
end
theorem aje (ho:ao o):Tl o 83 (WZ k:Rw S):=Hc (Iv k) rfl (C9 o func164 (by kernel_rfl)) ⟨mA k ho,ajd k ho,trivial⟩ func83 (by kernel_rfl) fun t numbers c0 c1 c2 Z x h=>ak (b:=G5 k (ql c0 c1 c2 Z) (fun v19=>(Iv k).lp Z 5 [] k (TC c0 c1 c2 numbers v19)) t numbers c0 c1 c2) (by kernel_rfl) (ak (by simp only [afa];rfl) (bp h))
def GE:Rw S:=am nX xn fun t a_from a_by Z=>ab k (pc k t a_from a_by) (dQ Z)
def acq:Fx S:=fp 16 [(83,WZ k)] [] k f35 0
theorem JT (ho:ao o):Tl o 35 (GE k:Rw S):=ap (acq k) ⟨aje k ho,trivial⟩ func35 fun t a_from a_by Z x h=>aE h
def A0:Rw S:=am pH xn fun s i Z=>ab k (mn k s i) (dl Z)
def acr:Fx S:=fp 16 [(232,AU k)] [] k f222 0
theorem E1 (ho:ao o):Tl o 222 (A0 k:Rw S):=ap (acr k) ⟨EY k ho,trivial⟩ func222 fun s i Z x h=>aE h
def W4:Rw S:=am zH xn fun a_x Z=>ab k (PD k a_x) (be Z)
def act:Fx S:=fp 21 [] [] k f275 0
theorem ajf (ho:ao o):Tl o 275 (W4 k:Rw S):=ap (act k) trivial func275 fun a_x Z x h=>aE h
def GF:Rw S:=am zH xn fun s Z=>ab k (pd k s) (be Z)
def acu:Fx S:=fp 6 [(275,W4 k)] [] k f221 0
theorem JU (ho:ao o):Tl o 221 (GF k:Rw S):=ap (acu k) ⟨ajf k ho,trivial⟩ func221 fun s Z x h=>aE h
def W5:Rw S:=am ir xn fun i Z=>ab k (Dr k i) (a_ Z)
def acv:Fx S:=fp 7 [(221,GF k),(222,A0 k)] [] k f139 0
theorem ajg (ho:ao o):Tl o 139 (W5 k:Rw S):=ap (acv k) ⟨JU k ho,E1 k ho,trivial⟩ func139 fun i Z x h=>aE h
def W6:Rw S:=am KD xn fun t i a_r Z=>ab k (Dv k t i a_r) (be Z)
def acw:Fx S:=fp 21 [(40,lW k),(139,W5 k),(140,sX k)] [] k f74 0
theorem ajh (ho:ao o):Tl o 74 (W6 k:Rw S):=ap (acw k) ⟨mA k ho,ajg k ho,uu k ho,trivial⟩ func74 fun t i a_r Z x h=>aE h
def W7:Rw S:=am Rq Bw fun c0 c1 Z=>ab k (Ja k c0 c1) (apL c0 c1 Z)
def acx:Fx S:=fp 6 [] [] k f147 2
theorem aji (ho:ao o):Tl o 147 (W7 k:Rw S):=ap (acx k) trivial func147 fun c0 c1 Z x h=>aE h
def W8:Rw S:=am ak8 Bw fun c0 c1 Z=>ab k (Jb k c0 c1) (apM c0 c1 Z)
def acy:Fx S:=fp 6 [] [] k f147 2
theorem ajj (ho:ao o):Tl o 147 (W8 k:Rw S):=ap (acy k) trivial func147 fun c0 c1 Z x h=>aE h
def W9:Rw S:=am ak9 xn fun i a_r Z=>ab k (I_ k i a_r) (apN Z)
def acz:Fx S:=fp 12 [(147,oC (rF Rq Bw) (W7 k) (W8 k))] [] k f76 0
theorem ajk (ho:ao o):Tl o 76 (W9 k:Rw S):=ap (acz k) ⟨sQ (aji k ho) (ajj k ho),trivial⟩ func76 fun i a_r Z x h=>aE h
def A1:Rw S:=am pH xn fun s i Z=>ab k (lq k s i) (a_ Z)
def acA:Fx S:=fp 15 [(232,AU k)] [] k f149 0
theorem E2 (ho:ao o):Tl o 149 (A1 k:Rw S):=ap (acA k) ⟨EY k ho,trivial⟩ func149 fun s i Z x h=>aE h
def Mx:Rw S:=am gJ xn fun f Z=>ab k (yq k f) (jt Z)
def acB:Fx S:=fp 5 [] [] k f151 0
theorem Qg (ho:ao o):Tl o 151 (Mx k:Rw S):=ap (acB k) trivial func151 fun f Z x h=>aE h
def W_:Rw S:=am ir xn fun i Z=>ab k (Dy k i) (a_ Z)
def acC:Fx S:=fp 7 [(221,GF k),(222,A0 k)] [] k f239 0
theorem ajl (ho:ao o):Tl o 239 (W_ k:Rw S):=ap (acC k) ⟨JU k ho,E1 k ho,trivial⟩ func239 fun i Z x h=>aE h
def My:Rw S:=am rM xn fun c Z=>ab k (yx k c) (apO Z)
def acE:Fx S:=fp 8 [(269,Mk k)] [] k f284 0
theorem Qh (ho:ao o):Tl o 284 (My k:Rw S):=ap (acE k) ⟨P7 k ho,trivial⟩ func284 fun c Z x h=>aE h
def Xb:Rw S:=am ak_ xn fun l Z=>ab k (DB k l) (jt Z)
def Iw:Fx S:=fp 29 [(284,My k)] [(3,⟨[(1,aa),(5,ar 100005),(10,aa),(11,aa),(12,aa)],[]⟩,aG 5 11)] k f272 0
def TE (l:List Cl) (v12:Int) (out5:List Cl):St UU:=⟨[(1,(.func 284 [] [])),(5,(.own 100005 0)),(10,(sC l)),(11,(iI l.length)),(12,(iI v12))],[],[(100005,⟨0,ET.C,out5⟩)],[(100005,.wr)]⟩
section
variable (k:Nat) (l:List Cl) (Z:Out UU->Option S)
theorem afe: ∀n v12 out5,(Iw k).lp Z 3 [] n (TE l v12 out5)=uO k (jt Z) l n v12 out5:=bh (BQ k (jt Z) l)
end
theorem ajn (ho:ao o):Tl o 272 (Xb k:Rw S):=ap (Iw k) ⟨Qh k ho,trivial⟩ func272 fun l Z x h=>ak (b:=Nz k (jt Z) (fun v12 out5=>(Iw k).lp Z 3 [] k (TE l v12 out5)) l) (by kernel_rfl) (ak (by simp only [afe];rfl) (bp h))
def Mz:Rw S:=am gJ xn fun f Z=>ab k (yw k f) (a8 Z)
def acF:Fx S:=fp 12 [(140,sX k),(146,mX k),(272,Xb k)] [] k f240 0
theorem Qi (ho:ao o):Tl o 240 (Mz k:Rw S):=ap (acF k) ⟨uu k ho,nN k ho,ajn k ho,trivial⟩ func240 fun f Z x h=>aE h
def Xc:Rw S:=am Kx Bv fun b c0 Z=>ab k (DC k b c0) (apP c0 Z)
def acG:Fx S:=fp 11 [(278,Gp k),(284,My k)] [] k f285 1
theorem ajo (ho:ao o):Tl o 285 (Xc k:Rw S):=ap (acG k) ⟨JI k ho,Qh k ho,trivial⟩ func285 fun b c0 Z x h=>aE h
def Xd:Rw S:=am ala Bv fun l c0 Z=>ab k (DA k l c0) (F_ c0 Z)
def Ix:Fx S:=fp 29 [(285,Xc k)] [(3,⟨[(1,aa),(5,ar 100005),(10,aa),(11,aa),(12,aa)],[(1000000,[aa,aa])]⟩,aG 5 11)] k f272 1
def TF (c0:Cl) (l:List Cl) (v12:Int) (out5:List Cl):St UU:=⟨[(1,(.func 285 [] [(pt 1000000)])),(5,(.own 100005 0)),(10,(sC l)),(11,(iI l.length)),(12,(iI v12))],[(1000000,bC c0)],[(100005,⟨0,ET.C,out5⟩)],[(100005,.wr)]⟩
section
variable (k:Nat) (l:List Cl) (c0:Cl) (Z:Out UU->Option S)
theorem aff: ∀n v12 out5,(Ix k).lp Z 3 [] n (TF c0 l v12 out5)=uN k (F_ c0 Z) c0 l n v12 out5:=bh (BP k (F_ c0 Z) c0 l)
end
theorem ajp (ho:ao o):Tl o 272 (Xd k:Rw S):=ap (Ix k) ⟨ajo k ho,trivial⟩ func272 fun l c0 Z x h=>ak (b:=Ny k (F_ c0 Z) (fun v12 out5=>(Ix k).lp Z 3 [] k (TF c0 l v12 out5)) l c0) (by kernel_rfl) (ak (by simp only [aff];rfl) (bp h))
def Xe:Rw S:=am mH xn fun f g Z=>ab k (tR k f g) (a8 Z)
def Iy:Fx S:=fp 25 [(146,mX k),(272,Xd k)] [(3,⟨[(1,aa),(6,ar 100006),(9,aa),(10,aa),(11,aa)],[]⟩,aG 5 11)] k f241 0
def TG (g f:List Cl) (v11:Int) (out6:List Cl):St UU:=⟨[(1,(sC g)),(6,(.own 100006 0)),(9,(sC f)),(10,(iI f.length)),(11,(iI v11))],[],[(100006,⟨0,ET.C,out6⟩)],[(100006,.wr)]⟩
section
variable (k:Nat) (f g:List Cl) (Z:Out UU->Option S)
theorem afg: ∀n v11 out6,(Iy k).lp Z 3 [] n (TG g f v11 out6)=uP k (a8 Z) g f n v11 out6:=bh (BR k (a8 Z) g f)
end
theorem ajq (ho:ao o):Tl o 241 (Xe k:Rw S):=ap (Iy k) ⟨nN k ho,ajp k ho,trivial⟩ func241 fun f g Z x h=>ak (b:=NA k (a8 Z) (fun v11 out6=>(Iy k).lp Z 3 [] k (TG g f v11 out6)) f g) (by kernel_rfl) (ak (by simp only [afg];rfl) (bp h))
def GG:Rw S:=am cn xn fun Z=>ab k (ri k) (jt Z)
def acH:Fx S:=fp 3 [] [] k f29 0
theorem JV (ho:ao o):Tl o 29 (GG k:Rw S):=ap (acH k) trivial func29 fun Z x h=>aE h
def Xf:Rw S:=am rM xn fun c Z=>ab k (DJ k c) (a8 Z)
def wZ:Fx S:=fp 43 [(146,mX k),(222,A0 k),(314,MJ)] [(3,⟨[(1,aa),(4,ar 100004),(11,aa),(12,aa),(13,aa)],[(1,[aa,aa])]⟩,aG 5 11),(8,⟨[(4,ar 100004),(26,aa),(27,aa),(28,aa)],[]⟩,aG 6 23)] k f283 0
def Ln (c:Cl) (r1:List Int) (v13:Int) (out4:List Cl):St UU:=⟨[(1,(pt 1)),(4,(.own 100004 0)),(11,(oN r1 .none)),(12,(iI r1.length)),(13,(iI v13))],[(1,bC c)],[(100004,⟨0,ET.C,out4⟩)],[(100004,.wr)]⟩
def TH (r5:List Int) (v28:Int) (out4':List Cl):St UU:=⟨[(4,(.own 100004 0)),(26,(oN r5 .none)),(27,(iI r5.length)),(28,(iI v28))],[],[(100004,⟨0,ET.C,out4'⟩)],[(100004,.wr)]⟩
section
variable (k:Nat) (c:Cl) (Z:Out UU->Option S)
theorem afi (r5): ∀n v28 out4',(wZ k).lp Z 8 [] n (TH r5 v28 out4')=rP k (a8 Z) r5 n v28 out4':=bh (BX k (a8 Z) r5)
theorem afh (r1): ∀n v13 out4,(wZ k).lp Z 3 [] n (Ln c r1 v13 out4)=uU k (a8 Z) c r1 n v13 out4:=bh (fun own=>xg k (a8 Z) c r1 (fun r5 v28 out4'=>rP k (a8 Z) r5 k v28 out4') own) rfl (fun _=>rfl) fun r v13 out4=>ak (b:=xg k (a8 Z) c r1 (fun r5 v28 out4'=>(wZ k).lp Z 8 [] k (TH r5 v28 out4')) (fun v13 out4=>r (Ln c r1 v13 out4)) v13 out4) (by kernel_rfl) (by simp only [afi])
end
theorem ajr (ho:ao o):Tl o 283 (Xf k:Rw S):=ap (wZ k) ⟨nN k ho,E1 k ho,as7 o ho,trivial⟩ func283 fun c Z x h=>ak (b:=NH k (a8 Z) (fun r1 v13 out4=>(wZ k).lp Z 3 [] k (Ln c r1 v13 out4)) c) (by kernel_rfl) (ak (by simp only [afh];rfl) (bp h))
def MA:Rw S:=am mH xn fun f g Z=>ab k (nA k f g) (a8 Z)
def w5:Fx S:=fp 35 [(146,mX k),(278,Gp k)] [(3,⟨[(1,aa),(6,ar 100006),(11,aa),(12,aa),(13,aa)],[]⟩,aG 5 11),(6,⟨[(1,aa),(6,ar 100006),(8,aa),(11,aa),(12,aa),(13,aa),(17,aa),(18,aa),(19,aa)],[(8,[aa,aa])]⟩,aG 13 3275)] k f236 0
def Ao (g f:List Cl) (v13:Int) (out6:List Cl):St UU:=⟨[(1,(sC g)),(6,(.own 100006 0)),(11,(sC f)),(12,(iI f.length)),(13,(iI v13))],[],[(100006,⟨0,ET.C,out6⟩)],[(100006,.wr)]⟩
def TI (x1:Cl) (g f:List Cl) (v13:Int) (v19:Int) (out6':List Cl):St UU:=⟨[(1,(sC g)),(6,(.own 100006 0)),(8,(pt 8)),(11,(sC f)),(12,(iI f.length)),(13,(iI v13)),(17,(sC g)),(18,(iI g.length)),(19,(iI v19))],[(8,bC x1)],[(100006,⟨0,ET.C,out6'⟩)],[(100006,.wr)]⟩
section
variable (k:Nat) (f g:List Cl) (Z:Out UU->Option S)
theorem afk (x1 v13 Z0): ∀n v19 out6',(w5 k).lp Z 6 [Z0] n (TI x1 g f v13 v19 out6')=rO k (a8 Z) (fun v13 out6=>Z0 (Ao g f v13 out6)) x1 g f v13 n v19 out6':=bh (BW k (a8 Z) x1 g f v13 (fun v13 out6=>Z0 (Ao g f v13 out6)))
theorem afj: ∀n v13 out6,(w5 k).lp Z 3 [] n (Ao g f v13 out6)=pO k (a8 Z) g f n v13 out6:=bh (fun own=>xe k (a8 Z) g f (fun x1 v13 v19 out6'=>rO k (a8 Z) own x1 g f v13 k v19 out6') own) rfl (fun _=>rfl) fun r v13 out6=>ak (b:=xe k (a8 Z) g f (fun x1 v13 v19 out6'=>(w5 k).lp Z 6 [r] k (TI x1 g f v13 v19 out6')) (fun v13 out6=>r (Ao g f v13 out6)) v13 out6) (by kernel_rfl) (by simp only [afk])
end
theorem Qj (ho:ao o):Tl o 236 (MA k:Rw S):=ap (w5 k) ⟨nN k ho,JI k ho,trivial⟩ func236 fun f g Z x h=>ak (b:=NG k (a8 Z) (fun v13 out6=>(w5 k).lp Z 3 [] k (Ao g f v13 out6)) f g) (by kernel_rfl) (ak (by simp only [afj];rfl) (bp h))
def Xg:Rw S:=am Rr xn fun a_have c Z=>ab k (DI k a_have c) (a8 Z)
def acI:Fx S:=fp 21 [(236,MA k),(283,Xf k)] [] k f282 0
theorem ajs (ho:ao o):Tl o 282 (Xg k:Rw S):=ap (acI k) ⟨Qj k ho,ajr k ho,trivial⟩ func282 fun a_have c Z x h=>aE h
def Xi:Rw S:=am alc xn fun l a_from Z=>ab k (Ji k l a_from) (a8 Z)
def Iz:Fx S:=fp 33 [(282,Xg k)] [(2,bG [1,2,13,14,15] [],aG 4 5)] k f142 0
def TJ (l:List Cl) (v1:List Cl) (v15:Int):St UU:=⟨[(1,(sC v1)),(2,(.func 282 [] [])),(13,(sC l)),(14,(iI l.length)),(15,(iI v15))],[],[],[]⟩
section
variable (k:Nat) (l a_from:List Cl) (Z:Out UU->Option S)
theorem afl: ∀n v1 v15,(Iz k).lp Z 2 [] n (TJ l v1 v15)=uS k (a8 Z) l n v1 v15:=bh (BU k (a8 Z) l)
end
theorem aju (ho:ao o):Tl o 142 (Xi k:Rw S):=ap (Iz k) ⟨ajs k ho,trivial⟩ func142 fun l a_from Z x h=>ak (b:=NE k (a8 Z) (fun v1 v15=>(Iz k).lp Z 2 [] k (TJ l v1 v15)) l a_from) (by kernel_rfl) (ak (by simp only [afl];rfl) (bp h))
def MB:Rw S:=am gJ xn fun f Z=>ab k (tU k f) (a8 Z)
def acK:Fx S:=fp 9 [(29,GG k),(142,Xi k)] [] k f237 0
theorem Qk (ho:ao o):Tl o 237 (MB k:Rw S):=ap (acK k) ⟨JV k ho,aju k ho,trivial⟩ func237 fun f Z x h=>aE h
def Xj:Rw S:=am gJ xn fun f Z=>ab k (DE k f) (a8 Z)
def acL:Fx S:=fp 15 [(141,GA k),(237,MB k)] [] k f286 0
theorem ajv (ho:ao o):Tl o 286 (Xj k:Rw S):=ap (acL k) ⟨JQ k ho,Qk k ho,trivial⟩ func286 fun f Z x h=>aE h
def Xk:Rw S:=am gJ xn fun f Z=>ab k (Dw k f) (a8 Z)
def acM:Fx S:=fp 18 [(240,Mz k),(286,Xj k)] [] k f242 0
theorem ajw (ho:ao o):Tl o 242 (Xk k:Rw S):=ap (acM k) ⟨Qi k ho,ajv k ho,trivial⟩ func242 fun f Z x h=>aE h
def Xl:Rw S:=am Fw xn fun f i a_r Z=>ab k (Dx k f i a_r) (a8 Z)
def w6:Fx S:=fp 92 [(140,sX k),(149,A1 k),(205,Mr k),(233,Gv k),(239,W_ k),(240,Mz k),(241,Xe k),(242,Xk k),(243,WX k)] [(5,bG [1,2,8,27,28,29] [],aG 6 23),(1000018,bG [1,2,8,11,13,27,28,29] [],aG 16 63895)] k f153 0
def Ap (i:Int) (a_r f:List Cl) (v29:Int) (v8:List Cl):St UU:=⟨[(1,(iI i)),(2,(sC a_r)),(8,(sC v8)),(27,(sC f)),(28,(iI f.length)),(29,(iI v29))],[],[],[]⟩
def TK (i:Int) (a_r f:List Cl) (v29:Int) (v8:List Cl) (g11:List Cl) (v13:Int):St UU:=⟨[(1,(iI i)),(2,(sC a_r)),(8,(sC v8)),(11,(sC g11)),(13,(iI v13)),(27,(sC f)),(28,(iI f.length)),(29,(iI v29))],[],[],[]⟩
section
variable (k:Nat) (f:List Cl) (i:Int) (a_r:List Cl) (Z:Out UU->Option S)
theorem afn (v29 v8 Z0): ∀n g11 v13,(w6 k).jn Z 1000018 [Z0] n (TK i a_r f v29 v8 g11 v13)=uM k (a8 Z) (fun v29 v8=>Z0 (Ap i a_r f v29 v8)) i a_r f v29 v8 n g11 v13:=Q7 (BO k (a8 Z) i a_r f v29 v8 (fun v29 v8=>Z0 (Ap i a_r f v29 v8)))
theorem afm: ∀n v29 v8,(w6 k).lp Z 5 [] n (Ap i a_r f v29 v8)=pN k (a8 Z) i a_r f n v29 v8:=bh (fun own=>xd k (a8 Z) i a_r f (fun v29 v8 g11 v13=>uM k (a8 Z) own i a_r f v29 v8 k g11 v13) own) rfl (fun _=>rfl) fun r v29 v8=>ak (b:=xd k (a8 Z) i a_r f (fun v29 v8 g11 v13=>(w6 k).jn Z 1000018 [r] k (TK i a_r f v29 v8 g11 v13)) (fun v29 v8=>r (Ap i a_r f v29 v8)) v29 v8) (by kernel_rfl) (by simp only [afn])
end
theorem ajx (ho:ao o):Tl o 153 (Xl k:Rw S):=ap (w6 k) ⟨uu k ho,E2 k ho,Qa k ho,JM k ho,ajl k ho,Qi k ho,ajq k ho,ajw k ho,ajc k ho,trivial⟩ func153 fun f i a_r Z x h=>ak (b:=Nx k (a8 Z) (fun v29 v8=>(w6 k).lp Z 5 [] k (Ap i a_r f v29 v8)) f i a_r) (by kernel_rfl) (ak (by simp only [afm];rfl) (bp h))
def MC:Rw S:=am KE atQ fun f depth c0 c1 Z=>ab k (yr k f depth c0 c1) (apQ c0 c1 Z)
def acN:Fx S:=fp 38 [(75,sZ k),(149,A1 k),(150,Gw k),(151,Mx k),(153,Xl k)] [] k f148 3
theorem Ql (ho:ao o):Tl o 148 (MC k:Rw S):=ap (acN k) ⟨ux k ho,E2 k ho,JN k ho,Qg k ho,ajx k ho,trivial⟩ func148 fun f depth c0 c1 Z x h=>aE h
def Xm:Rw S:=am ir xn fun i Z=>ab k (DD k i) (a8 Z)
def acO:Fx S:=fp 12 [(221,GF k),(222,A0 k)] [] k f234 0
theorem ajy (ho:ao o):Tl o 234 (Xm k:Rw S):=ap (acO k) ⟨JU k ho,E1 k ho,trivial⟩ func234 fun i Z x h=>aE h
def Xn:Rw S:=am mH xn fun f g Z=>ab k (rj k f g) (a8 Z)
def acP:Fx S:=fp 14 [(146,mX k)] [] k f238 0
theorem ajz (ho:ao o):Tl o 238 (Xn k:Rw S):=ap (acP k) ⟨nN k ho,trivial⟩ func238 fun f g Z x h=>aE h
def Xo:Rw S:=am ald Bw fun a_have c c0 c1 Z=>ab k (DG k a_have c c0 c1) (AH c0 c1 Z)
def acQ:Fx S:=fp 63 [(149,A1 k),(233,Gv k),(236,MA k),(237,MB k),(238,Xn k)] [] k f235 2
theorem ajA (ho:ao o):Tl o 235 (Xo k:Rw S):=ap (acQ k) ⟨E2 k ho,JM k ho,Qj k ho,Qk k ho,ajz k ho,trivial⟩ func235 fun a_have c c0 c1 Z x h=>aE h
def Xp:Rw S:=am ale Bw fun l a_from c0 c1 Z=>ab k (Jh k l a_from c0 c1) (AH c0 c1 Z)
def IA:Fx S:=fp 33 [(235,Xo k)] [(2,bG [1,2,13,14,15] [(1000000,1),(1000001,1)],aG 4 5)] k f142 2
def TL (c0:Int) (c1 l:List Cl) (v1:List Cl) (v15:Int):St UU:=⟨[(1,(sC v1)),(2,(.func 235 [] [(pt 1000000),(pt 1000001)])),(13,(sC l)),(14,(iI l.length)),(15,(iI v15))],[(1000000,bI c0),(1000001,.cells [(sC c1)])],[],[]⟩
section
variable (k:Nat) (l a_from:List Cl) (c0:Int) (c1:List Cl) (Z:Out UU->Option S)
theorem afo: ∀n v1 v15,(IA k).lp Z 2 [] n (TL c0 c1 l v1 v15)=uR k (AH c0 c1 Z) c0 c1 l n v1 v15:=bh (BT k (AH c0 c1 Z) c0 c1 l)
end
theorem ajB (ho:ao o):Tl o 142 (Xp k:Rw S):=ap (IA k) ⟨ajA k ho,trivial⟩ func142 fun l a_from c0 c1 Z x h=>ak (b:=ND k (AH c0 c1 Z) (fun v1 v15=>(IA k).lp Z 2 [] k (TL c0 c1 l v1 v15)) l a_from c0 c1) (by kernel_rfl) (ak (by simp only [afo];rfl) (bp h))
def UA:Rw S:=am Fw xn fun f i a_r Z=>ab k (DF k f i a_r) (a8 Z)
def ZO:Fx S:=fp 32 [(141,GA k),(142,Xp k),(143,Mt k),(234,Xm k)] [] k f152 0
theorem agR (ho:ao o):Tl o 152 (UA k:Rw S):=ap (ZO k) ⟨JQ k ho,ajB k ho,Qc k ho,ajy k ho,trivial⟩ func152 fun f i a_r Z x h=>aE h
def UB:Rw S:=am KE ZI fun f depth c0 c1 Z=>ab k (Ds k f depth c0 c1) (apR c0 c1 Z)
def ZP:Fx S:=fp 38 [(75,sZ k),(149,A1 k),(150,Gw k),(151,Mx k),(152,UA k)] [] k f148 3
theorem agS (ho:ao o):Tl o 148 (UB k:Rw S):=ap (ZP k) ⟨ux k ho,E2 k ho,JN k ho,Qg k ho,agR k ho,trivial⟩ func148 fun f depth c0 c1 Z x h=>aE h
def UC:Rw S:=am KF O6 fun t depth c0 c1 Z=>ab k (Dt k t depth c0 c1) (apS c0 c1 Z)
def ZQ:Fx S:=fp 27 [(148,oC (rF KE ZI) (UB k) (MC k))] [] k f154 4
theorem agT (ho:ao o):Tl o 154 (UC k:Rw S):=ap (ZQ k) ⟨sQ (agS k ho) (Ql k ho),trivial⟩ func154 fun t depth c0 c1 Z x h=>aE h
def LU:Rw S:=am KG atR fun i c0 Z=>ab k (yu k i c0) (apT c0 Z)
def ZR:Fx S:=fp 14 [(49,mV k)] [] k f156 1
theorem PL (ho:ao o):Tl o 156 (LU k:Rw S):=ap (ZR k) ⟨nL k ho,trivial⟩ func156 fun i c0 Z x h=>aE h
def LV:Rw S:=am KG dh fun p c0 Z=>ab k (yv k p c0) (apU c0 Z)
def ZS:Fx S:=fp 5 [] [] k f157 1
theorem PM (ho:ao o):Tl o 157 (LV k:Rw S):=ap (ZS k) trivial func157 fun p c0 Z x h=>aE h
def we (hd:eJ S):Rw S:=am KF O6 fun t depth c0 c1 Z=>hd t depth c0 c1 (Ga c0 c1 Z)
def UD (hd:eJ S) (k:Nat):Rw S:=am Rs ZK fun l depth c0 c1 c4 Z=>ab k (Je hd k l depth c0 c1 c4) (Gb c0 c1 c4 Z)
def Hy (hd:eJ S) (k:Nat):Fx S:=fp 42 [(77,we hd),(157,LV k)] [(3,⟨[(2,aa),(3,aa),(4,aa),(10,ar 100010),(15,aa),(16,aa),(17,aa)],[(4,[aa,aa]),(1000000,[aa]),(1000001,[aa]),(1000002,[aa]),(1000003,[aa]),(1000004,[aa])]⟩,aG 5 11)] k f155 5
def RZ (c0:Int) (c1:List Cl) (c4:Int) (l:List Tm) (depth:Int) (out10:List Tm) (v17:Int):St UU:=⟨[(2,(iI depth)),(3,(.func 157 [] [(pt 1000004)])),(4,(pt 4)),(10,(.own 100010 0)),(15,(sT l)),(16,(iI l.length)),(17,(iI v17))],[(4,.cells [(.func 148 [] [(pt 1000000),(pt 1000001),(pt 1000002)]),(.func 148 [] [(pt 1000000),(pt 1000001),(pt 1000003)])]),(1000000,bI c0),(1000001,.cells [(sC c1)]),(1000002,.cells [(.func 152 [] [])]),(1000003,.cells [(.func 153 [] [])]),(1000004,bI c4)],[(100010,⟨0,ET.T,out10⟩)],[(100010,.wr)]⟩
section
variable (hd:eJ S) (k:Nat) (l:List Tm) (depth c0:Int) (c1:List Cl) (c4:Int) (Z:Out UU->Option S)
theorem acY: ∀n out10 v17,(Hy hd k).lp Z 3 [] n (RZ c0 c1 c4 l depth out10 v17)=pL hd k (Gb c0 c1 c4 Z) c0 c1 c4 l depth n out10 v17:=bh (BJ hd k (Gb c0 c1 c4 Z) c0 c1 c4 l depth)
end
theorem agU (o:Obj) (ho:ao o) (hd:eJ S) (Hd:Tl o 77 (we hd)) (k:Nat):Tl o 155 (UD hd k:Rw S):=ap (Hy hd k) ⟨Hd,PM k ho,trivial⟩ func155 fun l depth c0 c1 c4 Z x h=>ak (b:=Nt hd k (Gb c0 c1 c4 Z) (fun out10 v17=>(Hy hd k).lp Z 3 [] k (RZ c0 c1 c4 l depth out10 v17)) l depth c0 c1 c4) (by kernel_rfl) (ak (by simp only [acY];rfl) (bp h))
def UE (hd:eJ S) (k:Nat):Rw S:=am alf atS fun l depth c0 c1 c4 Z=>ab k (Jf hd k l depth c0 c1 c4) (Gc c0 c1 c4 Z)
def Hz (hd:eJ S) (k:Nat):Fx S:=fp 42 [(77,we hd),(156,LU k)] [(3,⟨[(2,aa),(3,aa),(4,aa),(10,ar 100010),(15,aa),(16,aa),(17,aa)],[(4,[aa,aa]),(1000000,[aa]),(1000001,[aa]),(1000002,[aa]),(1000003,[aa]),(1000004,[aa,aa,aa,aa,aa,aa])]⟩,aG 5 11)] k f155 5
def R0 (c0:Int) (c1:List Cl) (c4:Tm) (l:List Tm) (depth:Int) (out10:List Tm) (v17:Int):St UU:=⟨[(2,(iI depth)),(3,(.func 156 [] [(pt 1000004)])),(4,(pt 4)),(10,(.own 100010 0)),(15,(sT l)),(16,(iI l.length)),(17,(iI v17))],[(4,.cells [(.func 148 [] [(pt 1000000),(pt 1000001),(pt 1000002)]),(.func 148 [] [(pt 1000000),(pt 1000001),(pt 1000003)])]),(1000000,bI c0),(1000001,.cells [(sC c1)]),(1000002,.cells [(.func 152 [] [])]),(1000003,.cells [(.func 153 [] [])]),(1000004,bT c4)],[(100010,⟨0,ET.T,out10⟩)],[(100010,.wr)]⟩
section
variable (hd:eJ S) (k:Nat) (l:List Tm) (depth c0:Int) (c1:List Cl) (c4:Tm) (Z:Out UU->Option S)
theorem acZ: ∀n out10 v17,(Hz hd k).lp Z 3 [] n (R0 c0 c1 c4 l depth out10 v17)=pM hd k (Gc c0 c1 c4 Z) c0 c1 c4 l depth n out10 v17:=bh (BL hd k (Gc c0 c1 c4 Z) c0 c1 c4 l depth)
end
theorem agV (o:Obj) (ho:ao o) (hd:eJ S) (Hd:Tl o 77 (we hd)) (k:Nat):Tl o 155 (UE hd k:Rw S):=ap (Hz hd k) ⟨Hd,PL k ho,trivial⟩ func155 fun l depth c0 c1 c4 Z x h=>ak (b:=Nu hd k (Gc c0 c1 c4 Z) (fun out10 v17=>(Hz hd k).lp Z 3 [] k (R0 c0 c1 c4 l depth out10 v17)) l depth c0 c1 c4) (by kernel_rfl) (ak (by simp only [acZ];rfl) (bp h))
def Hx (hd:eJ S) (k:Nat):Fx S:=fp 98 [(148,MC k),(154,UC k),(155,oC (rF Rs ZK) (UD hd k) (UE hd k))] [(13,⟨[(2,aa),(3,aa),(6,aa),(8,aa),(10,aa),(53,aa),(54,aa),(55,aa)],[(3,[aa,aa]),(6,[aa,aa,aa,ar 200387,ar 200388,ar 200389]),(8,[aa,aa,aa,aa,aa,ar 200517]),(10,[aa]),(1000000,[aa]),(1000001,[aa]),(1000002,[aa]),(1000003,[aa])]⟩,aG 11 767)] k f77 4
def RY (c0:Int) (c1:List Cl) (t:Tm) (r1:List Cl×Int) (r2:List Tm×Int) (depth:Int) (dH:Int) (b8_5:List (Br Tm)) (v55:Int):St UU:=⟨[(2,(iI depth)),(3,(pt 3)),(6,(pt 6)),(8,(pt 8)),(10,(pt 10)),(53,(sB t.sys)),(54,(iI t.sys.length)),(55,(iI v55))],[(3,.cells [(.func 148 [] [(pt 1000000),(pt 1000001),(pt 1000002)]),(.func 148 [] [(pt 1000000),(pt 1000001),(pt 1000003)])]),(6,.cells [(iI 0),(iI 0),cx,(.own 200387 0),(.own 200388 0),(.own 200389 0)]),(8,.cells [(iI t.kind),(iI t.n),(.str t.name),(sC r1.1),(sT r2.1),(.own 200517 0)]),(10,bI dH),(1000000,bI c0),(1000001,.cells [(sC c1)]),(1000002,.cells [(.func 152 [] [])]),(1000003,.cells [(.func 153 [] [])])],[(200517,⟨0,ET.B,b8_5⟩),(200389,b_),(200388,cu),(200387,cq)],[(200517,.wr),(200389,.wr),(200388,.wr),(200387,.wr)]⟩
section
variable (hd:eJ S) (k:Nat) (t:Tm) (depth c0:Int) (c1:List Cl) (Z:Out UU->Option S)
theorem acX (r1 r2): ∀n dH b8_5 v55,(Hx hd k).lp Z 13 [] n (RY c0 c1 t r1 r2 depth dH b8_5 v55)=jS hd k (Ga c0 c1 Z) c0 c1 t r1 r2 depth n dH b8_5 v55:=h_ (BM hd k (Ga c0 c1 Z) c0 c1 t r1 r2 depth)
end
theorem Ki (o:Obj) (ho:ao o): ∀k:Nat,Tl o 77 (we (gT k:eJ S))
 |0=>fT fun t depth c0 c1 Z x h=>by cases h
 |k+1=>ap (Hx (gT k) k) ⟨Ql k ho,agT k ho,sQ (agU o ho (gT k) (Ki o ho k) k) (agV o ho (gT k) (Ki o ho k) k),trivial⟩ func77 fun t depth c0 c1 Z x h=>ak (b:=Nv (gT k) k (Ga c0 c1 Z) (fun r1 r2 dH b8_5 v55=>(Hx (gT k) k).lp Z 13 [] k (RY c0 c1 t r1 r2 depth dH b8_5 v55)) t depth c0 c1) (by kernel_rfl) (ak (by simp only [acX];rfl) h)
def UF:Rw S:=am ir xn fun i Z=>ab k (I9 k i) (apV Z)
def ZT:Fx S:=fp 8 [] [] k f78 0
theorem agW (ho:ao o):Tl o 78 (UF k:Rw S):=ap (ZT k) trivial func78 fun i Z x h=>aE h
def UG:Rw S:=am pH xn fun s i Z=>ab k (t6 k s i) (dl Z)
def ZU:Fx S:=fp 24 [(232,AU k),(244,Mu k)] [] k f159 0
theorem agX (ho:ao o):Tl o 159 (UG k:Rw S):=ap (ZU k) ⟨EY k ho,Qd k ho,trivial⟩ func159 fun s i Z x h=>aE h
def LW:Rw S:=am alg dh fun f depth c0 Z=>ab k (tP k f depth c0) (AI c0 Z)
def HA:Fx S:=fp 37 [(146,mX k),(159,UG k)] [(3,⟨[(1,aa),(2,aa),(7,ar 100007),(10,aa),(11,aa),(12,aa)],[(1000000,[aa])]⟩,aG 5 11)] k f158 1
def R1 (c0 depth:Int) (f:List Cl) (v12:Int) (out7:List Cl):St UU:=⟨[(1,(iI depth)),(2,(pt 1000000)),(7,(.own 100007 0)),(10,(sC f)),(11,(iI f.length)),(12,(iI v12))],[(1000000,bI c0)],[(100007,⟨0,ET.C,out7⟩)],[(100007,.wr)]⟩
section
variable (k:Nat) (f:List Cl) (depth c0:Int) (Z:Out UU->Option S)
theorem ac0: ∀n v12 out7,(HA k).lp Z 3 [] n (R1 c0 depth f v12 out7)=uL k (AI c0 Z) c0 depth f n v12 out7:=bh (BG k (AI c0 Z) c0 depth f)
end
theorem PN (ho:ao o):Tl o 158 (LW k:Rw S):=ap (HA k) ⟨nN k ho,agX k ho,trivial⟩ func158 fun f depth c0 Z x h=>ak (b:=Nq k (AI c0 Z) (fun v12 out7=>(HA k).lp Z 3 [] k (R1 c0 depth f v12 out7)) f depth c0) (by kernel_rfl) (ak (by simp only [ac0];rfl) (bp h))
def UI:Rw S:=am Rt dh fun t depth c0 Z=>ab k (Du k t depth c0) (AI c0 Z)
def ZW:Fx S:=fp 27 [(158,LW k)] [] k f154 1
theorem agZ (ho:ao o):Tl o 154 (UI k:Rw S):=ap (ZW k) ⟨PN k ho,trivial⟩ func154 fun t depth c0 Z x h=>aE h
def wg (hd:eK S):Rw S:=am Rt dh fun t depth c0 Z=>hd t depth c0 (Ge c0 Z)
def UJ (hd:eK S) (k:Nat):Rw S:=am Ru Hs fun l depth c0 c1 Z=>ab k (Jc hd k l depth c0 c1) (Gf c0 c1 Z)
def HC (hd:eK S) (k:Nat):Fx S:=fp 42 [(77,wg hd),(157,LV k)] [(3,⟨[(2,aa),(3,aa),(4,aa),(10,ar 100010),(15,aa),(16,aa),(17,aa)],[(4,[aa,aa]),(1000000,[aa]),(1000001,[aa])]⟩,aG 5 11)] k f155 2
def R3 (c0 c1:Int) (l:List Tm) (depth:Int) (out10:List Tm) (v17:Int):St UU:=⟨[(2,(iI depth)),(3,(.func 157 [] [(pt 1000001)])),(4,(pt 4)),(10,(.own 100010 0)),(15,(sT l)),(16,(iI l.length)),(17,(iI v17))],[(4,.cells [(.func 158 [] [(pt 1000000)]),(.func 158 [] [(pt 1000000)])]),(1000000,bI c0),(1000001,bI c1)],[(100010,⟨0,ET.T,out10⟩)],[(100010,.wr)]⟩
section
variable (hd:eK S) (k:Nat) (l:List Tm) (depth c0 c1:Int) (Z:Out UU->Option S)
theorem ac2: ∀n out10 v17,(HC hd k).lp Z 3 [] n (R3 c0 c1 l depth out10 v17)=pJ hd k (Gf c0 c1 Z) c0 c1 l depth n out10 v17:=bh (BH hd k (Gf c0 c1 Z) c0 c1 l depth)
end
theorem ag0 (o:Obj) (ho:ao o) (hd:eK S) (Hd:Tl o 77 (wg hd)) (k:Nat):Tl o 155 (UJ hd k:Rw S):=ap (HC hd k) ⟨Hd,PM k ho,trivial⟩ func155 fun l depth c0 c1 Z x h=>ak (b:=Nr hd k (Gf c0 c1 Z) (fun out10 v17=>(HC hd k).lp Z 3 [] k (R3 c0 c1 l depth out10 v17)) l depth c0 c1) (by kernel_rfl) (ak (by simp only [ac2];rfl) (bp h))
def UK (hd:eK S) (k:Nat):Rw S:=am alh atT fun l depth c0 c1 Z=>ab k (Jd hd k l depth c0 c1) (Gg c0 c1 Z)
def HD (hd:eK S) (k:Nat):Fx S:=fp 42 [(77,wg hd),(156,LU k)] [(3,⟨[(2,aa),(3,aa),(4,aa),(10,ar 100010),(15,aa),(16,aa),(17,aa)],[(4,[aa,aa]),(1000000,[aa]),(1000001,[aa,aa,aa,aa,aa,aa])]⟩,aG 5 11)] k f155 2
def R4 (c0:Int) (c1:Tm) (l:List Tm) (depth:Int) (out10:List Tm) (v17:Int):St UU:=⟨[(2,(iI depth)),(3,(.func 156 [] [(pt 1000001)])),(4,(pt 4)),(10,(.own 100010 0)),(15,(sT l)),(16,(iI l.length)),(17,(iI v17))],[(4,.cells [(.func 158 [] [(pt 1000000)]),(.func 158 [] [(pt 1000000)])]),(1000000,bI c0),(1000001,bT c1)],[(100010,⟨0,ET.T,out10⟩)],[(100010,.wr)]⟩
section
variable (hd:eK S) (k:Nat) (l:List Tm) (depth c0:Int) (c1:Tm) (Z:Out UU->Option S)
theorem ac3: ∀n out10 v17,(HD hd k).lp Z 3 [] n (R4 c0 c1 l depth out10 v17)=pK hd k (Gg c0 c1 Z) c0 c1 l depth n out10 v17:=bh (BI hd k (Gg c0 c1 Z) c0 c1 l depth)
end
theorem ag1 (o:Obj) (ho:ao o) (hd:eK S) (Hd:Tl o 77 (wg hd)) (k:Nat):Tl o 155 (UK hd k:Rw S):=ap (HD hd k) ⟨Hd,PL k ho,trivial⟩ func155 fun l depth c0 c1 Z x h=>ak (b:=Ns hd k (Gg c0 c1 Z) (fun out10 v17=>(HD hd k).lp Z 3 [] k (R4 c0 c1 l depth out10 v17)) l depth c0 c1) (by kernel_rfl) (ak (by simp only [ac3];rfl) (bp h))
def HB (hd:eK S) (k:Nat):Fx S:=fp 98 [(154,UI k),(155,oC (rF Ru Hs) (UJ hd k) (UK hd k)),(158,LW k)] [(13,⟨[(2,aa),(3,aa),(6,aa),(8,aa),(10,aa),(53,aa),(54,aa),(55,aa)],[(3,[aa,aa]),(6,[aa,aa,aa,ar 200387,ar 200388,ar 200389]),(8,[aa,aa,aa,aa,aa,ar 200517]),(10,[aa]),(1000000,[aa])]⟩,aG 11 767)] k f77 1
def R2 (c0:Int) (t:Tm) (r1:List Cl×Int) (r2:List Tm×Int) (depth:Int) (dH:Int) (b8_5:List (Br Tm)) (v55:Int):St UU:=⟨[(2,(iI depth)),(3,(pt 3)),(6,(pt 6)),(8,(pt 8)),(10,(pt 10)),(53,(sB t.sys)),(54,(iI t.sys.length)),(55,(iI v55))],[(3,.cells [(.func 158 [] [(pt 1000000)]),(.func 158 [] [(pt 1000000)])]),(6,.cells [(iI 0),(iI 0),cx,(.own 200387 0),(.own 200388 0),(.own 200389 0)]),(8,.cells [(iI t.kind),(iI t.n),(.str t.name),(sC r1.1),(sT r2.1),(.own 200517 0)]),(10,bI dH),(1000000,bI c0)],[(200517,⟨0,ET.B,b8_5⟩),(200389,b_),(200388,cu),(200387,cq)],[(200517,.wr),(200389,.wr),(200388,.wr),(200387,.wr)]⟩
section
variable (hd:eK S) (k:Nat) (t:Tm) (depth c0:Int) (Z:Out UU->Option S)
theorem ac1 (r1 r2): ∀n dH b8_5 v55,(HB hd k).lp Z 13 [] n (R2 c0 t r1 r2 depth dH b8_5 v55)=jT hd k (Ge c0 Z) c0 t r1 r2 depth n dH b8_5 v55:=h_ (BN hd k (Ge c0 Z) c0 t r1 r2 depth)
end
theorem Kj (o:Obj) (ho:ao o): ∀k:Nat,Tl o 77 (wg (gE k:eK S))
 |0=>fT fun t depth c0 Z x h=>by cases h
 |k+1=>ap (HB (gE k) k) ⟨agZ k ho,sQ (ag0 o ho (gE k) (Kj o ho k) k) (ag1 o ho (gE k) (Kj o ho k) k),PN k ho,trivial⟩ func77 fun t depth c0 Z x h=>ak (b:=Nw (gE k) k (Ge c0 Z) (fun r1 r2 dH b8_5 v55=>(HB (gE k) k).lp Z 13 [] k (R2 c0 t r1 r2 depth dH b8_5 v55)) t depth c0) (by kernel_rfl) (ak (by simp only [ac1];rfl) h)
def Gm:Rw S:=am KD xn fun t i a_r Z=>ab k (ny k t i a_r) (dQ Z)
def ZX:Fx S:=fp 48 [(74,W6 k),(75,sZ k),(76,W9 k),(77,oC (rF KF O6) (we (gT k)) (wg (gE k))),(78,UF k)] [] k f28 0
theorem JG (ho:ao o):Tl o 28 (Gm k:Rw S):=ap (ZX k) ⟨ajh k ho,ux k ho,ajk k ho,sQ (Ki o ho k) (Kj o ho k),agW k ho,trivial⟩ func28 fun t i a_r Z x h=>aE h
def LX:Rw S:=am Rv dh fun line a_r c0 Z=>ab k (o9 k line a_r c0) (j5 Z)
def ZY:Fx S:=fp 44 [(28,Gm k),(35,GE k),(210,qv k),(270,s9 k)] [] k f212 1
theorem PO (ho:ao o):Tl o 212 (LX k:Rw S):=ap (ZY k) ⟨JG k ho,JT k ho,rC k ho,uz k ho,trivial⟩ func212 fun line a_r c0 Z x h=>aE h
def AL:Rw S:=am KC dh fun t vars dims c0 Z=>ab k (eB k t vars dims c0) (j5 Z)
def ZZ:Fx S:=fp 30 [(119,GB k),(210,qv k),(270,s9 k)] [] k f209 1
theorem ES (ho:ao o):Tl o 209 (AL k:Rw S):=ap (ZZ k) ⟨JR k ho,rC k ho,uz k ho,trivial⟩ func209 fun t vars dims c0 Z x h=>aE h
def oG:Rw S:=am zF xn fun kind kids Z=>ab k (c8 k kind kids) (AE Z)
def Z4:Fx S:=fx 8 (fun _=>[]) (fun _=>false) [] [] k f186 true [] 0
theorem px (ho:ao o):Tl o 186 (oG k:Rw S):=ap (Z4 k) trivial func186 fun kind kids Z x h=>aE h
def Gn:Rw S:=am pI dh fun t c0 Z=>ab k (g_ k t c0) (apW Z)
def Z6:Fx S:=fp 28 [(40,lW k),(210,qv k),(270,s9 k)] [] k f213 1
theorem JH (ho:ao o):Tl o 213 (Gn k:Rw S):=ap (Z6 k) ⟨mA k ho,rC k ho,uz k ho,trivial⟩ func213 fun t c0 Z x h=>aE h
def UM:Rw S:=am KB Ht fun c0 c1 c2 Z=>ab k (DX k c0 c1 c2) (Ur c0 c1 c2 Z)
def Z8:Fx S:=fp 10 [(85,AZ (eZ k))] [] k f259 3
theorem ag3 (ho:ao o):Tl o 259 (UM k:Rw S):=ap (Z8 k) ⟨Fp o ho k,trivial⟩ func259 fun c0 c1 c2 Z x h=>aE h
def UN:Rw S:=am alk Ht fun t numbers c0 c1 c2 Z=>ab k (DZ k t numbers c0 c1 c2) (ql c0 c1 c2 Z)
def HE:Fx S:=⟨⟨30,(fun _=>[]),(fun _=>false),aa,fun|6=>true|7=>true|_=>false⟩,[(40,lW k),(259,UM k)],[(5,⟨[(2,aa),(6,aa),(7,aa),(17,aa),(18,aa),(19,aa)],[(1000000,[aa]),(1000001,[aa,aa,aa,aa,aa,aa]),(1000002,[aa]),(5000006,[aa,aa,aa,ar 320200387,ar 320200388,ar 320200389]),(5000007,[aa])]⟩,aG 5 11)],k,f83,false,[],3,some (tK 16 164 f164 k)⟩
def R5 (c0:Int) (c1:Tm) (c2:Int) (numbers:List Int) (v19:Int):St UU:=⟨[(2,(.func 259 [] [(pt 1000000),(pt 1000001),(pt 1000002)])),(6,(pt 5000006)),(7,(pt 5000007)),(17,(oN numbers .none)),(18,(iI numbers.length)),(19,(iI v19))],[(1000000,bI c0),(1000001,bT c1),(1000002,bI c2),(5000006,.cells [(iI 0),(iI 0),cx,(.own 320200387 0),(.own 320200388 0),(.own 320200389 0)]),(5000007,bI 0)],[(320200389,b_),(320200388,cu),(320200387,cq)],[(320200389,.wr),(320200388,.wr),(320200387,.wr)]⟩
section
variable (k:Nat) (t:Tm) (numbers:List Int) (c0:Int) (c1:Tm) (c2:Int) (Z:Out UU->Option S)
theorem ac4: ∀n v19,(HE k).lp Z 5 [] n (R5 c0 c1 c2 numbers v19)=rR k (ql c0 c1 c2 Z) c0 c1 c2 numbers n v19:=dO (B8 k (ql c0 c1 c2 Z) c0 c1 c2 numbers)
end
theorem ag4 (ho:ao o):Tl o 83 (UN k:Rw S):=Hc (HE k) rfl (C9 o func164 (by kernel_rfl)) ⟨mA k ho,ag3 k ho,trivial⟩ func83 (by kernel_rfl) fun t numbers c0 c1 c2 Z x h=>ak (b:=G6 k (ql c0 c1 c2 Z) (fun v19=>(HE k).lp Z 5 [] k (R5 c0 c1 c2 numbers v19)) t numbers c0 c1 c2) (by kernel_rfl) (ak (by simp only [ac4];rfl) (bp h))
def UO:Rw S:=am nX xn fun t a_from a_by Z=>ab k (tZ k t a_from a_by) (dQ Z)
def Z9:Fx S:=fp 18 [(83,UN k)] [] k f182 0
theorem ag5 (ho:ao o):Tl o 182 (UO k:Rw S):=ap (Z9 k) ⟨ag4 k ho,trivial⟩ func182 fun t a_from a_by Z x h=>aE h
def UP:Rw S:=am KC dh fun t vars dims c0 Z=>ab k (D4 k t vars dims c0) (j5 Z)
def Z_:Fx S:=fp 32 [(35,GE k),(93,lX k),(94,lY k),(182,UO k)] [] k f101 1
theorem ag6 (ho:ao o):Tl o 101 (UP k:Rw S):=ap (Z_ k) ⟨JT k ho,mB k ho,mC k ho,ag5 k ho,trivial⟩ func101 fun t vars dims c0 Z x h=>aE h
def AM (hd:fZ S):Rw S:=am eh xn fun t Z=>hd t (be Z)
def UQ (hd:fZ S) (k:Nat):Rw S:=am Ft dh fun a_k p p' c0 Z=>ab k (zc hd k a_k p p' c0) (d7 Z)
def aab (hd:fZ S) (k:Nat):Fx S:=fp 12 [(254,AM hd)] [] k f296 1
theorem ag7 (o:Obj) (ho:ao o) (hd:fZ S) (Hd:Tl o 254 (AM hd)) (k:Nat):Tl o 296 (UQ hd k:Rw S):=ap (aab hd k) ⟨Hd,trivial⟩ func296 fun a_k p p' c0 Z x h=>aE h
def UR (hd:fZ S) (k:Nat):Rw S:=am alm dh fun t c0 Z=>ab k (Jz hd k t c0) (d7 Z)
def qK (hd:fZ S) (k:Nat):Fx S:=fp 60 [(49,mV k),(296,UQ hd k)] [(2,bG [1,2,15,16,17] [(2,6),(1000000,1)],aG 4 5),(12,bG [1,9,40,41,42] [(1000000,1)],aG 7 47),(15,bG [1,9,40,41,42,47,48,49] [(1000000,1)],aG 15 13103)] k f116 1
def K4 (t:Tm) (bu v17:Int):St UU:=⟨[(1,(.func 296 [] [(pt 1000000)])),(2,(pt 2)),(15,(sT t.kids)),(16,(iI t.kids.length)),(17,(iI v17))],[(2,bT t),(1000000,bI bu)],[],[]⟩
def zV (t:Tm) (e0_0' v42 more9:Int):St UU:=⟨[(1,(.func 296 [] [(pt 1000000)])),(9,(iI more9)),(40,(sB t.sys)),(41,(iI t.sys.length)),(42,(iI v42))],[(1000000,bI e0_0')],[],[]⟩
def R6 (t:Tm) (v42:Int) (x4:(Br Tm)) (more9:Int) (e0_0'' v49:Int):St UU:=⟨[(1,(.func 296 [] [(pt 1000000)])),(9,(iI more9)),(40,(sB t.sys)),(41,(iI t.sys.length)),(42,(iI v42)),(47,(sT x4.kids)),(48,(iI x4.kids.length)),(49,(iI v49))],[(1000000,bI e0_0'')],[],[]⟩
section
variable (hd:fZ S) (k:Nat) (t:Tm) (c0:Int) (Z:Out UU->Option S)
theorem ac7 (v42 x4 more9 Z1): ∀n e0_0'' v49,(qK hd k).lp Z 15 [Z1] n (R6 t v42 x4 more9 e0_0'' v49)=sz hd k (d7 Z) (fun e0_0' v42 more9=>Z1 (zV t e0_0' v42 more9)) t v42 x4 more9 n e0_0'' v49:=bh (C2 hd k (d7 Z) t v42 x4 more9 (fun e0_0' v42 more9=>Z1 (zV t e0_0' v42 more9)))
theorem ac6: ∀n e0_0' v42 more9,(qK hd k).lp Z 12 [] n (zV t e0_0' v42 more9)=ov hd k (d7 Z) t n e0_0' v42 more9:=h_ (fun own=>yd hd k (d7 Z) t (fun v42 x4 more9 e0_0'' v49=>sz hd k (d7 Z) own t v42 x4 more9 k e0_0'' v49) own) rfl (fun _=>rfl) fun r e0_0' v42 more9=>ak (b:=yd hd k (d7 Z) t (fun v42 x4 more9 e0_0'' v49=>(qK hd k).lp Z 15 [r] k (R6 t v42 x4 more9 e0_0'' v49)) (fun e0_0' v42 more9=>r (zV t e0_0' v42 more9)) e0_0' v42 more9) (by kernel_rfl) (by simp only [ac7])
theorem ac5: ∀n bu v17,(qK hd k).lp Z 2 [] n (K4 t bu v17)=vK hd k (d7 Z) t n bu v17:=bh (fun own=>yc hd k (d7 Z) t (fun e0_0' v42 more9=>ov hd k (d7 Z) t k e0_0' v42 more9) own) rfl (fun _=>rfl) fun r bu v17=>ak (b:=yc hd k (d7 Z) t (fun e0_0' v42 more9=>(qK hd k).lp Z 12 [] k (zV t e0_0' v42 more9)) (fun bu v17=>r (K4 t bu v17)) bu v17) (by kernel_rfl) (by simp only [ac6])
end
theorem ag8 (o:Obj) (ho:ao o) (hd:fZ S) (Hd:Tl o 254 (AM hd)) (k:Nat):Tl o 116 (UR hd k:Rw S):=ap (qK hd k) ⟨nL k ho,ag7 o ho hd Hd k,trivial⟩ func116 fun t c0 Z x h=>ak (b:=OO hd k (d7 Z) (fun bu v17=>(qK hd k).lp Z 2 [] k (K4 t bu v17)) t c0) (by kernel_rfl) (ak (by simp only [ac5];rfl) (bp h))
def aaa (hd:fZ S) (k:Nat):Fx S:=fp 8 [(116,UR hd k)] [] k f254 0
theorem QL (o:Obj) (ho:ao o): ∀k:Nat,Tl o 254 (AM (nH k:fZ S))
 |0=>fT fun t Z x h=>by cases h
 |k+1=>ap (aaa (nH k) k) ⟨ag8 o ho (nH k) (QL o ho k) k,trivial⟩ func254 fun t Z x h=>ak (by kernel_rfl) h
def LY (hd:jD S):Rw S:=am pG xn fun t a_n Z=>hd t a_n (be Z)
def nj (hd:jD S) (k:Nat):Fx S:=fp 68 [(49,mV k),(255,LY hd)] [(1000003,bG [1,2] [(2,6)],aG 2 3),(5,bG [1,2,5,24,25,26] [(2,6)],aG 6 23),(11,bG [1,5,47,48,49] [],aG 7 47),(14,bG [1,5,47,48,49,54,55,56] [],aG 15 13103)] k f255 0
def R7 (t:Tm) (a_n:Int):St UU:=⟨[(1,(iI a_n)),(2,(pt 2))],[(2,bT t)],[],[]⟩
def K5 (t:Tm) (a_n:Int) (v26 sum5:Int):St UU:=⟨[(1,(iI a_n)),(2,(pt 2)),(5,(iI sum5)),(24,(sT t.kids)),(25,(iI t.kids.length)),(26,(iI v26))],[(2,bT t)],[],[]⟩
def zW (a_n:Int) (t:Tm) (v49 sum5':Int):St UU:=⟨[(1,(iI a_n)),(5,(iI sum5')),(47,(sB t.sys)),(48,(iI t.sys.length)),(49,(iI v49))],[],[],[]⟩
def R8 (a_n:Int) (t:Tm) (v49:Int) (x4:(Br Tm)) (sum5'' v56:Int):St UU:=⟨[(1,(iI a_n)),(5,(iI sum5'')),(47,(sB t.sys)),(48,(iI t.sys.length)),(49,(iI v49)),(54,(sT x4.kids)),(55,(iI x4.kids.length)),(56,(iI v56))],[],[],[]⟩
section
variable (hd:jD S) (k:Nat) (t:Tm) (a_n:Int) (Z:Out UU->Option S)
theorem ada (v49 x4 Z2): ∀n sum5'' v56,(nj hd k).lp Z 14 [Z2] n (R8 a_n t v49 x4 sum5'' v56)=rU hd k (be Z) (fun v49 sum5'=>Z2 (zW a_n t v49 sum5')) a_n t v49 x4 n sum5'' v56:=bh (Cb hd k (be Z) a_n t v49 x4 (fun v49 sum5'=>Z2 (zW a_n t v49 sum5')))
theorem ac_: ∀n v49 sum5',(nj hd k).lp Z 11 [] n (zW a_n t v49 sum5')=n4 hd k (be Z) a_n t n v49 sum5':=bh (fun own=>xl hd k (be Z) a_n t (fun v49 x4 sum5'' v56=>rU hd k (be Z) own a_n t v49 x4 k sum5'' v56) own) rfl (fun _=>rfl) fun r v49 sum5'=>ak (b:=xl hd k (be Z) a_n t (fun v49 x4 sum5'' v56=>(nj hd k).lp Z 14 [r] k (R8 a_n t v49 x4 sum5'' v56)) (fun v49 sum5'=>r (zW a_n t v49 sum5')) v49 sum5') (by kernel_rfl) (by simp only [ada])
theorem ac9: ∀n v26 sum5,(nj hd k).lp Z 5 [] n (K5 t a_n v26 sum5)=rT hd k (be Z) t a_n n v26 sum5:=bh (fun own=>xk hd k (be Z) t a_n (fun v49 sum5'=>n4 hd k (be Z) a_n t k v49 sum5') own) rfl (fun _=>rfl) fun r v26 sum5=>ak (b:=xk hd k (be Z) t a_n (fun v49 sum5'=>(nj hd k).lp Z 11 [] k (zW a_n t v49 sum5')) (fun v26 sum5=>r (K5 t a_n v26 sum5)) v26 sum5) (by kernel_rfl) (by simp only [ac_])
theorem ac8: ∀n,(nj hd k).jn Z 1000003 [] n (R7 t a_n)=Fy hd k (be Z) t a_n n:=mG (Ca hd k (be Z) t a_n (fun v26 sum5=>rT hd k (be Z) t a_n k v26 sum5)) rfl (fun _=>rfl) (ak (b:=Ca hd k (be Z) t a_n (fun v26 sum5=>(nj hd k).lp Z 5 [] k (K5 t a_n v26 sum5))) (by kernel_rfl) (by simp only [ac9]))
end
theorem QM (o:Obj) (ho:ao o): ∀k:Nat,Tl o 255 (LY (kr k:jD S))
 |0=>fT fun t a_n Z x h=>by cases h
 |k+1=>ap (nj (kr k) k) ⟨nL k ho,QM o ho k,trivial⟩ func255 fun t a_n Z x h=>ak (b:=G8 (kr k) k (be Z) ((nj (kr k) k).jn Z 1000003 [] k (R7 t a_n)) t a_n) (by kernel_rfl) (ak (by simp only [ac8];rfl) h)
def UT:Rw S:=am eh xn fun t Z=>ab k (Ec k t) (be Z)
def aac:Fx S:=fp 6 [] [] k f297 0
theorem ag_ (ho:ao o):Tl o 297 (UT k:Rw S):=ap (aac k) trivial func297 fun t Z x h=>aE h
def LZ (hd:kZ S):Rw S:=am Rx xn fun t a_n u vars dims Z=>hd t a_n u vars dims (dP Z)
def qL (hd:kZ S) (k:Nat):Fx S:=fp 137 [(49,mV k),(119,GB k),(257,LZ hd),(297,UT k)] [(12,⟨[(1,aa),(3,aa),(4,aa),(5,aa),(7,aa),(10,aa),(13,aa),(66,aa),(67,aa),(68,aa)],[(5,[aa,aa,aa,aa,aa,aa]),(7,[aa,aa,aa,aa,aa,aa]),(10,[aa,aa,aa,ar 200643,ar 200644,ar 200645]),(13,[aa,aa,aa,ar 200835,ar 200836,ar 200837])]⟩,aG 6 23),(18,⟨[(1,aa),(3,aa),(4,aa),(5,aa),(7,aa),(10,aa),(13,aa),(97,aa),(98,aa),(99,aa)],[(5,[aa,aa,aa,aa,aa,aa]),(7,[aa,aa,aa,aa,aa,aa]),(10,[aa,aa,aa,ar 200643,ar 200644,ar 200645]),(13,[aa,aa,aa,ar 200835,ar 200836,ar 200837])]⟩,aG 7 47),(22,⟨[(1,aa),(3,aa),(4,aa),(5,aa),(7,aa),(10,aa),(13,aa),(20,aa),(97,aa),(98,aa),(99,aa),(108,aa),(109,aa),(110,aa)],[(5,[aa,aa,aa,aa,aa,aa]),(7,[aa,aa,aa,aa,aa,aa]),(10,[aa,aa,aa,ar 200643,ar 200644,ar 200645]),(13,[aa,aa,aa,ar 200835,ar 200836,ar 200837]),(20,[ar 201280,ar 201281])]⟩,aG 17 45871)] k f257 0
def K6 (t u:Tm) (a_n vars dims:Int) (b13_4:List Tm) (v68:Int):St UU:=⟨[(1,(iI a_n)),(3,(iI vars)),(4,(iI dims)),(5,(pt 5)),(7,(pt 7)),(10,(pt 10)),(13,(pt 13)),(66,(sT t.kids)),(67,(iI t.kids.length)),(68,(iI v68))],[(5,bT t),(7,bT u),(10,.cells [(iI 0),(iI 0),cx,(.own 200643 0),(.own 200644 0),(.own 200645 0)]),(13,.cells [(iI t.kind),(iI 0),(.str t.name),(.own 200835 0),(.own 200836 0),(.own 200837 0)])],[(200837,b_),(200836,⟨0,ET.T,b13_4⟩),(200835,⟨0,ET.C,t.r⟩),(200645,b_),(200644,cu),(200643,cq)],[(200837,.wr),(200836,.wr),(200835,.wr),(200645,.wr),(200644,.wr),(200643,.wr)]⟩
def zX (t:Tm) (b13_4:List Tm) (u:Tm) (a_n vars dims:Int) (b13_5:List (Br Tm)) (v99:Int):St UU:=⟨[(1,(iI a_n)),(3,(iI vars)),(4,(iI dims)),(5,(pt 5)),(7,(pt 7)),(10,(pt 10)),(13,(pt 13)),(97,(sB t.sys)),(98,(iI t.sys.length)),(99,(iI v99))],[(5,bT t),(7,bT u),(10,.cells [(iI 0),(iI 0),cx,(.own 200643 0),(.own 200644 0),(.own 200645 0)]),(13,.cells [(iI t.kind),(iI 0),(.str t.name),(.own 200835 0),(.own 200836 0),(.own 200837 0)])],[(200837,⟨0,ET.B,b13_5⟩),(200836,⟨0,ET.T,b13_4⟩),(200835,⟨0,ET.C,t.r⟩),(200645,b_),(200644,cu),(200643,cq)],[(200837,.wr),(200836,.wr),(200835,.wr),(200645,.wr),(200644,.wr),(200643,.wr)]⟩
def R9 (t:Tm) (b13_4:List Tm) (b13_5:List (Br Tm)) (x9:(Br Tm)) (u:Tm) (a_n vars dims v99:Int) (b20_1:List Tm) (v110:Int):St UU:=⟨[(1,(iI a_n)),(3,(iI vars)),(4,(iI dims)),(5,(pt 5)),(7,(pt 7)),(10,(pt 10)),(13,(pt 13)),(20,(pt 20)),(97,(sB t.sys)),(98,(iI t.sys.length)),(99,(iI v99)),(108,(sT x9.kids)),(109,(iI x9.kids.length)),(110,(iI v110))],[(5,bT t),(7,bT u),(10,.cells [(iI 0),(iI 0),cx,(.own 200643 0),(.own 200644 0),(.own 200645 0)]),(13,.cells [(iI t.kind),(iI 0),(.str t.name),(.own 200835 0),(.own 200836 0),(.own 200837 0)]),(20,.cells [(.own 201280 0),(.own 201281 0)])],[(201281,⟨0,ET.T,b20_1⟩),(201280,⟨0,ET.C,x9.face⟩),(200837,⟨0,ET.B,b13_5⟩),(200836,⟨0,ET.T,b13_4⟩),(200835,⟨0,ET.C,t.r⟩),(200645,b_),(200644,cu),(200643,cq)],[(201281,.wr),(201280,.wr),(200837,.wr),(200836,.wr),(200835,.wr),(200645,.wr),(200644,.wr),(200643,.wr)]⟩
section
variable (hd:kZ S) (k:Nat) (t:Tm) (a_n:Int) (u:Tm) (vars dims:Int) (Z:Out UU->Option S)
theorem ade (b13_4 b13_5 x9 v99 Z1): ∀n b20_1 v110,(qL hd k).lp Z 22 [Z1] n (R9 t b13_4 b13_5 x9 u a_n vars dims v99 b20_1 v110)=rV hd k (dP Z) (fun b13_5 v99=>Z1 (zX t b13_4 u a_n vars dims b13_5 v99)) t b13_4 b13_5 x9 u a_n vars dims v99 n b20_1 v110:=bh (Cc hd k (dP Z) t b13_4 b13_5 x9 u a_n vars dims v99 (fun b13_5 v99=>Z1 (zX t b13_4 u a_n vars dims b13_5 v99)))
theorem adc (b13_4): ∀n b13_5 v99,(qL hd k).lp Z 18 [] n (zX t b13_4 u a_n vars dims b13_5 v99)=n5 hd k (dP Z) t b13_4 u a_n vars dims n b13_5 v99:=bh (fun own=>xo hd k (dP Z) t b13_4 u a_n vars dims (fun b13_5 x9 v99 b20_1 v110=>rV hd k (dP Z) own t b13_4 b13_5 x9 u a_n vars dims v99 k b20_1 v110) own) rfl (fun _=>rfl) fun r b13_5 v99=>ak (b:=xo hd k (dP Z) t b13_4 u a_n vars dims (fun b13_5 x9 v99 b20_1 v110=>(qL hd k).lp Z 22 [r] k (R9 t b13_4 b13_5 x9 u a_n vars dims v99 b20_1 v110)) (fun b13_5 v99=>r (zX t b13_4 u a_n vars dims b13_5 v99)) b13_5 v99) (by kernel_rfl) (by simp only [ade])
theorem adb: ∀n b13_4 v68,(qL hd k).lp Z 12 [] n (K6 t u a_n vars dims b13_4 v68)=u9 hd k (dP Z) t u a_n vars dims n b13_4 v68:=bh (fun own=>xm hd k (dP Z) t u a_n vars dims (fun b13_4 b13_5 v99=>n5 hd k (dP Z) t b13_4 u a_n vars dims k b13_5 v99) own) rfl (fun _=>rfl) fun r b13_4 v68=>ak (b:=xm hd k (dP Z) t u a_n vars dims (fun b13_4 b13_5 v99=>(qL hd k).lp Z 18 [] k (zX t b13_4 u a_n vars dims b13_5 v99)) (fun b13_4 v68=>r (K6 t u a_n vars dims b13_4 v68)) b13_4 v68) (by kernel_rfl) (by simp only [adc])
end
theorem QN (o:Obj) (ho:ao o): ∀k:Nat,Tl o 257 (LZ (ku k:kZ S))
 |0=>fT fun t a_n u vars dims Z x h=>by cases h
 |k+1=>ap (qL (ku k) k) ⟨nL k ho,JR k ho,QN o ho k,ag_ k ho,trivial⟩ func257 fun t a_n u vars dims Z x h=>ak (b:=NQ (ku k) k (dP Z) (fun b13_4 v68=>(qL (ku k) k).lp Z 12 [] k (K6 t u a_n vars dims b13_4 v68)) t a_n u vars dims) (by kernel_rfl) (ak (by simp only [adb];rfl) h)
def AN (hd:fY S):Rw S:=am eh xn fun t Z=>hd t (be Z)
def UV (hd:fY S) (k:Nat):Rw S:=am Ft dh fun a_k p p' c0 Z=>ab k (zb hd k a_k p p' c0) (d7 Z)
def aae (hd:fY S) (k:Nat):Fx S:=fp 12 [(258,AN hd)] [] k f298 1
theorem aha (o:Obj) (ho:ao o) (hd:fY S) (Hd:Tl o 258 (AN hd)) (k:Nat):Tl o 298 (UV hd k:Rw S):=ap (aae hd k) ⟨Hd,trivial⟩ func298 fun a_k p p' c0 Z x h=>aE h
def UW (hd:fY S) (k:Nat):Rw S:=am aln dh fun t c0 Z=>ab k (JA hd k t c0) (d7 Z)
def qM (hd:fY S) (k:Nat):Fx S:=fp 60 [(49,mV k),(298,UV hd k)] [(2,bG [1,2,15,16,17] [(2,6),(1000000,1)],aG 4 5),(12,bG [1,9,40,41,42] [(1000000,1)],aG 7 47),(15,bG [1,9,40,41,42,47,48,49] [(1000000,1)],aG 15 13103)] k f116 1
def K7 (t:Tm) (bu v17:Int):St UU:=⟨[(1,(.func 298 [] [(pt 1000000)])),(2,(pt 2)),(15,(sT t.kids)),(16,(iI t.kids.length)),(17,(iI v17))],[(2,bT t),(1000000,bI bu)],[],[]⟩
def zY (t:Tm) (e0_0' v42 more9:Int):St UU:=⟨[(1,(.func 298 [] [(pt 1000000)])),(9,(iI more9)),(40,(sB t.sys)),(41,(iI t.sys.length)),(42,(iI v42))],[(1000000,bI e0_0')],[],[]⟩
def R_ (t:Tm) (v42:Int) (x4:(Br Tm)) (more9:Int) (e0_0'' v49:Int):St UU:=⟨[(1,(.func 298 [] [(pt 1000000)])),(9,(iI more9)),(40,(sB t.sys)),(41,(iI t.sys.length)),(42,(iI v42)),(47,(sT x4.kids)),(48,(iI x4.kids.length)),(49,(iI v49))],[(1000000,bI e0_0'')],[],[]⟩
section
variable (hd:fY S) (k:Nat) (t:Tm) (c0:Int) (Z:Out UU->Option S)
theorem adh (v42 x4 more9 Z1): ∀n e0_0'' v49,(qM hd k).lp Z 15 [Z1] n (R_ t v42 x4 more9 e0_0'' v49)=sA hd k (d7 Z) (fun e0_0' v42 more9=>Z1 (zY t e0_0' v42 more9)) t v42 x4 more9 n e0_0'' v49:=bh (C3 hd k (d7 Z) t v42 x4 more9 (fun e0_0' v42 more9=>Z1 (zY t e0_0' v42 more9)))
theorem adg: ∀n e0_0' v42 more9,(qM hd k).lp Z 12 [] n (zY t e0_0' v42 more9)=ow hd k (d7 Z) t n e0_0' v42 more9:=h_ (fun own=>yf hd k (d7 Z) t (fun v42 x4 more9 e0_0'' v49=>sA hd k (d7 Z) own t v42 x4 more9 k e0_0'' v49) own) rfl (fun _=>rfl) fun r e0_0' v42 more9=>ak (b:=yf hd k (d7 Z) t (fun v42 x4 more9 e0_0'' v49=>(qM hd k).lp Z 15 [r] k (R_ t v42 x4 more9 e0_0'' v49)) (fun e0_0' v42 more9=>r (zY t e0_0' v42 more9)) e0_0' v42 more9) (by kernel_rfl) (by simp only [adh])
theorem adf: ∀n bu v17,(qM hd k).lp Z 2 [] n (K7 t bu v17)=vL hd k (d7 Z) t n bu v17:=bh (fun own=>ye hd k (d7 Z) t (fun e0_0' v42 more9=>ow hd k (d7 Z) t k e0_0' v42 more9) own) rfl (fun _=>rfl) fun r bu v17=>ak (b:=ye hd k (d7 Z) t (fun e0_0' v42 more9=>(qM hd k).lp Z 12 [] k (zY t e0_0' v42 more9)) (fun bu v17=>r (K7 t bu v17)) bu v17) (by kernel_rfl) (by simp only [adg])
end
theorem ahb (o:Obj) (ho:ao o) (hd:fY S) (Hd:Tl o 258 (AN hd)) (k:Nat):Tl o 116 (UW hd k:Rw S):=ap (qM hd k) ⟨nL k ho,aha o ho hd Hd k,trivial⟩ func116 fun t c0 Z x h=>ak (b:=OP hd k (d7 Z) (fun bu v17=>(qM hd k).lp Z 2 [] k (K7 t bu v17)) t c0) (by kernel_rfl) (ak (by simp only [adf];rfl) (bp h))
def aad (hd:fY S) (k:Nat):Fx S:=fp 9 [(116,UW hd k)] [] k f258 0
theorem QO (o:Obj) (ho:ao o): ∀k:Nat,Tl o 258 (AN (nG k:fY S))
 |0=>fT fun t Z x h=>by cases h
 |k+1=>ap (aad (nG k) k) ⟨ahb o ho (nG k) (QO o ho k) k,trivial⟩ func258 fun t Z x h=>ak (by kernel_rfl) h
def UX:Rw S:=am Ry xn fun t a_n u Z=>ab k (Eb k t a_n u) (dQ Z)
def aaf:Fx S:=⟨⟨49,(fun _=>[]),(fun _=>false),aa,fun|6=>true|7=>true|_=>false⟩,[(40,lW k),(254,AM (nH k)),(255,LY (kr k)),(257,LZ (ku k)),(258,AN (nG k))],[],k,f181,false,[],0,some (tK 16 256 f256 k)⟩
theorem ahc (ho:ao o):Tl o 181 (UX k:Rw S):=Hc (aaf k) rfl (C9 o func256 (by kernel_rfl)) ⟨mA k ho,QL o ho k,QM o ho k,QN o ho k,QO o ho k,trivial⟩ func181 (by kernel_rfl) fun t a_n u Z x h=>aE h
def UY:Rw S:=am Rz dh fun t u c0 Z=>ab k (D9 k t u c0) (j5 Z)
def aag:Fx S:=fp 18 [(93,lX k),(94,lY k),(181,UX k)] [] k f100 1
theorem ahd (ho:ao o):Tl o 100 (UY k:Rw S):=ap (aag k) ⟨mB k ho,mC k ho,ahc k ho,trivial⟩ func100 fun t u c0 Z x h=>aE h
def UZ:Rw S:=am Rv dh fun t a_r c0 Z=>ab k (Ea k t a_r c0) (j5 Z)
def aah:Fx S:=fp 18 [(28,Gm k),(93,lX k),(94,lY k)] [] k f130 1
theorem ahe (ho:ao o):Tl o 130 (UZ k:Rw S):=ap (aah k) ⟨JG k ho,mB k ho,mC k ho,trivial⟩ func130 fun t a_r c0 Z x h=>aE h
def lV:Rw S:=am zF xn fun kind kids Z=>ab k (fJ k kind kids) (AE Z)
def aai:Fx S:=fx 8 (fun _=>[]) (fun _=>false) [] [] k f58 true [] 0
theorem mz (ho:ao o):Tl o 58 (lV k:Rw S):=ap (aai k) trivial func58 fun kind kids Z x h=>aE h
def U1:Rw S:=am alo xn fun kind a_r kids Z=>ab k (yF k kind a_r kids) (apX Z)
def aak:Fx S:=fx 11 (fun _=>[]) (fun _=>false) [] [] k f73 true [] 0
theorem ahg (ho:ao o):Tl o 73 (U1 k:Rw S):=ap (aak k) trivial func73 fun kind a_r kids Z x h=>aE h
def U2:Rw S:=am alp dh fun f a_by c0 Z=>ab k (D_ k f a_by c0) (Uq Z)
def aal:Fx S:=fp 23 [(75,sZ k),(93,lX k),(94,lY k)] [] k f103 1
theorem ahh (ho:ao o):Tl o 103 (U2 k:Rw S):=ap (aal k) ⟨ux k ho,mB k ho,mC k ho,trivial⟩ func103 fun f a_by c0 Z x h=>aE h
def oH:Rw S:=am alq xn fun f kids Z=>ab k (gh k f kids) (Us Z)
def aan:Fx S:=fp 8 [] [] k f59 0
theorem py (ho:ao o):Tl o 59 (oH k:Rw S):=ap (aan k) trivial func59 fun f kids Z x h=>aE h
def U3:Rw S:=am Rm dh fun t a_by c0 Z=>ab k (D8 k t a_by c0) (j5 Z)
def aao:Fx S:=fp 18 [(35,GE k),(93,lX k),(94,lY k)] [] k f104 1
theorem ahi (ho:ao o):Tl o 104 (U3 k:Rw S):=ap (aao k) ⟨JT k ho,mB k ho,mC k ho,trivial⟩ func104 fun t a_by c0 Z x h=>aE h
def L3:Rw S:=am alr xn fun sys Z=>ab k (tN k sys) (apZ Z)
def aap:Fx S:=fx 8 (fun _=>[]) (fun _=>false) [(186,oG k)] [] k f208 true [] 0
theorem PQ (ho:ao o):Tl o 208 (L3 k:Rw S):=ap (aap k) ⟨px k ho,trivial⟩ func208 fun sys Z x h=>aE h
def U4:Rw S:=am pI dh fun line c0 Z=>ab k (Dk k line c0) (j5 Z)
def aaq:Fx S:=fp 25 [(28,Gm k),(29,GG k),(210,qv k),(270,s9 k)] [] k f260 1
theorem ahj (ho:ao o):Tl o 260 (U4 k:Rw S):=ap (aaq k) ⟨JG k ho,JV k ho,rC k ho,uz k ho,trivial⟩ func260 fun line c0 Z x h=>aE h
def U5:Rw S:=am mI xn fun line a sys Z=>ab k (Dg k line a sys) (dQ Z)
def HF:Fx S:=fp 78 [(41,qu (fc k)),(186,oG k),(207,GC k),(208,L3 k),(210,qv k),(212,LX k),(213,Gn k),(260,U4 k)] [(5,⟨[(3,aa),(6,aa),(8,aa),(9,aa),(36,aa),(37,aa),(38,aa)],[(3,[aa,aa,aa,aa,aa,aa]),(6,[aa,aa,aa,ar 200387,ar 200388,ar 200389]),(9,[aa,aa,aa,ar 200579,aa,ar 200581]),(19000,[aa])]⟩,aG 7 47)] k f183 0
def Sb (r3:Tm) (r9:Int×Int×ByteArray×List Tm) (r6:Tm) (dt:Int) (b9_5:List (Br Tm)) (v38:Int):St UU:=⟨[(3,(pt 3)),(6,(pt 6)),(8,(pt 19000)),(9,(pt 9)),(36,(sB r6.sys)),(37,(iI r6.sys.length)),(38,(iI v38))],[(3,bT r3),(6,.cells [(iI 0),(iI 0),cx,(.own 200387 0),(.own 200388 0),(.own 200389 0)]),(9,.cells [(iI r9.1),(iI r9.2.1),(.str r9.2.2.1),(.own 200579 0),(sT r9.2.2.2),(.own 200581 0)]),(19000,bI dt)],[(200581,⟨0,ET.B,b9_5⟩),(200579,cq),(200389,b_),(200388,cu),(200387,cq)],[(200581,.wr),(200579,.wr),(200389,.wr),(200388,.wr),(200387,.wr)]⟩
section
variable (k:Nat) (line a:Tm) (sys:List (Br Tm)) (Z:Out UU->Option S)
theorem adk (r3 r9 r6): ∀n dt b9_5 v38,(HF k).lp Z 5 [] n (Sb r3 r9 r6 dt b9_5 v38)=nZ k (dQ Z) r3 r9 r6 n dt b9_5 v38:=h_ (tu k (dQ Z) r3 r9 r6)
end
theorem ahk (ho:ao o):Tl o 183 (U5 k:Rw S):=ap (HF k) ⟨uG o ho k,px k ho,JS k ho,PQ k ho,rC k ho,PO k ho,JH k ho,ahj k ho,trivial⟩ func183 fun line a sys Z x h=>ak (b:=Nl k (dQ Z) (fun r3 r9 r6 dt b9_5 v38=>(HF k).lp Z 5 [] k (Sb r3 r9 r6 dt b9_5 v38)) line a sys) (by kernel_rfl) (ak (by simp only [adk];rfl) (bp h))
def U6:Rw S:=am RA dh fun line a sys c0 Z=>ab k (D5 k line a sys c0) (j5 Z)
def aar:Fx S:=fp 21 [(93,lX k),(94,lY k),(183,U5 k)] [] k f102 1
theorem ahl (ho:ao o):Tl o 102 (U6 k:Rw S):=ap (aar k) ⟨mB k ho,mC k ho,ahk k ho,trivial⟩ func102 fun line a sys c0 Z x h=>aE h
def U7:Rw S:=am pI dh fun t c0 Z=>ab k (D6 k t c0) (j5 Z)
def aas:Fx S:=fp 9 [(29,GG k),(130,UZ k)] [] k f67 1
theorem ahm (ho:ao o):Tl o 67 (U7 k:Rw S):=ap (aas k) ⟨JV k ho,ahe k ho,trivial⟩ func67 fun t c0 Z x h=>aE h
def qm:Rw S:=am als xn fun kind l kids Z=>ab k (gi k kind l kids) (Ut Z)
def aat:Fx S:=fx 11 (fun _=>[]) (fun _=>false) [] [] k f63 true [] 0
theorem rz (ho:ao o):Tl o 63 (qm k:Rw S):=ap (aat k) trivial func63 fun kind l kids Z x h=>aE h
section
variable (k:Nat) (t:Tm) (Z:Out UU->Option S)
end
def U8:Rw S:=am akG xn fun b Z=>ab k (Jn k b) (Us Z)
def aav:Fx S:=fp 11 [(59,oH k)] [] k f118 0
theorem ahn (ho:ao o):Tl o 118 (U8 k:Rw S):=ap (aav k) ⟨py k ho,trivial⟩ func118 fun b Z x h=>aE h
def U9:Rw S:=am akH xn fun l Z=>ab k (Jl k l) (Gj Z)
def HG:Fx S:=fx 22 (fun _=>[]) (fun _=>false) [(118,U8 k)] [(3,⟨[(1,aa),(5,ar 100005),(8,aa),(9,aa),(10,aa)],[]⟩,aG 5 11)] k f54 false [true] 0
def Sc (l:List (Br Tm)) (v10:Int) (out5:List (Br Tm)):St UU:=⟨[(1,(.func 118 [] [])),(5,(.own 100005 0)),(8,(sB l)),(9,(iI l.length)),(10,(iI v10))],[],[(100005,⟨0,ET.B,out5⟩)],[(100005,.wr)]⟩
section
variable (k:Nat) (l:List (Br Tm)) (Z:Out UU->Option S)
theorem adl: ∀n v10 out5,(HG k).lp Z 3 [] n (Sc l v10 out5)=uZ k (Gj Z) l n v10 out5:=bh (B2 k (Gj Z) l)
end
theorem aho (ho:ao o):Tl o 54 (U9 k:Rw S):=ap (HG k) ⟨ahn k ho,trivial⟩ func54 fun l Z x h=>ak (b:=NK k (Gj Z) (fun v10 out5=>(HG k).lp Z 3 [] k (Sc l v10 out5)) l) (by kernel_rfl) (ak (by simp only [adl];rfl) (bp h))
def U_:Rw S:=am eh xn fun g Z=>ab k (DN k g) (mT Z)
def aaw:Fx S:=fp 6 [(54,U9 k)] [] k f53 0
theorem ahp (ho:ao o):Tl o 53 (U_ k:Rw S):=ap (aaw k) ⟨aho k ho,trivial⟩ func53 fun g Z x h=>aE h
def L4:Rw S:=am Kv xn fun a es Z=>ab k (rk k a es) (Ut Z)
def aax:Fx S:=fx 9 (fun _=>[]) (fun _=>false) [(63,qm k)] [] k f57 true [] 0
theorem PR (ho:ao o):Tl o 57 (L4 k:Rw S):=ap (aax k) ⟨rz k ho,trivial⟩ func57 fun a es Z x h=>aE h
section
variable (k:Nat) (l:List Cl) (c0:Int) (Z:Out UU->Option S)
end
def Vb:Rw S:=am eh xn fun a_e Z=>ab k (Jm k a_e) (AE Z)
def aaz:Fx S:=fx 6 (fun _=>[]) (fun _=>false) [(58,lV k)] [] k f61 true [] 0
theorem ahr (ho:ao o):Tl o 61 (Vb k:Rw S):=ap (aaz k) ⟨mz k ho,trivial⟩ func61 fun a_e Z x h=>aE h
section
variable (k:Nat) (l:List (Br Tm)) (gA:Int) (eN:List Cl) (eO eP:Int) (eQ:ByteArray) (eR:List Cl) (eS:List Tm) (fH agc:List (Br Tm)) (agd af2:Int) (af3:ByteArray) (af4:List Cl) (af5:List Tm) (af6:List (Br Tm)) (af7 af8:Int) (af9:ByteArray) (af_:List Cl) (aga:List Tm) (agb:List (Br Tm)) (Z:Out UU->Option S)
end
section
variable (k:Nat) (g:Tm) (bk:Int) (aL:List Cl) (aM aN:Int) (aO:ByteArray) (aP:List Cl) (aQ:List Tm) (c0_7:List (Br Tm)) (aub at0:Int) (at1:ByteArray) (at2:List Cl) (at3:List Tm) (at4:List (Br Tm)) (at5 at6:Int) (at7:ByteArray) (at8:List Cl) (at9:List Tm) (aua:List (Br Tm)) (Z:Out UU->Option S)
end
def wi:Rw S:=am ir xn fun a_n Z=>ab k (iO k a_n) (F8 Z)
def aaA:Fx S:=fx 5 (fun _=>[]) (fun _=>false) [] [] k f187 true [] 0
theorem zi (ho:ao o):Tl o 187 (wi k:Rw S):=ap (aaA k) trivial func187 fun a_n Z x h=>aE h
def Vc:Rw S:=am akI dh fun t a f y c0 Z=>ab k (ym k t a f y c0) (Uv Z)
def aaB:Fx S:=fx 28 (fun _=>[]) (fun _=>false) [(186,oG k),(187,wi k),(209,AL k)] [] k f262 true [] 1
theorem ahs (ho:ao o):Tl o 262 (Vc k:Rw S):=ap (aaB k) ⟨px k ho,zi k ho,ES k ho,trivial⟩ func262 fun t a f y c0 Z x h=>aE h
section
variable (k:Nat) (l:List (Br Tm)) (c2:Tm) (auc:Int) (aud:List Cl) (auo auq:Int) (aur:ByteArray) (aus:List Cl) (aut:List Tm) (auu auv:List (Br Tm)) (auw aue:Int) (auf:ByteArray) (aug:List Cl) (auh:List Tm) (aui:List (Br Tm)) (auj auk:Int) (aul:ByteArray) (aum:List Cl) (aun:List Tm) (aup:List (Br Tm)) (Z:Out UU->Option S)
end
section
variable (k:Nat) (l:List (Br Tm)) (gA:Int) (eN:List Cl) (eO eP:Int) (eQ:ByteArray) (eR:List Cl) (eS:List Tm) (fH agc:List (Br Tm)) (agd af2:Int) (af3:ByteArray) (af4:List Cl) (af5:List Tm) (af6:List (Br Tm)) (af7 af8:Int) (af9:ByteArray) (af_:List Cl) (aga:List Tm) (agb:List (Br Tm)) (Z:Out UU->Option S)
end
section
variable (k:Nat) (t:Tm) (Z:Out UU->Option S)
end
def L5:Rw S:=am mH xn fun a b Z=>ab k (ph k a b) (a_ Z)
def HI:Fx S:=fp 26 [] [(4,bG [0,1,5] [],aG 5 11)] k f30 0
def Sd (a b:List Cl) (i5:Int):St UU:=⟨[(0,(sC a)),(1,(sC b)),(5,(iI i5))],[],[],[]⟩
section
variable (k:Nat) (a b:List Cl) (Z:Out UU->Option S)
theorem adm: ∀n i5,(HI k).lp Z 4 [] n (Sd a b i5)=n8 k (a_ Z) a b n i5:=dO (tw k (a_ Z) a b)
end
theorem PS (ho:ao o):Tl o 30 (L5 k:Rw S):=ap (HI k) trivial func30 fun a b Z x h=>ak (b:=G9 k (a_ Z) (fun i5=>(HI k).lp Z 4 [] k (Sd a b i5)) a b) (by kernel_rfl) (ak (by simp only [adm];rfl) (bp h))
def AO (hd:iD S):Rw S:=am zG xn fun a b Z=>hd a b (a_ Z)
def Vf (hd:iD S) (k:Nat):Rw S:=am akK xn fun a b Z=>ab k (yN hd k a b) (a_ Z)
def HK (hd:iD S) (k:Nat):Fx S:=fp 27 [(14,AO hd)] [(4,bG [0,1,5] [],aG 5 11)] k f38 0
def Sf (a b:List Tm) (i5:Int):St UU:=⟨[(0,(sT a)),(1,(sT b)),(5,(iI i5))],[],[],[]⟩
section
variable (hd:iD S) (k:Nat) (a b:List Tm) (Z:Out UU->Option S)
theorem ado: ∀n i5,(HK hd k).lp Z 4 [] n (Sf a b i5)=vu hd k (a_ Z) a b n i5:=dO (CH hd k (a_ Z) a b)
end
theorem ahv (o:Obj) (ho:ao o) (hd:iD S) (Hd:Tl o 14 (AO hd)) (k:Nat):Tl o 38 (Vf hd k:Rw S):=ap (HK hd k) ⟨Hd,trivial⟩ func38 fun a b Z x h=>ak (b:=Ok hd k (a_ Z) (fun i5=>(HK hd k).lp Z 4 [] k (Sf a b i5)) a b) (by kernel_rfl) (ak (by simp only [ado];rfl) (bp h))
def HJ (hd:iD S) (k:Nat):Fx S:=fp 87 [(30,L5 k),(38,Vf hd k)] [(4,bG [2,3,5] [(2,6),(3,6)],aG 5 11)] k f14 0
def Se (a b:Tm) (i5:Int):St UU:=⟨[(2,(pt 2)),(3,(pt 3)),(5,(iI i5))],[(2,bT a),(3,bT b)],[],[]⟩
section
variable (hd:iD S) (k:Nat) (a b:Tm) (Z:Out UU->Option S)
theorem adn: ∀n i5,(HJ hd k).lp Z 4 [] n (Se a b i5)=vr hd k (a_ Z) a b n i5:=dO (CF hd k (a_ Z) a b)
end
theorem Kk (o:Obj) (ho:ao o): ∀k:Nat,Tl o 14 (AO (gG k:iD S))
 |0=>fT fun a b Z x h=>by cases h
 |k+1=>ap (HJ (gG k) k) ⟨PS k ho,ahv o ho (gG k) (Kk o ho k) k,trivial⟩ func14 fun a b Z x h=>ak (b:=Oi (gG k) k (a_ Z) (fun i5=>(HJ (gG k) k).lp Z 4 [] k (Se a b i5)) a b) (by kernel_rfl) (ak (by simp only [adn];rfl) h)
def L6 (hd:la S):Rw S:=am eh xn fun t Z=>hd t (aV Z)
def qN (hd:la S) (k:Nat):Fx S:=fp 86 [(11,L6 hd)] [(3,⟨[(1,aa),(2,aa),(3,aa),(4,aa)],[(1,[aa,aa,aa,aa,aa,aa]),(2,[aa,aa,aa,ar 200131,ar 200132,ar 200133]),(3,[aa,aa,aa,some (200195,false),ar 200196,ar 200197])]⟩,aG 5 11),(7,⟨[(1,aa),(2,aa),(3,aa),(5,aa)],[(1,[aa,aa,aa,aa,aa,aa]),(2,[aa,aa,aa,ar 200131,ar 200132,ar 200133]),(3,[aa,aa,aa,some (200195,false),ar 200196,ar 200197])]⟩,aG 6 23),(11,⟨[(1,aa),(2,aa),(3,aa),(5,aa),(6,aa),(7,aa)],[(1,[aa,aa,aa,aa,aa,aa]),(2,[aa,aa,aa,ar 200131,ar 200132,ar 200133]),(3,[aa,aa,aa,some (200195,false),ar 200196,ar 200197]),(6,[some (200384,false),ar 200385])]⟩,aG 14 5271)] k f11 0
def K8 (t:Tm) (b3_4:List Tm) (i4:Int):St UU:=⟨[(1,(pt 1)),(2,(pt 2)),(3,(pt 3)),(4,(iI i4))],[(1,bT t),(2,.cells [(iI 0),(iI 0),cx,(.own 200131 0),(.own 200132 0),(.own 200133 0)]),(3,.cells [(iI t.kind),(iI t.n),(.str t.name),(.own 200195 0),(.own 200196 0),(.own 200197 0)])],[(200197,b_),(200196,⟨0,ET.T,b3_4⟩),(200195,⟨0,ET.C,([]:List Cl)++t.r⟩),(200133,b_),(200132,cu),(200131,cq)],[(200197,.wr),(200196,.wr),(200195,.app),(200133,.wr),(200132,.wr),(200131,.wr)]⟩
def z6 (t:Tm) (b3_4:List Tm) (b3_5:List (Br Tm)) (i5:Int):St UU:=⟨[(1,(pt 1)),(2,(pt 2)),(3,(pt 3)),(5,(iI i5))],[(1,bT t),(2,.cells [(iI 0),(iI 0),cx,(.own 200131 0),(.own 200132 0),(.own 200133 0)]),(3,.cells [(iI t.kind),(iI t.n),(.str t.name),(.own 200195 0),(.own 200196 0),(.own 200197 0)])],[(200197,⟨0,ET.B,b3_5⟩),(200196,⟨0,ET.T,b3_4⟩),(200195,⟨0,ET.C,([]:List Cl)++t.r⟩),(200133,b_),(200132,cu),(200131,cq)],[(200197,.wr),(200196,.wr),(200195,.app),(200133,.wr),(200132,.wr),(200131,.wr)]⟩
def Sg (t:Tm) (b3_4:List Tm) (b3_5:List (Br Tm)) (x5:(Br Tm)) (i5:Int) (b6_1:List Tm) (v7:Int):St UU:=⟨[(1,(pt 1)),(2,(pt 2)),(3,(pt 3)),(5,(iI i5)),(6,(pt 6)),(7,(iI v7))],[(1,bT t),(2,.cells [(iI 0),(iI 0),cx,(.own 200131 0),(.own 200132 0),(.own 200133 0)]),(3,.cells [(iI t.kind),(iI t.n),(.str t.name),(.own 200195 0),(.own 200196 0),(.own 200197 0)]),(6,.cells [(.own 200384 0),(.own 200385 0)])],[(200385,⟨0,ET.T,b6_1⟩),(200384,⟨0,ET.C,([]:List Cl)++x5.face⟩),(200197,⟨0,ET.B,b3_5⟩),(200196,⟨0,ET.T,b3_4⟩),(200195,⟨0,ET.C,([]:List Cl)++t.r⟩),(200133,b_),(200132,cu),(200131,cq)],[(200385,.wr),(200384,.app),(200197,.wr),(200196,.wr),(200195,.app),(200133,.wr),(200132,.wr),(200131,.wr)]⟩
section
variable (hd:la S) (k:Nat) (t:Tm) (Z:Out UU->Option S)
theorem adr (b3_4 b3_5 x5 i5 Z1): ∀n b6_1 v7,(qN hd k).lp Z 11 [Z1] n (Sg t b3_4 b3_5 x5 i5 b6_1 v7)=sf hd k (aV Z) (fun b3_5 i5=>Z1 (z6 t b3_4 b3_5 i5)) t b3_4 b3_5 x5 i5 n b6_1 v7:=bh (CD hd k (aV Z) t b3_4 b3_5 x5 i5 (fun b3_5 i5=>Z1 (z6 t b3_4 b3_5 i5)))
theorem adq (b3_4): ∀n b3_5 i5,(qN hd k).lp Z 7 [] n (z6 t b3_4 b3_5 i5)=oa hd k (aV Z) t b3_4 n b3_5 i5:=bh (fun own=>xF hd k (aV Z) t b3_4 (fun b3_5 x5 i5 b6_1 v7=>sf hd k (aV Z) own t b3_4 b3_5 x5 i5 k b6_1 v7) own) rfl (fun _=>rfl) fun r b3_5 i5=>ak (b:=xF hd k (aV Z) t b3_4 (fun b3_5 x5 i5 b6_1 v7=>(qN hd k).lp Z 11 [r] k (Sg t b3_4 b3_5 x5 i5 b6_1 v7)) (fun b3_5 i5=>r (z6 t b3_4 b3_5 i5)) b3_5 i5) (by kernel_rfl) (by simp only [adr])
theorem adp: ∀n b3_4 i4,(qN hd k).lp Z 3 [] n (K8 t b3_4 i4)=vq hd k (aV Z) t n b3_4 i4:=bh (fun own=>xE hd k (aV Z) t (fun b3_4 b3_5 i5=>oa hd k (aV Z) t b3_4 k b3_5 i5) own) rfl (fun _=>rfl) fun r b3_4 i4=>ak (b:=xE hd k (aV Z) t (fun b3_4 b3_5 i5=>(qN hd k).lp Z 7 [] k (z6 t b3_4 b3_5 i5)) (fun b3_4 i4=>r (K8 t b3_4 i4)) b3_4 i4) (by kernel_rfl) (by simp only [adq])
end
theorem QP (o:Obj) (ho:ao o): ∀k:Nat,Tl o 11 (L6 (mu k:la S))
 |0=>fT fun t Z x h=>by cases h
 |k+1=>ap (qN (mu k) k) ⟨QP o ho k,trivial⟩ func11 fun t Z x h=>ak (b:=Og (mu k) k (aV Z) (fun b3_4 i4=>(qN (mu k) k).lp Z 3 [] k (K8 t b3_4 i4)) t) (by kernel_rfl) (ak (by simp only [adp];rfl) h)
def Gq (hd:lb S):Rw S:=am eh xn fun t Z=>hd t (be Z)
def qO (hd:lb S) (k:Nat):Fx S:=fp 60 [(166,Gq hd)] [(3,bG [1,3,4] [(1,6)],aG 5 11),(9,bG [1,3,6] [(1,6)],aG 6 23),(12,bG [1,3,6,7] [(1,6)],aG 12 1175)] k f166 0
def K9 (t:Tm) (most3 i4:Int):St UU:=⟨[(1,(pt 1)),(3,(iI most3)),(4,(iI i4))],[(1,bT t)],[],[]⟩
def z7 (t:Tm) (most3' i6:Int):St UU:=⟨[(1,(pt 1)),(3,(iI most3')),(6,(iI i6))],[(1,bT t)],[],[]⟩
def Sh (t:Tm) (i6:Int) (most3'' v7:Int):St UU:=⟨[(1,(pt 1)),(3,(iI most3'')),(6,(iI i6)),(7,(iI v7))],[(1,bT t)],[],[]⟩
section
variable (hd:lb S) (k:Nat) (t:Tm) (Z:Out UU->Option S)
theorem adu (i6 Z1): ∀n most3'' v7,(qO hd k).lp Z 12 [Z1] n (Sh t i6 most3'' v7)=pV hd k (be Z) (fun most3' i6=>Z1 (z7 t most3' i6)) t i6 n most3'' v7:=bh (CE hd k (be Z) t i6 (fun most3' i6=>Z1 (z7 t most3' i6)))
theorem adt: ∀n most3' i6,(qO hd k).lp Z 9 [] n (z7 t most3' i6)=oe hd k (be Z) t n most3' i6:=bh (fun own=>xH hd k (be Z) t (fun i6 most3'' v7=>pV hd k (be Z) own t i6 k most3'' v7) own) rfl (fun _=>rfl) fun r most3' i6=>ak (b:=xH hd k (be Z) t (fun i6 most3'' v7=>(qO hd k).lp Z 12 [r] k (Sh t i6 most3'' v7)) (fun most3' i6=>r (z7 t most3' i6)) most3' i6) (by kernel_rfl) (by simp only [adu])
theorem ads: ∀n most3 i4,(qO hd k).lp Z 3 [] n (K9 t most3 i4)=sg hd k (be Z) t n most3 i4:=bh (fun own=>xG hd k (be Z) t (fun most3' i6=>oe hd k (be Z) t k most3' i6) own) rfl (fun _=>rfl) fun r most3 i4=>ak (b:=xG hd k (be Z) t (fun most3' i6=>(qO hd k).lp Z 9 [] k (z7 t most3' i6)) (fun most3 i4=>r (K9 t most3 i4)) most3 i4) (by kernel_rfl) (by simp only [adt])
end
theorem Kl (o:Obj) (ho:ao o): ∀k:Nat,Tl o 166 (Gq (kz k:lb S))
 |0=>fT fun t Z x h=>by cases h
 |k+1=>ap (qO (kz k) k) ⟨Kl o ho k,trivial⟩ func166 fun t Z x h=>ak (b:=Oh (kz k) k (be Z) (fun most3 i4=>(qO (kz k) k).lp Z 3 [] k (K9 t most3 i4)) t) (by kernel_rfl) (ak (by simp only [ads];rfl) h)
def Gr (hd:lc S):Rw S:=am eh xn fun t Z=>hd t (be Z)
def qP (hd:lc S) (k:Nat):Fx S:=fp 53 [(167,Gr hd)] [(3,bG [1,3,4] [(1,6)],aG 5 11),(7,bG [1,3,5] [(1,6)],aG 6 23),(10,bG [1,3,5,6] [(1,6)],aG 12 1175)] k f167 0
def K_ (t:Tm) (v3 i4:Int):St UU:=⟨[(1,(pt 1)),(3,(iI v3)),(4,(iI i4))],[(1,bT t)],[],[]⟩
def z8 (t:Tm) (v3' i5:Int):St UU:=⟨[(1,(pt 1)),(3,(iI v3')),(5,(iI i5))],[(1,bT t)],[],[]⟩
def Si (t:Tm) (i5:Int) (v3'' v6:Int):St UU:=⟨[(1,(pt 1)),(3,(iI v3'')),(5,(iI i5)),(6,(iI v6))],[(1,bT t)],[],[]⟩
section
variable (hd:lc S) (k:Nat) (t:Tm) (Z:Out UU->Option S)
theorem adx (i5 Z1): ∀n v3'' v6,(qP hd k).lp Z 10 [Z1] n (Si t i5 v3'' v6)=sh hd k (be Z) (fun v3' i5=>Z1 (z8 t v3' i5)) t i5 n v3'' v6:=bh (CG hd k (be Z) t i5 (fun v3' i5=>Z1 (z8 t v3' i5)))
theorem adw: ∀n v3' i5,(qP hd k).lp Z 7 [] n (z8 t v3' i5)=og hd k (be Z) t n v3' i5:=bh (fun own=>xK hd k (be Z) t (fun i5 v3'' v6=>sh hd k (be Z) own t i5 k v3'' v6) own) rfl (fun _=>rfl) fun r v3' i5=>ak (b:=xK hd k (be Z) t (fun i5 v3'' v6=>(qP hd k).lp Z 10 [r] k (Si t i5 v3'' v6)) (fun v3' i5=>r (z8 t v3' i5)) v3' i5) (by kernel_rfl) (by simp only [adx])
theorem adv: ∀n v3 i4,(qP hd k).lp Z 3 [] n (K_ t v3 i4)=vt hd k (be Z) t n v3 i4:=bh (fun own=>xJ hd k (be Z) t (fun v3' i5=>og hd k (be Z) t k v3' i5) own) rfl (fun _=>rfl) fun r v3 i4=>ak (b:=xJ hd k (be Z) t (fun v3' i5=>(qP hd k).lp Z 7 [] k (z8 t v3' i5)) (fun v3 i4=>r (K_ t v3 i4)) v3 i4) (by kernel_rfl) (by simp only [adw])
end
theorem Km (o:Obj) (ho:ao o): ∀k:Nat,Tl o 167 (Gr (jN k:lc S))
 |0=>fT fun t Z x h=>by cases h
 |k+1=>ap (qP (jN k) k) ⟨Km o ho k,trivial⟩ func167 fun t Z x h=>ak (b:=Oj (jN k) k (be Z) (fun v3 i4=>(qP (jN k) k).lp Z 3 [] k (K_ t v3 i4)) t) (by kernel_rfl) (ak (by simp only [adv];rfl) h)
def Vg:Rw S:=am eh xn fun t Z=>ab k (Ep k t) (be Z)
def aaD:Fx S:=fp 9 [(166,Gq (kz k)),(167,Gr (jN k))] [] k f86 0
theorem ahw (ho:ao o):Tl o 86 (Vg k:Rw S):=ap (aaD k) ⟨Kl o ho k,Km o ho k,trivial⟩ func86 fun t Z x h=>aE h
def L7:Rw S:=am ir xn fun kind Z=>ab k (ue k kind) (be Z)
def aaE:Fx S:=fp 14 [] [] k f168 0
theorem PT (ho:ao o):Tl o 168 (L7 k:Rw S):=ap (aaE k) trivial func168 fun kind Z x h=>aE h
def Vh:Rw S:=am ir xn fun kind Z=>ab k (uf k kind) (be Z)
def aaF:Fx S:=fp 15 [] [] k f169 0
theorem ahx (ho:ao o):Tl o 169 (Vh k:Rw S):=ap (aaF k) trivial func169 fun kind Z x h=>aE h
def Vj:Rw S:=am Q_ xn fun s Z=>ab k (Eo k s) (a_ Z)
def wR:Fx S:=fp 45 [] [(2,bG [0,3] [],aG 4 5),(1000006,bG [0,3,4] [],aG 10 805)] k f170 0
def z_ (s:ByteArray) (i3:Int):St UU:=⟨[(0,(.str s)),(3,(iI i3))],[],[],[]⟩
def Sk (s:ByteArray) (i3:Int) (x1:UInt8):St UU:=⟨[(0,(.str s)),(3,(iI i3)),(4,(.int .u8 (x1.toNat:Int)))],[],[],[]⟩
section
variable (k:Nat) (s:ByteArray) (Z:Out UU->Option S)
theorem adA (i3 x1 Z0): ∀n,(wR k).jn Z 1000006 [Z0] n (Sk s i3 x1)=FB k (a_ Z) (fun i3=>Z0 (z_ s i3)) s i3 x1 n:=mG (IJ k (a_ Z) s i3 x1 (fun i3=>Z0 (z_ s i3)))
theorem adz: ∀n i3,(wR k).lp Z 2 [] n (z_ s i3)=si k (a_ Z) s n i3:=dO (fun own=>xL k (a_ Z) s (fun i3 x1=>FB k (a_ Z) own s i3 x1 k) own) rfl (fun _=>rfl) fun r i3=>ak (b:=xL k (a_ Z) s (fun i3 x1=>(wR k).jn Z 1000006 [r] k (Sk s i3 x1)) (fun i3=>r (z_ s i3)) i3) (by kernel_rfl) (by simp only [adA])
end
theorem ahz (ho:ao o):Tl o 170 (Vj k:Rw S):=ap (wR k) trivial func170 fun s Z x h=>ak (b:=Ol k (a_ Z) (fun i3=>(wR k).lp Z 2 [] k (z_ s i3)) s) (by kernel_rfl) (ak (by simp only [adz];rfl) (bp h))
def Gs:Rw S:=am ir xn fun a_n Z=>ab k (ub k a_n) (be Z)
def HL:Fx S:=fp 13 [] [(3,bG [0,3,4] [],aG 5 11)] k f317 0
def Sl (a_n:Int) (p3 i4:Int):St UU:=⟨[(0,(iI a_n)),(3,(iI p3)),(4,(iI i4))],[],[],[]⟩
section
variable (k:Nat) (a_n:Int) (Z:Out UU->Option S)
theorem adB: ∀n p3 i4,(HL k).lp Z 3 [] n (Sl a_n p3 i4)=vc k (be Z) a_n n p3 i4:=bh (Ci k (be Z) a_n)
end
theorem JJ (ho:ao o):Tl o 317 (Gs k:Rw S):=ap (HL k) trivial func317 fun a_n Z x h=>ak (b:=NV k (be Z) (fun p3 i4=>(HL k).lp Z 3 [] k (Sl a_n p3 i4)) a_n) (by kernel_rfl) (ak (by simp only [adB];rfl) (bp h))
def Vk:Rw S:=am zH xn fun s Z=>ab k (ua k s) (a_ Z)
def aaI:Fx S:=fp 7 [(317,Gs k)] [] k f315 0
theorem ahA (ho:ao o):Tl o 315 (Vk k:Rw S):=ap (aaI k) ⟨JJ k ho,trivial⟩ func315 fun s Z x h=>aE h
def L8:Rw S:=am rM xn fun c Z=>ab k (yJ k c) (a_ Z)
def aaJ:Fx S:=fp 11 [(315,Vk k)] [] k f287 0
theorem PW (ho:ao o):Tl o 287 (L8 k:Rw S):=ap (aaJ k) ⟨ahA k ho,trivial⟩ func287 fun c Z x h=>aE h
def Vl:Rw S:=am zI xn fun a b Z=>ab k (Ed k a b) (a_ Z)
def aaK:Fx S:=fp 23 [] [] k f316 0
theorem ahB (ho:ao o):Tl o 316 (Vl k:Rw S):=ap (aaK k) trivial func316 fun a b Z x h=>aE h
def Vm:Rw S:=am Rr xn fun l c Z=>ab k (Eg k l c) (a_ Z)
def HM:Fx S:=fp 26 [(316,Vl k)] [(2,bG [0,3,5] [(3,2)],aG 4 5)] k f288 0
def Sn (c:Cl) (l:List Cl) (i5:Int):St UU:=⟨[(0,(sC l)),(3,(pt 3)),(5,(iI i5))],[(3,bC c)],[],[]⟩
section
variable (k:Nat) (l:List Cl) (c:Cl) (Z:Out UU->Option S)
theorem adC: ∀n i5,(HM k).lp Z 2 [] n (Sn c l i5)=vf k (a_ Z) c l n i5:=dO (Cm k (a_ Z) c l)
end
theorem ahC (ho:ao o):Tl o 288 (Vm k:Rw S):=ap (HM k) ⟨ahB k ho,trivial⟩ func288 fun l c Z x h=>ak (b:=NY k (a_ Z) (fun i5=>(HM k).lp Z 2 [] k (Sn c l i5)) l c) (by kernel_rfl) (ak (by simp only [adC];rfl) (bp h))
def Vn:Rw S:=am zI xn fun a b Z=>ab k (Ee k a b) (a_ Z)
def aaL:Fx S:=fp 24 [] [] k f289 0
theorem ahD (ho:ao o):Tl o 289 (Vn k:Rw S):=ap (aaL k) trivial func289 fun a b Z x h=>aE h
def qn:Rw S:=am gJ xn fun l Z=>ab k (mr k l) (a8 Z)
def qQ:Fx S:=fp 84 [(287,L8 k),(288,Vm k),(289,Vn k)] [(2,bG [0,4] [],aG 4 5),(8,⟨[(0,aa),(5,some (100005,false)),(6,aa)],[]⟩,aG 6 23),(12,⟨[(0,aa),(5,some (100005,false)),(6,aa),(7,aa)],[]⟩,aG 14 3223)] k f246 0
def La (l:List Cl) (i4:Int):St UU:=⟨[(0,(sC l)),(4,(iI i4))],[],[],[]⟩
def Aa (l:List Cl) (out5:List Cl) (i6:Int):St UU:=⟨[(0,(sC l)),(5,(.own 100005 0)),(6,(iI i6))],[],[(100005,⟨0,ET.C,out5⟩)],[(100005,.app)]⟩
def So (l out5:List Cl) (i6:Int) (v7:Int):St UU:=⟨[(0,(sC l)),(5,(.own 100005 0)),(6,(iI i6)),(7,(iI v7))],[],[(100005,⟨0,ET.C,out5⟩)],[(100005,.app)]⟩
section
variable (k:Nat) (l:List Cl) (Z:Out UU->Option S)
theorem adF (out5 i6 Z1): ∀n v7,(qQ k).lp Z 12 [Z1] n (So l out5 i6 v7)=rY k (a8 Z) (fun out5 i6=>Z1 (Aa l out5 i6)) l out5 i6 n v7:=dO (Ck k (a8 Z) l out5 i6 (fun out5 i6=>Z1 (Aa l out5 i6)))
theorem adE: ∀n out5 i6,(qQ k).lp Z 8 [] n (Aa l out5 i6)=n7 k (a8 Z) l n out5 i6:=bh (fun own=>xq k (a8 Z) l (fun out5 i6 v7=>rY k (a8 Z) own l out5 i6 k v7) own) rfl (fun _=>rfl) fun r out5 i6=>ak (b:=xq k (a8 Z) l (fun out5 i6 v7=>(qQ k).lp Z 12 [r] k (So l out5 i6 v7)) (fun out5 i6=>r (Aa l out5 i6)) out5 i6) (by kernel_rfl) (by simp only [adF])
theorem adD: ∀n i4,(qQ k).lp Z 2 [] n (La l i4)=ve k (a8 Z) l n i4:=dO (fun own=>xp k (a8 Z) l (fun out5 i6=>n7 k (a8 Z) l k out5 i6) own) rfl (fun _=>rfl) fun r i4=>ak (b:=xp k (a8 Z) l (fun out5 i6=>(qQ k).lp Z 8 [] k (Aa l out5 i6)) (fun i4=>r (La l i4)) i4) (by kernel_rfl) (by simp only [adE])
end
theorem rA (ho:ao o):Tl o 246 (qn k:Rw S):=ap (qQ k) ⟨PW k ho,ahC k ho,ahD k ho,trivial⟩ func246 fun l Z x h=>ak (b:=NX k (a8 Z) (fun i4=>(qQ k).lp Z 2 [] k (La l i4)) l) (by kernel_rfl) (ak (by simp only [adD];rfl) (bp h))
def mW:Rw S:=am gJ xn fun f Z=>ab k (hU k f) (a_ Z)
def aaM:Fx S:=fp 17 [(30,L5 k),(246,qn k)] [] k f171 0
theorem nM (ho:ao o):Tl o 171 (mW k:Rw S):=ap (aaM k) ⟨PS k ho,rA k ho,trivial⟩ func171 fun f Z x h=>aE h
def qr:Rw S:=am pH xn fun s i Z=>ab k (gF k s i) (a_ Z)
def aaN:Fx S:=fp 20 [(317,Gs k)] [] k f290 0
theorem rB (ho:ao o):Tl o 290 (qr k:Rw S):=ap (aaN k) ⟨JJ k ho,trivial⟩ func290 fun s i Z x h=>aE h
def sV:Rw S:=am akL xn fun l Z=>ab k (mq k l) (dl Z)
def HN:Fx S:=fp 20 [(317,Gs k)] [(3,bG [0,3,4] [],aG 5 11)] k f291 0
def Sp (l:List Int) (v3 i4:Int):St UU:=⟨[(0,(oN l .none)),(3,(iI v3)),(4,(iI i4))],[],[],[]⟩
section
variable (k:Nat) (l:List Int) (Z:Out UU->Option S)
theorem adG: ∀n v3 i4,(HN k).lp Z 3 [] n (Sp l v3 i4)=u_ k (dl Z) l n v3 i4:=bh (Cg k (dl Z) l)
end
theorem ur (ho:ao o):Tl o 291 (sV k:Rw S):=ap (HN k) ⟨JJ k ho,trivial⟩ func291 fun l Z x h=>ak (b:=NT k (dl Z) (fun v3 i4=>(HN k).lp Z 3 [] k (Sp l v3 i4)) l) (by kernel_rfl) (ak (by simp only [adG];rfl) (bp h))
def L9:Rw S:=am gJ xn fun f Z=>ab k (yL k f) (dl Z)
def wS:Fx S:=fp 43 [(290,qr k),(291,sV k)] [(3,⟨[(0,aa),(3,ar 100003),(4,aa)],[]⟩,aG 5 11),(7,⟨[(0,aa),(3,ar 100003),(4,aa),(5,aa),(6,aa)],[]⟩,aG 13 2635)] k f249 0
def Ab (f:List Cl) (l3:List Int) (i4:Int):St UU:=⟨[(0,(sC f)),(3,(.own 100003 0)),(4,(iI i4))],[],[(100003,⟨0,ET.I,l3⟩)],[(100003,.wr)]⟩
def Sq (f:List Cl) (l3:List Int) (i4:Int) (v5:Bool) (v6:Int):St UU:=⟨[(0,(sC f)),(3,(.own 100003 0)),(4,(iI i4)),(5,(.bool v5)),(6,(iI v6))],[],[(100003,⟨0,ET.I,l3⟩)],[(100003,.wr)]⟩
section
variable (k:Nat) (f:List Cl) (Z:Out UU->Option S)
theorem adI (l3 i4 Z0): ∀n v5 v6,(wS k).lp Z 7 [Z0] n (Sq f l3 i4 v5 v6)=rZ k (dl Z) (fun l3 i4=>Z0 (Ab f l3 i4)) f l3 i4 n v5 v6:=bh (Co k (dl Z) f l3 i4 (fun l3 i4=>Z0 (Ab f l3 i4)))
theorem adH: ∀n l3 i4,(wS k).lp Z 3 [] n (Ab f l3 i4)=pQ k (dl Z) f n l3 i4:=bh (fun own=>xt k (dl Z) f (fun l3 i4 v5 v6=>rZ k (dl Z) own f l3 i4 k v5 v6) own) rfl (fun _=>rfl) fun r l3 i4=>ak (b:=xt k (dl Z) f (fun l3 i4 v5 v6=>(wS k).lp Z 7 [r] k (Sq f l3 i4 v5 v6)) (fun l3 i4=>r (Ab f l3 i4)) l3 i4) (by kernel_rfl) (by simp only [adI])
end
theorem PX (ho:ao o):Tl o 249 (L9 k:Rw S):=ap (wS k) ⟨rB k ho,ur k ho,trivial⟩ func249 fun f Z x h=>ak (b:=N3 k (dl Z) (fun l3 i4=>(wS k).lp Z 3 [] k (Ab f l3 i4)) f) (by kernel_rfl) (ak (by simp only [adH];rfl) (bp h))
def sW:Rw S:=am zH xn fun s Z=>ab k (mo k s) (Gk Z)
def HO:Fx S:=fx 17 (fun _=>[]) (fun _=>false) [(290,qr k)] [(3,⟨[(0,aa),(3,ar 100003),(4,aa)],[]⟩,aG 5 11)] k f248 false [true] 0
def Sr (s:Int) (out3:List Int) (i4:Int):St UU:=⟨[(0,(iU s)),(3,(.own 100003 0)),(4,(iI i4))],[],[(100003,⟨0,ET.I,out3⟩)],[(100003,.wr)]⟩
section
variable (k:Nat) (s:Int) (Z:Out UU->Option S)
theorem adJ: ∀n out3 i4,(HO k).lp Z 3 [] n (Sr s out3 i4)=zL k (Gk Z) s n out3 i4:=bh (IG k (Gk Z) s)
end
theorem ut (ho:ao o):Tl o 248 (sW k:Rw S):=ap (HO k) ⟨rB k ho,trivial⟩ func248 fun s Z x h=>ak (b:=NS k (Gk Z) (fun out3 i4=>(HO k).lp Z 3 [] k (Sr s out3 i4)) s) (by kernel_rfl) (ak (by simp only [adJ];rfl) (bp h))
def Vp:Rw S:=am Ky xn fun f dims Z=>ab k (yO k f dims) (a_ Z)
def aaP:Fx S:=fp 22 [(248,sW k),(249,L9 k)] [] k f173 0
theorem ahF (ho:ao o):Tl o 173 (Vp k:Rw S):=ap (aaP k) ⟨ut k ho,PX k ho,trivial⟩ func173 fun f dims Z x h=>aE h
def wj:Rw S:=am Rj xn fun kind kid Z=>ab k (pj k kind kid) (oF Z)
def wT:Fx S:=fp 44 [] [(1000003,bG [0,1] [],aG 2 3),(1000005,bG [0,1] [],aG 3 7)] k f174 0
def Ss (kind kid:Int):St UU:=⟨[(0,(iI kind)),(1,(iI kid))],[],[],[]⟩
def Su (kind kid:Int):St UU:=⟨[(0,(iI kind)),(1,(iI kid))],[],[],[]⟩
section
variable (k:Nat) (kind kid:Int) (Z:Out UU->Option S)
theorem adL: ∀n,(wT k).jn Z 1000005 [] n (Su kind kid)=FA k (oF Z) kind kid n:=mG (II k (oF Z) kind kid)
theorem adK: ∀n,(wT k).jn Z 1000003 [] n (Ss kind kid)=KL k (oF Z) kind kid n:=mG (CB k (oF Z) kind kid (FA k (oF Z) kind kid k)) rfl (fun _=>rfl) (ak (b:=CB k (oF Z) kind kid ((wT k).jn Z 1000005 [] k (Su kind kid))) (by kernel_rfl) (by simp only [adL]))
end
theorem zj (ho:ao o):Tl o 174 (wj k:Rw S):=ap (wT k) trivial func174 fun kind kid Z x h=>ak (b:=Oe k (oF Z) ((wT k).jn Z 1000003 [] k (Ss kind kid)) kind kid) (by kernel_rfl) (ak (by simp only [adK];rfl) (bp h))
def L_:Rw S:=am rM xn fun c Z=>ab k (yH k c) (a_ Z)
def HP:Fx S:=fp 18 [(290,qr k)] [(2,bG [1,3] [(1,2)],aG 4 5)] k f247 0
def Sv (c:Cl) (i3:Int):St UU:=⟨[(1,(pt 1)),(3,(iI i3))],[(1,bC c)],[],[]⟩
section
variable (k:Nat) (c:Cl) (Z:Out UU->Option S)
theorem adM: ∀n i3,(HP k).lp Z 2 [] n (Sv c i3)=vd k (a_ Z) c n i3:=dO (Cj k (a_ Z) c)
end
theorem PY (ho:ao o):Tl o 247 (L_ k:Rw S):=ap (HP k) ⟨rB k ho,trivial⟩ func247 fun c Z x h=>ak (b:=NW k (a_ Z) (fun i3=>(HP k).lp Z 2 [] k (Sv c i3)) c) (by kernel_rfl) (ak (by simp only [adM];rfl) (bp h))
def AP:Rw S:=am gJ xn fun f Z=>ab k (mt k f) (a_ Z)
def HQ:Fx S:=fp 18 [(171,mW k),(247,L_ k)] [(4,bG [0,3] [],aG 5 11)] k f172 0
def Sw (f:List Cl) (i3:Int):St UU:=⟨[(0,(sC f)),(3,(iI i3))],[],[],[]⟩
section
variable (k:Nat) (f:List Cl) (Z:Out UU->Option S)
theorem adN: ∀n i3,(HQ k).lp Z 4 [] n (Sw f i3)=vl k (a_ Z) f n i3:=dO (Cw k (a_ Z) f)
end
theorem EU (ho:ao o):Tl o 172 (AP k:Rw S):=ap (HQ k) ⟨nM k ho,PY k ho,trivial⟩ func172 fun f Z x h=>ak (b:=Oa k (a_ Z) (fun i3=>(HQ k).lp Z 4 [] k (Sw f i3)) f) (by kernel_rfl) (ak (by simp only [adN];rfl) (bp h))
def AQ:Rw S:=am ir xn fun kind Z=>ab k (pm k kind) (be Z)
def aaQ:Fx S:=fp 5 [] [] k f175 0
theorem EV (ho:ao o):Tl o 175 (AQ k:Rw S):=ap (aaQ k) trivial func175 fun kind Z x h=>aE h
def Ma (hd:gu S):Rw S:=am Rl xn fun t vars dims bound Z=>hd t vars dims bound (a_ Z)
def iC (hd:gu S) (k:Nat):Fx S:=fp 187 [(87,Ma hd),(168,L7 k),(169,Vh k),(170,Vj k),(171,mW k),(172,AP k),(173,Vp k),(174,wj k),(175,AQ k)] [(1000003,bG [1,2,3,4] [(4,6)],aG 2 3),(1000008,bG [1,2,3,4] [(4,6)],aG 3 7),(1000010,bG [1,2,3,4] [(4,6)],aG 4 15),(1000021,bG [1,2,3,4] [(4,6)],aG 5 31),(24,bG [1,2,3,4,9] [(4,6)],aG 9 191),(32,bG [1,2,3,4,12] [(4,6)],aG 10 383),(38,bG [1,2,3,4,12,13,14] [(4,6),(13,2)],aG 18 117119)] k f87 0
def Sx (t:Tm) (vars dims:Int) (bound:Bool):St UU:=⟨[(1,(iI vars)),(2,(iI dims)),(3,(.bool bound)),(4,(pt 4))],[(4,bT t)],[],[]⟩
def Sy (t:Tm) (vars dims:Int) (bound:Bool):St UU:=⟨[(1,(iI vars)),(2,(iI dims)),(3,(.bool bound)),(4,(pt 4))],[(4,bT t)],[],[]⟩
def Sz (t:Tm) (vars dims:Int) (bound:Bool):St UU:=⟨[(1,(iI vars)),(2,(iI dims)),(3,(.bool bound)),(4,(pt 4))],[(4,bT t)],[],[]⟩
def SA (t:Tm) (vars dims:Int) (bound:Bool):St UU:=⟨[(1,(iI vars)),(2,(iI dims)),(3,(.bool bound)),(4,(pt 4))],[(4,bT t)],[],[]⟩
def Lb (t:Tm) (vars dims:Int) (bound:Bool) (i9:Int):St UU:=⟨[(1,(iI vars)),(2,(iI dims)),(3,(.bool bound)),(4,(pt 4)),(9,(iI i9))],[(4,bT t)],[],[]⟩
def Ac (t:Tm) (vars dims:Int) (bound:Bool) (i12:Int):St UU:=⟨[(1,(iI vars)),(2,(iI dims)),(3,(.bool bound)),(4,(pt 4)),(12,(iI i12))],[(4,bT t)],[],[]⟩
def SB (x11:(Br Tm)) (t:Tm) (vars i12 dims:Int) (bound:Bool) (v14:Int):St UU:=⟨[(1,(iI vars)),(2,(iI dims)),(3,(.bool bound)),(4,(pt 4)),(12,(iI i12)),(13,(pt 13)),(14,(iI v14))],[(4,bT t),(13,bB x11)],[],[]⟩
section
variable (hd:gu S) (k:Nat) (t:Tm) (vars dims:Int) (bound:Bool) (Z:Out UU->Option S)
theorem adU (x11 i12 Z5): ∀n v14,(iC hd k).lp Z 38 [Z5] n (SB x11 t vars i12 dims bound v14)=pU hd k (a_ Z) (fun i12=>Z5 (Ac t vars dims bound i12)) x11 t vars i12 dims bound n v14:=dO (CA hd k (a_ Z) x11 t vars i12 dims bound (fun i12=>Z5 (Ac t vars dims bound i12)))
theorem adT: ∀n i12,(iC hd k).lp Z 32 [] n (Ac t vars dims bound i12)=lE hd k (a_ Z) t vars dims bound n i12:=dO (fun own=>xA hd k (a_ Z) t vars dims bound (fun x11 i12 v14=>pU hd k (a_ Z) own x11 t vars i12 dims bound k v14) own) rfl (fun _=>rfl) fun r i12=>ak (b:=xA hd k (a_ Z) t vars dims bound (fun x11 i12 v14=>(iC hd k).lp Z 38 [r] k (SB x11 t vars i12 dims bound v14)) (fun i12=>r (Ac t vars dims bound i12)) i12) (by kernel_rfl) (by simp only [adU])
theorem adS: ∀n i9,(iC hd k).lp Z 24 [] n (Lb t vars dims bound i9)=n9 hd k (a_ Z) t vars dims bound n i9:=dO (fun own=>xz hd k (a_ Z) t vars dims bound (fun i12=>lE hd k (a_ Z) t vars dims bound k i12) own) rfl (fun _=>rfl) fun r i9=>ak (b:=xz hd k (a_ Z) t vars dims bound (fun i12=>(iC hd k).lp Z 32 [] k (Ac t vars dims bound i12)) (fun i9=>r (Lb t vars dims bound i9)) i9) (by kernel_rfl) (by simp only [adT])
theorem adR: ∀n,(iC hd k).jn Z 1000021 [] n (SA t vars dims bound)=vo hd k (a_ Z) t vars dims bound n:=mG (Cz hd k (a_ Z) t vars dims bound (fun i9=>n9 hd k (a_ Z) t vars dims bound k i9)) rfl (fun _=>rfl) (ak (b:=Cz hd k (a_ Z) t vars dims bound (fun i9=>(iC hd k).lp Z 24 [] k (Lb t vars dims bound i9))) (by kernel_rfl) (by simp only [adS]))
theorem adQ: ∀n,(iC hd k).jn Z 1000010 [] n (Sz t vars dims bound)=vn hd k (a_ Z) t vars dims bound n:=mG (xy hd k (a_ Z) t vars dims bound (vo hd k (a_ Z) t vars dims bound k)) rfl (fun _=>rfl) (ak (b:=xy hd k (a_ Z) t vars dims bound ((iC hd k).jn Z 1000021 [] k (SA t vars dims bound))) (by kernel_rfl) (by simp only [adR]))
theorem adP: ∀n,(iC hd k).jn Z 1000008 [] n (Sy t vars dims bound)=zM hd k (a_ Z) t vars dims bound n:=mG (xx hd k (a_ Z) t vars dims bound (vn hd k (a_ Z) t vars dims bound k)) rfl (fun _=>rfl) (ak (b:=xx hd k (a_ Z) t vars dims bound ((iC hd k).jn Z 1000010 [] k (Sz t vars dims bound))) (by kernel_rfl) (by simp only [adQ]))
theorem adO: ∀n,(iC hd k).jn Z 1000003 [] n (Sx t vars dims bound)=Fz hd k (a_ Z) t vars dims bound n:=mG (Cy hd k (a_ Z) t vars dims bound (zM hd k (a_ Z) t vars dims bound k)) rfl (fun _=>rfl) (ak (b:=Cy hd k (a_ Z) t vars dims bound ((iC hd k).jn Z 1000008 [] k (Sy t vars dims bound))) (by kernel_rfl) (by simp only [adP]))
end
theorem QQ (o:Obj) (ho:ao o): ∀k:Nat,Tl o 87 (Ma (eC k:gu S))
 |0=>fT fun t vars dims bound Z x h=>by cases h
 |k+1=>ap (iC (eC k) k) ⟨QQ o ho k,PT k ho,ahx k ho,ahz k ho,nM k ho,EU k ho,ahF k ho,zj k ho,EV k ho,trivial⟩ func87 fun t vars dims bound Z x h=>ak (b:=Od (eC k) k (a_ Z) ((iC (eC k) k).jn Z 1000003 [] k (Sx t vars dims bound)) t vars dims bound) (by kernel_rfl) (ak (by simp only [adO];rfl) h)
def wk:Rw S:=am eh xn fun t Z=>ab k (pk k t) (be Z)
def aaR:Fx S:=fp 14 [(86,Vg k),(87,Ma (eC k))] [] k f36 0
theorem zk (ho:ao o):Tl o 36 (wk k:Rw S):=ap (aaR k) ⟨ahw k ho,QQ o ho k,trivial⟩ func36 fun t Z x h=>aE h
def Mb:Rw S:=am nX xn fun t a b Z=>ab k (yR k t a b) (be Z)
def aaS:Fx S:=fp 21 [(36,wk k)] [] k f176 0
theorem PZ (ho:ao o):Tl o 176 (Mb k:Rw S):=ap (aaS k) ⟨zk k ho,trivial⟩ func176 fun t a b Z x h=>aE h
def kO:Rw S:=am ir xn fun a_e Z=>ab k (e_ k a_e) (F8 Z)
def aaT:Fx S:=fx 6 (fun _=>[]) (fun _=>false) [] [] k f89 true [] 0
theorem lv (ho:ao o):Tl o 89 (kO k:Rw S):=ap (aaT k) trivial func89 fun a_e Z x h=>aE h
def Vq:Rw S:=am Rn xn fun s a_from a_by Z=>ab k (pf k s a_from a_by) (AG Z)
def HR:Fx S:=fp 48 [(248,sW k),(291,sV k)] [(5,⟨[(1,aa),(2,aa),(8,ar 100008),(9,aa)],[]⟩,aG 6 23)] k f292 0
def SC (a_from a_by:Int) (l8:List Int) (v9:Int):St UU:=⟨[(1,(iI a_from)),(2,(iI a_by)),(8,(.own 100008 0)),(9,(iI v9))],[],[(100008,⟨0,ET.I,l8⟩)],[(100008,.wr)]⟩
section
variable (k:Nat) (s a_from a_by:Int) (Z:Out UU->Option S)
theorem adV: ∀n l8 v9,(HR k).lp Z 5 [] n (SC a_from a_by l8 v9)=rX k (AG Z) a_from a_by n l8 v9:=bh (Cf k (AG Z) a_from a_by)
end
theorem ahG (ho:ao o):Tl o 292 (Vq k:Rw S):=ap (HR k) ⟨ut k ho,ur k ho,trivial⟩ func292 fun s a_from a_by Z x h=>ak (b:=Bn k (AG Z) (fun l8 v9=>(HR k).lp Z 5 [] k (SC a_from a_by l8 v9)) s a_from a_by) (by kernel_rfl) (ak (by simp only [adV];rfl) (bp h))
def Vr:Rw S:=am Rp xn fun c a_from a_by Z=>ab k (Ef k c a_from a_by) (Uo Z)
def aaU:Fx S:=fp 42 [(287,L8 k),(292,Vq k)] [] k f251 0
theorem ahH (ho:ao o):Tl o 251 (Vr k:Rw S):=ap (aaU k) ⟨PW k ho,ahG k ho,trivial⟩ func251 fun c a_from a_by Z x h=>aE h
def wl:Rw S:=am KA xn fun f a_from a_by Z=>ab k (nC k f a_from a_by) (a8 Z)
def HS:Fx S:=fp 42 [(171,mW k),(246,qn k),(251,Vr k)] [(5,⟨[(0,aa),(1,aa),(2,aa),(8,ar 100008),(9,aa)],[]⟩,aG 6 23)] k f179 0
def SD (f:List Cl) (a_from a_by:Int) (out8:List Cl) (i9:Int):St UU:=⟨[(0,(sC f)),(1,(iI a_from)),(2,(iI a_by)),(8,(.own 100008 0)),(9,(iI i9))],[],[(100008,⟨0,ET.C,out8⟩)],[(100008,.wr)]⟩
section
variable (k:Nat) (f:List Cl) (a_from a_by:Int) (Z:Out UU->Option S)
theorem adW: ∀n out8 i9,(HS k).lp Z 5 [] n (SD f a_from a_by out8 i9)=vh k (a8 Z) f a_from a_by n out8 i9:=bh (Cp k (a8 Z) f a_from a_by)
end
theorem zl (ho:ao o):Tl o 179 (wl k:Rw S):=ap (HS k) ⟨nM k ho,rA k ho,ahH k ho,trivial⟩ func179 fun f a_from a_by Z x h=>ak (b:=N4 k (a8 Z) (fun out8 i9=>(HS k).lp Z 5 [] k (SD f a_from a_by out8 i9)) f a_from a_by) (by kernel_rfl) (ak (by simp only [adW];rfl) (bp h))
def Vs:Rw S:=am KA xn fun f a_from a_by Z=>ab k (yQ k f a_from a_by) (a8 Z)
def aaV:Fx S:=fp 17 [(179,wl k)] [] k f250 0
theorem ahI (ho:ao o):Tl o 250 (Vs k:Rw S):=ap (aaV k) ⟨zl k ho,trivial⟩ func250 fun f a_from a_by Z x h=>aE h
def wm (hd:jE S):Rw S:=am akM xn fun t v vby d dby Z=>hd t v vby d dby (aV Z)
def nn (hd:jE S) (k:Nat):Fx S:=fp 174 [(89,kO k),(174,wj k),(175,AQ k),(178,wm hd),(250,Vs k)] [(1000006,⟨[(1,aa),(2,aa),(3,aa),(4,aa),(5,aa),(10,aa),(11,aa)],[(5,[aa,aa,aa,aa,aa,aa]),(10,[aa,aa,aa,ar 200643,ar 200644,ar 200645]),(11,[aa,aa,aa,ar 200707,ar 200708,ar 200709])]⟩,aG 3 7),(11,⟨[(1,aa),(2,aa),(3,aa),(4,aa),(5,aa),(10,aa),(11,aa),(14,aa)],[(5,[aa,aa,aa,aa,aa,aa]),(10,[aa,aa,aa,ar 200643,ar 200644,ar 200645]),(11,[aa,aa,aa,aa,ar 200708,ar 200709])]⟩,aG 9 191),(19,⟨[(1,aa),(2,aa),(3,aa),(4,aa),(5,aa),(10,aa),(11,aa),(18,aa)],[(5,[aa,aa,aa,aa,aa,aa]),(10,[aa,aa,aa,ar 200643,ar 200644,ar 200645]),(11,[aa,aa,aa,aa,ar 200708,ar 200709])]⟩,aG 10 383),(26,⟨[(1,aa),(2,aa),(3,aa),(4,aa),(5,aa),(10,aa),(11,aa),(18,aa),(21,aa),(22,aa)],[(5,[aa,aa,aa,aa,aa,aa]),(10,[aa,aa,aa,ar 200643,ar 200644,ar 200645]),(11,[aa,aa,aa,aa,ar 200708,ar 200709]),(21,[aa,ar 201345])]⟩,aG 20 379263)] k f178 0
def SE (t:Tm) (v vby d dby:Int) (bK:Int):St UU:=⟨[(1,(iI v)),(2,(iI vby)),(3,(iI d)),(4,(iI dby)),(5,(pt 5)),(10,(pt 10)),(11,(pt 11))],[(5,bT t),(10,.cells [(iI 0),(iI 0),cx,(.own 200643 0),(.own 200644 0),(.own 200645 0)]),(11,.cells [(iI t.kind),(iI bK),(.str t.name),(.own 200707 0),(.own 200708 0),(.own 200709 0)])],[(200709,b_),(200708,cu),(200707,cq),(200645,b_),(200644,cu),(200643,cq)],[(200709,.wr),(200708,.wr),(200707,.wr),(200645,.wr),(200644,.wr),(200643,.wr)]⟩
def Lc (t:Tm) (bK:Int) (r2:List Cl×Int) (v vby d dby:Int) (b11_4:List Tm) (i14:Int):St UU:=⟨[(1,(iI v)),(2,(iI vby)),(3,(iI d)),(4,(iI dby)),(5,(pt 5)),(10,(pt 10)),(11,(pt 11)),(14,(iI i14))],[(5,bT t),(10,.cells [(iI 0),(iI 0),cx,(.own 200643 0),(.own 200644 0),(.own 200645 0)]),(11,.cells [(iI t.kind),(iI bK),(.str t.name),(sC r2.1),(.own 200708 0),(.own 200709 0)])],[(200709,b_),(200708,⟨0,ET.T,b11_4⟩),(200645,b_),(200644,cu),(200643,cq)],[(200709,.wr),(200708,.wr),(200645,.wr),(200644,.wr),(200643,.wr)]⟩
def Ad (t:Tm) (bK:Int) (r2:List Cl×Int) (b11_4:List Tm) (v vby d dby:Int) (b11_5:List (Br Tm)) (i18:Int):St UU:=⟨[(1,(iI v)),(2,(iI vby)),(3,(iI d)),(4,(iI dby)),(5,(pt 5)),(10,(pt 10)),(11,(pt 11)),(18,(iI i18))],[(5,bT t),(10,.cells [(iI 0),(iI 0),cx,(.own 200643 0),(.own 200644 0),(.own 200645 0)]),(11,.cells [(iI t.kind),(iI bK),(.str t.name),(sC r2.1),(.own 200708 0),(.own 200709 0)])],[(200709,⟨0,ET.B,b11_5⟩),(200708,⟨0,ET.T,b11_4⟩),(200645,b_),(200644,cu),(200643,cq)],[(200709,.wr),(200708,.wr),(200645,.wr),(200644,.wr),(200643,.wr)]⟩
def SF (t:Tm) (bK:Int) (r2:List Cl×Int) (b11_4:List Tm) (b11_5:List (Br Tm)) (r9:List Cl×Int) (v i18 vby d dby:Int) (b21_1:List Tm) (v22:Int):St UU:=⟨[(1,(iI v)),(2,(iI vby)),(3,(iI d)),(4,(iI dby)),(5,(pt 5)),(10,(pt 10)),(11,(pt 11)),(18,(iI i18)),(21,(pt 21)),(22,(iI v22))],[(5,bT t),(10,.cells [(iI 0),(iI 0),cx,(.own 200643 0),(.own 200644 0),(.own 200645 0)]),(11,.cells [(iI t.kind),(iI bK),(.str t.name),(sC r2.1),(.own 200708 0),(.own 200709 0)]),(21,.cells [(sC r9.1),(.own 201345 0)])],[(201345,⟨0,ET.T,b21_1⟩),(200709,⟨0,ET.B,b11_5⟩),(200708,⟨0,ET.T,b11_4⟩),(200645,b_),(200644,cu),(200643,cq)],[(201345,.wr),(200709,.wr),(200708,.wr),(200645,.wr),(200644,.wr),(200643,.wr)]⟩
section
variable (hd:jE S) (k:Nat) (t:Tm) (v vby d dby:Int) (Z:Out UU->Option S)
theorem ad0 (bK r2 b11_4 b11_5 r9 i18 Z2): ∀n b21_1 v22,(nn hd k).lp Z 26 [Z2] n (SF t bK r2 b11_4 b11_5 r9 v i18 vby d dby b21_1 v22)=mK hd k (aV Z) (fun b11_5 i18=>Z2 (Ad t bK r2 b11_4 v vby d dby b11_5 i18)) t bK r2 b11_4 b11_5 r9 v i18 vby d dby n b21_1 v22:=bh (CI hd k (aV Z) t bK r2 b11_4 b11_5 r9 v i18 vby d dby (fun b11_5 i18=>Z2 (Ad t bK r2 b11_4 v vby d dby b11_5 i18)))
theorem adZ (bK r2 b11_4): ∀n b11_5 i18,(nn hd k).lp Z 19 [] n (Ad t bK r2 b11_4 v vby d dby b11_5 i18)=iW hd k (aV Z) t bK r2 b11_4 v vby d dby n b11_5 i18:=bh (fun own=>xO hd k (aV Z) t bK r2 b11_4 v vby d dby (fun b11_5 r9 i18 b21_1 v22=>mK hd k (aV Z) own t bK r2 b11_4 b11_5 r9 v i18 vby d dby k b21_1 v22) own) rfl (fun _=>rfl) fun r b11_5 i18=>ak (b:=xO hd k (aV Z) t bK r2 b11_4 v vby d dby (fun b11_5 r9 i18 b21_1 v22=>(nn hd k).lp Z 26 [r] k (SF t bK r2 b11_4 b11_5 r9 v i18 vby d dby b21_1 v22)) (fun b11_5 i18=>r (Ad t bK r2 b11_4 v vby d dby b11_5 i18)) b11_5 i18) (by kernel_rfl) (by simp only [ad0])
theorem adY (bK r2): ∀n b11_4 i14,(nn hd k).lp Z 11 [] n (Lc t bK r2 v vby d dby b11_4 i14)=lG hd k (aV Z) t bK r2 v vby d dby n b11_4 i14:=bh (fun own=>xN hd k (aV Z) t bK r2 v vby d dby (fun b11_4 b11_5 i18=>iW hd k (aV Z) t bK r2 b11_4 v vby d dby k b11_5 i18) own) rfl (fun _=>rfl) fun r b11_4 i14=>ak (b:=xN hd k (aV Z) t bK r2 v vby d dby (fun b11_4 b11_5 i18=>(nn hd k).lp Z 19 [] k (Ad t bK r2 b11_4 v vby d dby b11_5 i18)) (fun b11_4 i14=>r (Lc t bK r2 v vby d dby b11_4 i14)) b11_4 i14) (by kernel_rfl) (by simp only [adZ])
theorem adX: ∀n bK,(nn hd k).jn Z 1000006 [] n (SE t v vby d dby bK)=FC hd k (aV Z) t v vby d dby n bK:=rL (xM hd k (aV Z) t v vby d dby (fun bK r2 b11_4 i14=>lG hd k (aV Z) t bK r2 v vby d dby k b11_4 i14)) rfl (fun _=>rfl) (fun bK=>ak (b:=xM hd k (aV Z) t v vby d dby (fun bK r2 b11_4 i14=>(nn hd k).lp Z 11 [] k (Lc t bK r2 v vby d dby b11_4 i14)) bK) (by kernel_rfl) (by simp only [adY]))
end
theorem zB (o:Obj) (ho:ao o): ∀k:Nat,Tl o 178 (wm (dI k:jE S))
 |0=>fT fun t v vby d dby Z x h=>by cases h
 |k+1=>ap (nn (dI k) k) ⟨lv k ho,zj k ho,EV k ho,zB o ho k,ahI k ho,trivial⟩ func178 fun t v vby d dby Z x h=>ak (b:=Oo (dI k) k (aV Z) (fun bK=>(nn (dI k) k).jn Z 1000006 [] k (SE t v vby d dby bK)) t v vby d dby) (by kernel_rfl) (ak (by simp only [adX];rfl) h)
def Gt:Rw S:=am eh xn fun t Z=>ab k (nE k t) (dQ Z)
def aaW:Fx S:=fp 12 [] [] k f177 0
theorem JK (ho:ao o):Tl o 177 (Gt k:Rw S):=ap (aaW k) trivial func177 fun t Z x h=>aE h
def Mc:Rw S:=am nX xn fun t a_from a_by Z=>ab k (yP k t a_from a_by) (dQ Z)
def aaX:Fx S:=fp 26 [(176,Mb k),(177,Gt k),(178,wm (dI k))] [] k f88 0
theorem P0 (ho:ao o):Tl o 88 (Mc k:Rw S):=ap (aaX k) ⟨PZ k ho,JK k ho,zB o ho k,trivial⟩ func88 fun t a_from a_by Z x h=>aE h
def AR:Rw S:=am pH xn fun s i Z=>ab k (kw k s i) (dl Z)
def HT:Fx S:=fp 31 [(248,sW k),(291,sV k)] [(4,⟨[(1,aa),(5,ar 100005),(6,ar 100006),(7,aa)],[]⟩,aG 6 23)] k f318 0
def SG (i:Int) (r1:List Int) (out6:List Int) (v7:Int):St UU:=⟨[(1,(iI i)),(5,(.own 100005 0)),(6,(.own 100006 0)),(7,(iI v7))],[],[(100006,⟨0,ET.I,out6⟩),(100005,⟨0,ET.I,r1⟩)],[(100006,.wr),(100005,.wr)]⟩
section
variable (k:Nat) (s i:Int) (Z:Out UU->Option S)
theorem ad1 (r1): ∀n out6 v7,(HT k).lp Z 4 [] n (SG i r1 out6 v7)=va k (dl Z) i r1 n out6 v7:=bh (Ch k (dl Z) i r1)
end
theorem EW (ho:ao o):Tl o 318 (AR k:Rw S):=ap (HT k) ⟨ut k ho,ur k ho,trivial⟩ func318 fun s i Z x h=>ak (b:=NU k (dl Z) (fun r1 out6 v7=>(HT k).lp Z 4 [] k (SG i r1 out6 v7)) s i) (by kernel_rfl) (ak (by simp only [ad1];rfl) (bp h))
def AT:Rw S:=am gJ xn fun l Z=>ab k (rm k l) (a8 Z)
def HV:Fx S:=fp 29 [(246,qn k),(247,L_ k)] [(3,⟨[(0,aa),(4,ar 100004),(5,aa)],[]⟩,aG 5 11)] k f334 0
def SI (l:List Cl) (out4:List Cl) (i5:Int):St UU:=⟨[(0,(sC l)),(4,(.own 100004 0)),(5,(iI i5))],[],[(100004,⟨0,ET.C,out4⟩)],[(100004,.wr)]⟩
section
variable (k:Nat) (l:List Cl) (Z:Out UU->Option S)
theorem ad4: ∀n out4 i5,(HV k).lp Z 3 [] n (SI l out4 i5)=vm k (a8 Z) l n out4 i5:=bh (Cx k (a8 Z) l)
end
theorem EX (ho:ao o):Tl o 334 (AT k:Rw S):=ap (HV k) ⟨rA k ho,PY k ho,trivial⟩ func334 fun l Z x h=>ak (b:=Oc k (a8 Z) (fun out4 i5=>(HV k).lp Z 3 [] k (SI l out4 i5)) l) (by kernel_rfl) (ak (by simp only [ad4];rfl) (bp h))
def Vu:Rw S:=am gJ xn fun f Z=>ab k (Ek k f) (a8 Z)
def aaY:Fx S:=fp 11 [(171,mW k),(334,AT k)] [] k f319 0
theorem ahK (ho:ao o):Tl o 319 (Vu k:Rw S):=ap (aaY k) ⟨nM k ho,EX k ho,trivial⟩ func319 fun f Z x h=>aE h
def Vv:Rw S:=am rM xn fun c Z=>ab k (Ej k c) (jt Z)
def HW:Fx S:=fp 37 [(246,qn k),(290,qr k),(291,sV k)] [(3,⟨[(1,aa),(3,ar 100003),(4,aa)],[(1,[aa,aa])]⟩,aG 5 11)] k f336 0
def SJ (c:Cl) (out3:List Cl) (i4:Int):St UU:=⟨[(1,(pt 1)),(3,(.own 100003 0)),(4,(iI i4))],[(1,bC c)],[(100003,⟨0,ET.C,out3⟩)],[(100003,.wr)]⟩
section
variable (k:Nat) (c:Cl) (Z:Out UU->Option S)
theorem ad5: ∀n out3 i4,(HW k).lp Z 3 [] n (SJ c out3 i4)=vk k (jt Z) c n out3 i4:=bh (Ct k (jt Z) c)
end
theorem ahL (ho:ao o):Tl o 336 (Vv k:Rw S):=ap (HW k) ⟨rA k ho,rB k ho,ur k ho,trivial⟩ func336 fun c Z x h=>ak (b:=N8 k (jt Z) (fun out3 i4=>(HW k).lp Z 3 [] k (SJ c out3 i4)) c) (by kernel_rfl) (ak (by simp only [ad5];rfl) (bp h))
def Vw:Rw S:=am pH xn fun s i Z=>ab k (yG k s i) (dl Z)
def aaZ:Fx S:=fp 21 [(248,sW k),(291,sV k),(318,AR k)] [] k f342 0
theorem ahM (ho:ao o):Tl o 342 (Vw k:Rw S):=ap (aaZ k) ⟨ut k ho,ur k ho,EW k ho,trivial⟩ func342 fun s i Z x h=>aE h
def Vx:Rw S:=am akN xn fun a b Z=>ab k (yK k a b) (dl Z)
def HX:Fx S:=fp 22 [(248,sW k),(342,Vw k)] [(3,⟨[(0,aa),(5,ar 100005),(6,aa)],[]⟩,aG 5 11)] k f341 0
def SK (r1:List Int) (a0 i6:Int):St UU:=⟨[(0,(iU a0)),(5,(.own 100005 0)),(6,(iI i6))],[],[(100005,⟨0,ET.I,r1⟩)],[(100005,.wr)]⟩
section
variable (k:Nat) (a b:Int) (Z:Out UU->Option S)
theorem ad6 (r1): ∀n a0 i6,(HX k).lp Z 3 [] n (SK r1 a0 i6)=vg k (dl Z) r1 n a0 i6:=bh (Cn k (dl Z) r1)
end
theorem ahN (ho:ao o):Tl o 341 (Vx k:Rw S):=ap (HX k) ⟨ut k ho,ahM k ho,trivial⟩ func341 fun a b Z x h=>ak (b:=NZ k (dl Z) (fun r1 a0 i6=>(HX k).lp Z 3 [] k (SK r1 a0 i6)) a b) (by kernel_rfl) (ak (by simp only [ad6];rfl) (bp h))
def Md:Rw S:=am zI xn fun a b Z=>ab k (yI k a b) (Uu Z)
def aa0:Fx S:=fp 16 [(341,Vx k)] [] k f335 0
theorem P1 (ho:ao o):Tl o 335 (Md k:Rw S):=ap (aa0 k) ⟨ahN k ho,trivial⟩ func335 fun a b Z x h=>aE h
def Me:Rw S:=am mH xn fun f g Z=>ab k (nD k f g) (a8 Z)
def wV:Fx S:=fp 45 [(171,mW k),(246,qn k),(335,Md k)] [(5,⟨[(0,aa),(1,aa),(6,ar 100006),(7,aa)],[]⟩,aG 6 23),(8,⟨[(0,aa),(1,aa),(6,ar 100006),(7,aa),(8,aa)],[]⟩,aG 12 1175)] k f323 0
def Ae (f g:List Cl) (out6:List Cl) (i7:Int):St UU:=⟨[(0,(sC f)),(1,(sC g)),(6,(.own 100006 0)),(7,(iI i7))],[],[(100006,⟨0,ET.C,out6⟩)],[(100006,.wr)]⟩
def SL (f g:List Cl) (i7:Int) (out6':List Cl) (v8:Int):St UU:=⟨[(0,(sC f)),(1,(sC g)),(6,(.own 100006 0)),(7,(iI i7)),(8,(iI v8))],[],[(100006,⟨0,ET.C,out6'⟩)],[(100006,.wr)]⟩
section
variable (k:Nat) (f g:List Cl) (Z:Out UU->Option S)
theorem ad8 (i7 Z0): ∀n out6' v8,(wV k).lp Z 8 [Z0] n (SL f g i7 out6' v8)=r_ k (a8 Z) (fun out6 i7=>Z0 (Ae f g out6 i7)) f g i7 n out6' v8:=bh (Cq k (a8 Z) f g i7 (fun out6 i7=>Z0 (Ae f g out6 i7)))
theorem ad7: ∀n out6 i7,(wV k).lp Z 5 [] n (Ae f g out6 i7)=pR k (a8 Z) f g n out6 i7:=bh (fun own=>xu k (a8 Z) f g (fun i7 out6' v8=>r_ k (a8 Z) own f g i7 k out6' v8) own) rfl (fun _=>rfl) fun r out6 i7=>ak (b:=xu k (a8 Z) f g (fun i7 out6' v8=>(wV k).lp Z 8 [r] k (SL f g i7 out6' v8)) (fun out6 i7=>r (Ae f g out6 i7)) out6 i7) (by kernel_rfl) (by simp only [ad8])
end
theorem P2 (ho:ao o):Tl o 323 (Me k:Rw S):=ap (wV k) ⟨nM k ho,rA k ho,P1 k ho,trivial⟩ func323 fun f g Z x h=>ak (b:=N5 k (a8 Z) (fun out6 i7=>(wV k).lp Z 5 [] k (Ae f g out6 i7)) f g) (by kernel_rfl) (ak (by simp only [ad7];rfl) (bp h))
def Mf:Rw S:=am gJ xn fun f Z=>ab k (uc k f) (a8 Z)
def HY:Fx S:=fp 34 [(171,mW k),(323,Me k),(336,Vv k)] [(6,bG [0,4,5,6] [],aG 7 47)] k f324 0
def SM (f:List Cl) (v4:List Cl) (v5 i6:Int):St UU:=⟨[(0,(sC f)),(4,(sC v4)),(5,(iI v5)),(6,(iI i6))],[],[],[]⟩
section
variable (k:Nat) (f:List Cl) (Z:Out UU->Option S)
theorem ad9: ∀n v4 v5 i6,(HY k).lp Z 6 [] n (SM f v4 v5 i6)=vi k (a8 Z) f n v4 v5 i6:=h_ (Cr k (a8 Z) f)
end
theorem P3 (ho:ao o):Tl o 324 (Mf k:Rw S):=ap (HY k) ⟨nM k ho,P2 k ho,ahL k ho,trivial⟩ func324 fun f Z x h=>ak (b:=N6 k (a8 Z) (fun v4 v5 i6=>(HY k).lp Z 6 [] k (SM f v4 v5 i6)) f) (by kernel_rfl) (ak (by simp only [ad9];rfl) (bp h))
def Vy:Rw S:=am gJ xn fun f Z=>ab k (yM k f) (a8 Z)
def aa1:Fx S:=fp 18 [(324,Mf k),(334,AT k)] [] k f320 0
theorem ahO (ho:ao o):Tl o 320 (Vy k:Rw S):=ap (aa1 k) ⟨P3 k ho,EX k ho,trivial⟩ func320 fun f Z x h=>aE h
def Vz:Rw S:=am mH xn fun f g Z=>ab k (pi k f g) (a8 Z)
def wW:Fx S:=fp 45 [(172,AP k),(334,AT k),(335,Md k)] [(5,⟨[(0,aa),(1,aa),(6,ar 100006),(7,aa)],[]⟩,aG 6 23),(8,⟨[(0,aa),(1,aa),(6,ar 100006),(7,aa),(8,aa)],[]⟩,aG 12 1175)] k f321 0
def Af (f g:List Cl) (out6:List Cl) (i7:Int):St UU:=⟨[(0,(sC f)),(1,(sC g)),(6,(.own 100006 0)),(7,(iI i7))],[],[(100006,⟨0,ET.C,out6⟩)],[(100006,.wr)]⟩
def SN (f g:List Cl) (i7:Int) (out6':List Cl) (v8:Int):St UU:=⟨[(0,(sC f)),(1,(sC g)),(6,(.own 100006 0)),(7,(iI i7)),(8,(iI v8))],[],[(100006,⟨0,ET.C,out6'⟩)],[(100006,.wr)]⟩
section
variable (k:Nat) (f g:List Cl) (Z:Out UU->Option S)
theorem aea (i7 Z0): ∀n out6' v8,(wW k).lp Z 8 [Z0] n (SN f g i7 out6' v8)=sa k (a8 Z) (fun out6 i7=>Z0 (Af f g out6 i7)) f g i7 n out6' v8:=bh (Cu k (a8 Z) f g i7 (fun out6 i7=>Z0 (Af f g out6 i7)))
theorem ad_: ∀n out6 i7,(wW k).lp Z 5 [] n (Af f g out6 i7)=pT k (a8 Z) f g n out6 i7:=bh (fun own=>xw k (a8 Z) f g (fun i7 out6' v8=>sa k (a8 Z) own f g i7 k out6' v8) own) rfl (fun _=>rfl) fun r out6 i7=>ak (b:=xw k (a8 Z) f g (fun i7 out6' v8=>(wW k).lp Z 8 [r] k (SN f g i7 out6' v8)) (fun out6 i7=>r (Af f g out6 i7)) out6 i7) (by kernel_rfl) (by simp only [aea])
end
theorem ahP (ho:ao o):Tl o 321 (Vz k:Rw S):=ap (wW k) ⟨EU k ho,EX k ho,P1 k ho,trivial⟩ func321 fun f g Z x h=>ak (b:=N9 k (a8 Z) (fun out6 i7=>(wW k).lp Z 5 [] k (Af f g out6 i7)) f g) (by kernel_rfl) (ak (by simp only [ad_];rfl) (bp h))
def VA:Rw S:=am mH xn fun f g Z=>ab k (kx k f g) (a8 Z)
def aa3:Fx S:=fp 22 [(172,AP k),(334,AT k)] [] k f322 0
theorem ahQ (ho:ao o):Tl o 322 (VA k:Rw S):=ap (aa3 k) ⟨EU k ho,EX k ho,trivial⟩ func322 fun f g Z x h=>aE h
def VB:Rw S:=am Fw xn fun f i a_r Z=>ab k (Em k f i a_r) (a8 Z)
def HZ:Fx S:=fp 90 [(171,mW k),(172,AP k),(290,qr k),(318,AR k),(319,Vu k),(320,Vy k),(321,Vz k),(322,VA k)] [(5,bG [0,1,2,8,9] [],aG 6 23)] k f293 0
def SP (f:List Cl) (i:Int) (a_r:List Cl) (v8:List Cl) (v9:Int):St UU:=⟨[(0,(sC f)),(1,(iI i)),(2,(sC a_r)),(8,(sC v8)),(9,(iI v9))],[],[],[]⟩
section
variable (k:Nat) (f:List Cl) (i:Int) (a_r:List Cl) (Z:Out UU->Option S)
theorem aec: ∀n v8 v9,(HZ k).lp Z 5 [] n (SP f i a_r v8 v9)=sb k (a8 Z) f i a_r n v8 v9:=bh (Cv k (a8 Z) f i a_r)
end
theorem ahR (ho:ao o):Tl o 293 (VB k:Rw S):=ap (HZ k) ⟨nM k ho,EU k ho,rB k ho,EW k ho,ahK k ho,ahO k ho,ahP k ho,ahQ k ho,trivial⟩ func293 fun f i a_r Z x h=>ak (b:=N_ k (a8 Z) (fun v8 v9=>(HZ k).lp Z 5 [] k (SP f i a_r v8 v9)) f i a_r) (by kernel_rfl) (ak (by simp only [aec];rfl) (bp h))
def VC:Rw S:=am mH xn fun f g Z=>ab k (Eh k f g) (a8 Z)
def aa4:Fx S:=fp 22 [(171,mW k),(246,qn k)] [] k f325 0
theorem ahS (ho:ao o):Tl o 325 (VC k:Rw S):=ap (aa4 k) ⟨nM k ho,rA k ho,trivial⟩ func325 fun f g Z x h=>aE h
def VE:Rw S:=am Fw xn fun f i a_r Z=>ab k (Ei k f i a_r) (a8 Z)
def wX:Fx S:=fp 93 [(171,mW k),(290,qr k),(318,AR k),(323,Me k),(324,Mf k),(325,VC k)] [(5,bG [0,1,2,8,9] [],aG 6 23),(1000017,bG [0,1,2,8,9,11,12] [],aG 15 31895)] k f294 0
def Ag (f:List Cl) (i:Int) (a_r:List Cl) (v8:List Cl) (v9:Int):St UU:=⟨[(0,(sC f)),(1,(iI i)),(2,(sC a_r)),(8,(sC v8)),(9,(iI v9))],[],[],[]⟩
def SQ (f:List Cl) (i:Int) (a_r v8:List Cl) (v9:Int) (g11:List Cl) (v12:Int):St UU:=⟨[(0,(sC f)),(1,(iI i)),(2,(sC a_r)),(8,(sC v8)),(9,(iI v9)),(11,(sC g11)),(12,(iI v12))],[],[],[]⟩
section
variable (k:Nat) (f:List Cl) (i:Int) (a_r:List Cl) (Z:Out UU->Option S)
theorem aee (v8 v9 Z0): ∀n g11 v12,(wX k).jn Z 1000017 [Z0] n (SQ f i a_r v8 v9 g11 v12)=vj k (a8 Z) (fun v8 v9=>Z0 (Ag f i a_r v8 v9)) f i a_r v8 v9 n g11 v12:=Q7 (IH k (a8 Z) f i a_r v8 v9 (fun v8 v9=>Z0 (Ag f i a_r v8 v9)))
theorem aed: ∀n v8 v9,(wX k).lp Z 5 [] n (Ag f i a_r v8 v9)=pS k (a8 Z) f i a_r n v8 v9:=bh (fun own=>xv k (a8 Z) f i a_r (fun v8 v9 g11 v12=>vj k (a8 Z) own f i a_r v8 v9 k g11 v12) own) rfl (fun _=>rfl) fun r v8 v9=>ak (b:=xv k (a8 Z) f i a_r (fun v8 v9 g11 v12=>(wX k).jn Z 1000017 [r] k (SQ f i a_r v8 v9 g11 v12)) (fun v8 v9=>r (Ag f i a_r v8 v9)) v8 v9) (by kernel_rfl) (by simp only [aee])
end
theorem ahT (ho:ao o):Tl o 294 (VE k:Rw S):=ap (wX k) ⟨nM k ho,rB k ho,EW k ho,P2 k ho,P3 k ho,ahS k ho,trivial⟩ func294 fun f i a_r Z x h=>ak (b:=N7 k (a8 Z) (fun v8 v9=>(wX k).lp Z 5 [] k (Ag f i a_r v8 v9)) f i a_r) (by kernel_rfl) (ak (by simp only [aed];rfl) (bp h))
def VF:Rw S:=am akO xn fun f isFace i a_r depth Z=>ab k (yU k f isFace i a_r depth) (a8 Z)
def aa5:Fx S:=fp 48 [(179,wl k),(249,L9 k),(290,qr k),(293,VB k),(294,VE k)] [] k f252 0
theorem ahU (ho:ao o):Tl o 252 (VF k:Rw S):=ap (aa5 k) ⟨zl k ho,PX k ho,rB k ho,ahR k ho,ahT k ho,trivial⟩ func252 fun f isFace i a_r depth Z x h=>aE h
def VG:Rw S:=am pH xn fun s i Z=>ab k (t_ k s i) (dl Z)
def H0:Fx S:=fp 35 [(248,sW k),(291,sV k),(318,AR k)] [(3,⟨[(1,aa),(5,ar 100005),(6,aa)],[]⟩,aG 5 11)] k f295 0
def SR (i:Int) (l5:List Int) (v6:Int):St UU:=⟨[(1,(iI i)),(5,(.own 100005 0)),(6,(iI v6))],[],[(100005,⟨0,ET.I,l5⟩)],[(100005,.wr)]⟩
section
variable (k:Nat) (s i:Int) (Z:Out UU->Option S)
theorem aef: ∀n l5 v6,(H0 k).lp Z 3 [] n (SR i l5 v6)=rW k (dl Z) i n l5 v6:=bh (Ce k (dl Z) i)
end
theorem ahV (ho:ao o):Tl o 295 (VG k:Rw S):=ap (H0 k) ⟨ut k ho,ur k ho,EW k ho,trivial⟩ func295 fun s i Z x h=>ak (b:=NR k (dl Z) (fun l5 v6=>(H0 k).lp Z 3 [] k (SR i l5 v6)) s i) (by kernel_rfl) (ak (by simp only [aef];rfl) (bp h))
def VH:Rw S:=am Ky xn fun f i Z=>ab k (yT k f i) (jt Z)
def H1:Fx S:=fp 37 [(246,qn k),(295,VG k)] [(3,⟨[(0,aa),(1,aa),(5,ar 100005),(6,aa)],[]⟩,aG 5 11)] k f253 0
def SS (f:List Cl) (i:Int) (out5:List Cl) (v6:Int):St UU:=⟨[(0,(sC f)),(1,(iI i)),(5,(.own 100005 0)),(6,(iI v6))],[],[(100005,⟨0,ET.C,out5⟩)],[(100005,.wr)]⟩
section
variable (k:Nat) (f:List Cl) (i:Int) (Z:Out UU->Option S)
theorem aeg: ∀n out5 v6,(H1 k).lp Z 3 [] n (SS f i out5 v6)=vw k (jt Z) f i n out5 v6:=bh (CM k (jt Z) f i)
end
theorem ahW (ho:ao o):Tl o 253 (VH k:Rw S):=ap (H1 k) ⟨rA k ho,ahV k ho,trivial⟩ func253 fun f i Z x h=>ak (b:=Ot k (jt Z) (fun out5 v6=>(H1 k).lp Z 3 [] k (SS f i out5 v6)) f i) (by kernel_rfl) (ak (by simp only [aeg];rfl) (bp h))
def Mg (hd:ld S):Rw S:=am akP xn fun t i a_r depth drop Z=>hd t i a_r depth drop (aV Z)
def qR (hd:ld S) (k:Nat):Fx S:=fp 174 [(89,kO k),(174,wj k),(175,AQ k),(180,Mg hd),(252,VF k),(253,VH k)] [(9,⟨[(1,aa),(2,aa),(3,aa),(4,aa),(5,aa),(10,aa),(11,aa),(14,aa)],[(5,[aa,aa,aa,aa,aa,aa]),(10,[aa,aa,aa,ar 200643,ar 200644,ar 200645]),(11,[aa,aa,aa,aa,ar 200708,ar 200709])]⟩,aG 9 191),(17,⟨[(1,aa),(2,aa),(3,aa),(4,aa),(5,aa),(10,aa),(11,aa),(18,aa)],[(5,[aa,aa,aa,aa,aa,aa]),(10,[aa,aa,aa,ar 200643,ar 200644,ar 200645]),(11,[aa,aa,aa,aa,ar 200708,ar 200709])]⟩,aG 10 383),(27,⟨[(1,aa),(2,aa),(3,aa),(4,aa),(5,aa),(10,aa),(11,aa),(18,aa),(21,aa),(22,aa)],[(5,[aa,aa,aa,aa,aa,aa]),(10,[aa,aa,aa,ar 200643,ar 200644,ar 200645]),(11,[aa,aa,aa,aa,ar 200708,ar 200709]),(21,[aa,ar 201345])]⟩,aG 22 1558911)] k f180 0
def Le (t:Tm) (i:Int) (a_r:List Cl) (depth:Int) (drop:Bool) (ce:List Cl) (b11_4:List Tm) (v14:Int):St UU:=⟨[(1,(iI i)),(2,(sC a_r)),(3,(iI depth)),(4,(.bool drop)),(5,(pt 5)),(10,(pt 10)),(11,(pt 11)),(14,(iI v14))],[(5,bT t),(10,.cells [(iI 0),(iI 0),cx,(.own 200643 0),(.own 200644 0),(.own 200645 0)]),(11,.cells [(iI t.kind),(iI t.n),(.str t.name),(sC ce),(.own 200708 0),(.own 200709 0)])],[(200709,b_),(200708,⟨0,ET.T,b11_4⟩),(200645,b_),(200644,cu),(200643,cq)],[(200709,.wr),(200708,.wr),(200645,.wr),(200644,.wr),(200643,.wr)]⟩
def Ah (t:Tm) (ce:List Cl) (b11_4:List Tm) (i:Int) (a_r:List Cl) (depth:Int) (drop:Bool) (b11_5:List (Br Tm)) (v18:Int):St UU:=⟨[(1,(iI i)),(2,(sC a_r)),(3,(iI depth)),(4,(.bool drop)),(5,(pt 5)),(10,(pt 10)),(11,(pt 11)),(18,(iI v18))],[(5,bT t),(10,.cells [(iI 0),(iI 0),cx,(.own 200643 0),(.own 200644 0),(.own 200645 0)]),(11,.cells [(iI t.kind),(iI t.n),(.str t.name),(sC ce),(.own 200708 0),(.own 200709 0)])],[(200709,⟨0,ET.B,b11_5⟩),(200708,⟨0,ET.T,b11_4⟩),(200645,b_),(200644,cu),(200643,cq)],[(200709,.wr),(200708,.wr),(200645,.wr),(200644,.wr),(200643,.wr)]⟩
def ST (t:Tm) (ce:List Cl) (b11_4:List Tm) (b11_5:List (Br Tm)) (i v18:Int) (a_r:List Cl) (depth:Int) (drop:Bool) (ik:List Cl) (b21_1:List Tm) (v22:Int):St UU:=⟨[(1,(iI i)),(2,(sC a_r)),(3,(iI depth)),(4,(.bool drop)),(5,(pt 5)),(10,(pt 10)),(11,(pt 11)),(18,(iI v18)),(21,(pt 21)),(22,(iI v22))],[(5,bT t),(10,.cells [(iI 0),(iI 0),cx,(.own 200643 0),(.own 200644 0),(.own 200645 0)]),(11,.cells [(iI t.kind),(iI t.n),(.str t.name),(sC ce),(.own 200708 0),(.own 200709 0)]),(21,.cells [(sC ik),(.own 201345 0)])],[(201345,⟨0,ET.T,b21_1⟩),(200709,⟨0,ET.B,b11_5⟩),(200708,⟨0,ET.T,b11_4⟩),(200645,b_),(200644,cu),(200643,cq)],[(201345,.wr),(200709,.wr),(200708,.wr),(200645,.wr),(200644,.wr),(200643,.wr)]⟩
section
variable (hd:ld S) (k:Nat) (t:Tm) (i:Int) (a_r:List Cl) (depth:Int) (drop:Bool) (Z:Out UU->Option S)
theorem aej (ce b11_4 b11_5 v18 Z1): ∀n ik b21_1 v22,(qR hd k).lp Z 27 [Z1] n (ST t ce b11_4 b11_5 i v18 a_r depth drop ik b21_1 v22)=oj hd k (aV Z) (fun b11_5 v18=>Z1 (Ah t ce b11_4 i a_r depth drop b11_5 v18)) t ce b11_4 b11_5 i v18 a_r depth drop n ik b21_1 v22:=h_ (CN hd k (aV Z) t ce b11_4 b11_5 i v18 a_r depth drop (fun b11_5 v18=>Z1 (Ah t ce b11_4 i a_r depth drop b11_5 v18)))
theorem aei (ce b11_4): ∀n b11_5 v18,(qR hd k).lp Z 17 [] n (Ah t ce b11_4 i a_r depth drop b11_5 v18)=lH hd k (aV Z) t ce b11_4 i a_r depth drop n b11_5 v18:=bh (fun own=>xV hd k (aV Z) t ce b11_4 i a_r depth drop (fun b11_5 v18 ik b21_1 v22=>oj hd k (aV Z) own t ce b11_4 b11_5 i v18 a_r depth drop k ik b21_1 v22) own) rfl (fun _=>rfl) fun r b11_5 v18=>ak (b:=xV hd k (aV Z) t ce b11_4 i a_r depth drop (fun b11_5 v18 ik b21_1 v22=>(qR hd k).lp Z 27 [r] k (ST t ce b11_4 b11_5 i v18 a_r depth drop ik b21_1 v22)) (fun b11_5 v18=>r (Ah t ce b11_4 i a_r depth drop b11_5 v18)) b11_5 v18) (by kernel_rfl) (by simp only [aej])
theorem aeh: ∀n ce b11_4 v14,(qR hd k).lp Z 9 [] n (Le t i a_r depth drop ce b11_4 v14)=pY hd k (aV Z) t i a_r depth drop n ce b11_4 v14:=h_ (fun own=>xU hd k (aV Z) t i a_r depth drop (fun ce b11_4 b11_5 v18=>lH hd k (aV Z) t ce b11_4 i a_r depth drop k b11_5 v18) own) rfl (fun _=>rfl) fun r ce b11_4 v14=>ak (b:=xU hd k (aV Z) t i a_r depth drop (fun ce b11_4 b11_5 v18=>(qR hd k).lp Z 17 [] k (Ah t ce b11_4 i a_r depth drop b11_5 v18)) (fun ce b11_4 v14=>r (Le t i a_r depth drop ce b11_4 v14)) ce b11_4 v14) (by kernel_rfl) (by simp only [aei])
end
theorem QR (o:Obj) (ho:ao o): ∀k:Nat,Tl o 180 (Mg (jO k:ld S))
 |0=>fT fun t i a_r depth drop Z x h=>by cases h
 |k+1=>ap (qR (jO k) k) ⟨lv k ho,zj k ho,EV k ho,QR o ho k,ahU k ho,ahW k ho,trivial⟩ func180 fun t i a_r depth drop Z x h=>ak (b:=Ou (jO k) k (aV Z) (fun ce b11_4 v14=>(qR (jO k) k).lp Z 9 [] k (Le t i a_r depth drop ce b11_4 v14)) t i a_r depth drop) (by kernel_rfl) (ak (by simp only [aeh];rfl) h)
def Gu:Rw S:=am KD xn fun t i a_r Z=>ab k (rn k t i a_r) (aV Z)
def aa6:Fx S:=fp 27 [(89,kO k),(179,wl k),(180,Mg (jO k))] [] k f90 0
theorem JL (ho:ao o):Tl o 90 (Gu k:Rw S):=ap (aa6 k) ⟨lv k ho,zl k ho,QR o ho k,trivial⟩ func90 fun t i a_r Z x h=>aE h
def VI:Rw S:=am eh xn fun t Z=>ab k (DU k t) (a_ Z)
def aa8:Fx S:=fp 6 [(9,LS (ky k))] [] k f15 0
theorem ahX (ho:ao o):Tl o 15 (VI k:Rw S):=ap (aa8 k) ⟨QK o ho k,trivial⟩ func15 fun t Z x h=>aE h
def VJ:Rw S:=am zF xn fun kind kids Z=>ab k (jM k kind kids) (AE Z)
def aa9:Fx S:=fx 8 (fun _=>[]) (fun _=>false) [] [] k f39 true [] 0
theorem ahY (ho:ao o):Tl o 39 (VJ k:Rw S):=ap (aa9 k) trivial func39 fun kind kids Z x h=>aE h
def VK:Rw S:=am Kw O3 fun u gA eN eO eP eQ eR eS fH Z=>ab k (DP k u gA eN eO eP eQ eR eS fH) (Ux eN eO eP eQ eR eS fH Z)
def aa_:Fx S:=fp 13 [(56,s8 k),(58,lV k),(95,Mv k)] [] k f97 2
theorem ahZ (ho:ao o):Tl o 97 (VK k:Rw S):=ap (aa_ k) ⟨uy k ho,mz k ho,Qe k ho,trivial⟩ func97 fun u gA eN eO eP eQ eR eS fH Z x h=>aE h
def ap5:Rw S:=am Ra Hq fun bk aL aM aN aO aP aQ c0_7 Z=>ab k (tW k bk aL aM aN aO aP aQ c0_7) (mU aL aM aN aO aP aQ c0_7 Z)
def VL:Rw S:=am Ra Hq fun bk aL aM aN aO aP aQ c0_7 Z=>ab k (tW k bk aL aM aN aO aP aQ c0_7) (Uy Z)
def H2:Fx S:=fp 31 [(59,oH k),(97,VK k)] [(3,⟨[(1,aa),(5,ar 100005),(11,aa),(12,aa),(13,aa)],[(1000000,[aa,aa,aa,aa,aa,aa,aa,aa]),(1000001,[aa])]⟩,aG 5 11)] k f96 2
def SU (aL aM:Int) (aN:ByteArray) (aO:List Cl) (aP:List Tm) (aQ c0_7:List (Br Tm)) (bu v13:Int) (out5:List (Br Tm)):St UU:=⟨[(1,(.func 97 [] [(pt 1000001)])),(5,(.own 100005 0)),(11,(sB c0_7)),(12,(iI c0_7.length)),(13,(iI v13))],[(1000000,.cells [(iI bu),(iI aL),(iI aM),(.str aN),(sC aO),(sT aP),(sB aQ),(sB c0_7)]),(1000001,.cells [(pt 1000000)])],[(100005,⟨0,ET.B,out5⟩)],[(100005,.wr)]⟩
section
variable (k:Nat) (bk aL aM:Int) (aN:ByteArray) (aO:List Cl) (aP:List Tm) (aQ c0_7:List (Br Tm)) (Z:Out UU->Option S)
theorem aek: ∀n bu v13 out5,(H2 k).lp Z 3 [] n (SU aL aM aN aO aP aQ c0_7 bu v13 out5)=u5 k (mU aL aM aN aO aP aQ c0_7 Z) aL aM aN aO aP aQ c0_7 n bu v13 out5:=h_ (B4 k (mU aL aM aN aO aP aQ c0_7 Z) aL aM aN aO aP aQ c0_7)
end
theorem ah1 (ho:ao o):Tl o 96 (ap5 k:Rw S):=ap (H2 k) ⟨py k ho,ahZ k ho,trivial⟩ func96 fun bk aL aM aN aO aP aQ c0_7 Z x h=>ak (b:=NM k (mU aL aM aN aO aP aQ c0_7 Z) (fun bu v13 out5=>(H2 k).lp Z 3 [] k (SU aL aM aN aO aP aQ c0_7 bu v13 out5)) bk aL aM aN aO aP aQ c0_7) (by kernel_rfl) (ak (by simp only [aek];rfl) (bp h))
theorem ah0 (ho:ao o):Tl o 96 (VL k:Rw S):=Za (n:=0) (m:=1) (ah1 k ho) fun bk aL aM aN aO aP aQ c0_7 Z x h=>ak (b:=ab k (tW k bk aL aM aN aO aP aQ c0_7) (mU aL aM aN aO aP aQ c0_7 (Df 0 1 [.cells [(iI bk),(iI aL),(iI aM),(.str aN),(sC aO),(sT aP),(sB aQ),(sB c0_7)],.cells [(pt 0)]] Z))) (by kernel_rfl) (ak (congrArg (ab k (tW k bk aL aM aN aO aP aQ c0_7)) (funext fun r=>if_pos ⟨rfl,rfl⟩)) h)
def VM:Rw S:=am pI Hr fun t bk aL aM aN aO aP aQ c0_7 Z=>ab k (DQ k t bk aL aM aN aO aP aQ c0_7) (wa aL aM aN aO aP aQ c0_7 Z)
def aba:Fx S:=fx 31 (fun _=>[]) (fun _=>false) [(56,s8 k),(58,lV k),(63,qm k),(95,Mv k),(96,VL k)] [] k f43 true [] 1
theorem ah2 (ho:ao o):Tl o 43 (VM k:Rw S):=ap (aba k) ⟨uy k ho,mz k ho,rz k ho,Qe k ho,ah0 k ho,trivial⟩ func43 fun t bk aL aM aN aO aP aQ c0_7 Z x h=>aE h
def VN:Rw S:=am Kw dh fun u c0 Z=>ab k (Jo k u c0) (ap0 c0 Z)
def abb:Fx S:=fp 9 [(58,lV k)] [] k f99 1
theorem ah3 (ho:ao o):Tl o 99 (VN k:Rw S):=ap (abb k) ⟨mz k ho,trivial⟩ func99 fun u c0 Z x h=>aE h
def ap6:Rw S:=am Rc ZE fun bk aL aM aN aO aP aQ c0_7 c1 Z=>ab k (tY k bk aL aM aN aO aP aQ c0_7 c1) (AJ bk aL aM aN aO aP aQ c0_7 c1 Z)
def VO:Rw S:=am Rc ZE fun bk aL aM aN aO aP aQ c0_7 c1 Z=>ab k (tY k bk aL aM aN aO aP aQ c0_7 c1) (mT Z)
def H3:Fx S:=fp 31 [(59,oH k),(99,VN k)] [(3,⟨[(1,aa),(5,ar 100005),(11,aa),(12,aa),(13,aa)],[(1000000,[aa,aa,aa,aa,aa,aa,aa,aa]),(1000001,[aa])]⟩,aG 5 11)] k f96 2
def SV (bk aL aM:Int) (aN:ByteArray) (aO:List Cl) (aP:List Tm) (aQ c0_7:List (Br Tm)) (c1:Int) (v13:Int) (out5:List (Br Tm)):St UU:=⟨[(1,(.func 99 [] [(pt 1000001)])),(5,(.own 100005 0)),(11,(sB c0_7)),(12,(iI c0_7.length)),(13,(iI v13))],[(1000000,.cells [(iI bk),(iI aL),(iI aM),(.str aN),(sC aO),(sT aP),(sB aQ),(sB c0_7)]),(1000001,bI c1)],[(100005,⟨0,ET.B,out5⟩)],[(100005,.wr)]⟩
section
variable (k:Nat) (bk aL aM:Int) (aN:ByteArray) (aO:List Cl) (aP:List Tm) (aQ c0_7:List (Br Tm)) (c1:Int) (Z:Out UU->Option S)
theorem ael: ∀n v13 out5,(H3 k).lp Z 3 [] n (SV bk aL aM aN aO aP aQ c0_7 c1 v13 out5)=u7 k (AJ bk aL aM aN aO aP aQ c0_7 c1 Z) bk aL aM aN aO aP aQ c0_7 c1 n v13 out5:=bh (B6 k (AJ bk aL aM aN aO aP aQ c0_7 c1 Z) bk aL aM aN aO aP aQ c0_7 c1)
end
theorem ah5 (ho:ao o):Tl o 96 (ap6 k:Rw S):=ap (H3 k) ⟨py k ho,ah3 k ho,trivial⟩ func96 fun bk aL aM aN aO aP aQ c0_7 c1 Z x h=>ak (b:=NO k (AJ bk aL aM aN aO aP aQ c0_7 c1 Z) (fun v13 out5=>(H3 k).lp Z 3 [] k (SV bk aL aM aN aO aP aQ c0_7 c1 v13 out5)) bk aL aM aN aO aP aQ c0_7 c1) (by kernel_rfl) (ak (by simp only [ael];rfl) (bp h))
theorem ah4 (ho:ao o):Tl o 96 (VO k:Rw S):=Zb (ah5 k ho) fun bk aL aM aN aO aP aQ c0_7 c1 Z x h=>ak (b:=ab k (tY k bk aL aM aN aO aP aQ c0_7 c1) (AJ bk aL aM aN aO aP aQ c0_7 c1 (De _ Z))) (by kernel_rfl) (ak (congrArg (ab k (tY k bk aL aM aN aO aP aQ c0_7 c1)) (funext fun r=>if_pos rfl)) h)
def VQ:Rw S:=am KG O3 fun kind gA eN eO eP eQ eR eS fH Z=>ab k (yA k kind gA eN eO eP eQ eR eS fH) (ap1 gA eN eO eP eQ eR eS fH Z)
def abc:Fx S:=fx 15 (fun _=>[]) (fun _=>false) [(58,lV k),(96,VO k)] [] k f98 true [] 2
theorem ah6 (ho:ao o):Tl o 98 (VQ k:Rw S):=ap (abc k) ⟨mz k ho,ah4 k ho,trivial⟩ func98 fun kind gA eN eO eP eQ eR eS fH Z x h=>aE h
def VR:Rw S:=am mI xn fun t a sys Z=>ab k (Di k t a sys) (dQ Z)
def H4:Fx S:=fp 76 [(186,oG k),(207,GC k),(208,L3 k),(209,AL k),(210,qv k),(211,WW k),(212,LX k),(213,Gn k)] [(4,⟨[(4,aa),(6,aa),(8,aa),(9,aa),(27,aa),(28,aa),(29,aa)],[(4,[aa,aa,aa,aa,aa,aa]),(6,[aa,aa,aa,ar 200387,ar 200388,ar 200389]),(9,[aa,aa,aa,ar 200579,aa,ar 200581]),(19000,[aa])]⟩,aG 6 23)] k f120 0
def SW (a:Tm) (r5:Int×Int×ByteArray×List Tm) (sys:List (Br Tm)) (dt:Int) (b9_5:List (Br Tm)) (v29:Int):St UU:=⟨[(4,(pt 4)),(6,(pt 6)),(8,(pt 19000)),(9,(pt 9)),(27,(sB sys)),(28,(iI sys.length)),(29,(iI v29))],[(4,bT a),(6,.cells [(iI 0),(iI 0),cx,(.own 200387 0),(.own 200388 0),(.own 200389 0)]),(9,.cells [(iI r5.1),(iI r5.2.1),(.str r5.2.2.1),(.own 200579 0),(sT r5.2.2.2),(.own 200581 0)]),(19000,bI dt)],[(200581,⟨0,ET.B,b9_5⟩),(200579,cq),(200389,b_),(200388,cu),(200387,cq)],[(200581,.wr),(200579,.wr),(200389,.wr),(200388,.wr),(200387,.wr)]⟩
section
variable (k:Nat) (t a:Tm) (sys:List (Br Tm)) (Z:Out UU->Option S)
theorem aem (r5): ∀n dt b9_5 v29,(H4 k).lp Z 4 [] n (SW a r5 sys dt b9_5 v29)=kK k (dQ Z) a r5 sys n dt b9_5 v29:=h_ (tv k (dQ Z) a r5 sys)
end
theorem ah7 (ho:ao o):Tl o 120 (VR k:Rw S):=ap (H4 k) ⟨px k ho,JS k ho,PQ k ho,ES k ho,rC k ho,ajb k ho,PO k ho,JH k ho,trivial⟩ func120 fun t a sys Z x h=>ak (b:=Nm k (dQ Z) (fun r5 dt b9_5 v29=>(H4 k).lp Z 4 [] k (SW a r5 sys dt b9_5 v29)) t a sys) (by kernel_rfl) (ak (by simp only [aem];rfl) (bp h))
def Mh:Rw S:=am RA dh fun t a sys c0 Z=>ab k (yD k t a sys c0) (j5 Z)
def abe:Fx S:=fp 21 [(93,lX k),(94,lY k),(120,VR k)] [] k f62 1
theorem P4 (ho:ao o):Tl o 62 (Mh k:Rw S):=ap (abe k) ⟨mB k ho,mC k ho,ah7 k ho,trivial⟩ func62 fun t a sys c0 Z x h=>aE h
def VS:Rw S:=am pI Hr fun t bk aL aM aN aO aP aQ c0_7 Z=>ab k (DR k t bk aL aM aN aO aP aQ c0_7) (wa aL aM aN aO aP aQ c0_7 Z)
def abf:Fx S:=fx 63 (fun _=>[]) (fun _=>false) [(58,lV k),(62,Mh k),(63,qm k),(98,VQ k),(100,UY k),(101,UP k),(102,U6 k)] [] k f44 true [] 1
theorem ah8 (ho:ao o):Tl o 44 (VS k:Rw S):=ap (abf k) ⟨mz k ho,P4 k ho,rz k ho,ah6 k ho,ahd k ho,ag6 k ho,ahl k ho,trivial⟩ func44 fun t bk aL aM aN aO aP aQ c0_7 Z x h=>aE h
def VT:Rw S:=am pI Hr fun t bk aL aM aN aO aP aQ c0_7 Z=>ab k (DO k t bk aL aM aN aO aP aQ c0_7) (wa aL aM aN aO aP aQ c0_7 Z)
def H5:Fx S:=fx 128 (fun _=>[]) (fun _=>false) [(56,s8 k),(58,lV k),(59,oH k),(63,qm k),(73,U1 k),(103,U2 k),(104,U3 k)] [(7,⟨[(0,aa),(3,aa),(4,aa),(5,aa),(6,aa),(9,aa),(10,ar 100010),(51,aa),(52,aa),(53,aa)],[(3,[aa,aa,aa,aa,aa,aa]),(4,[aa,aa,aa,ar 200259,ar 200260,ar 200261]),(5,[aa,aa,aa,aa,aa,aa]),(6,[aa,aa,aa,aa,aa,aa]),(9,[aa,aa,aa,aa,aa,ar 200581]),(1000000,[aa,aa,aa,aa,aa,aa,aa,aa])]⟩,aG 9 191)] k f45 true [] 1
def SX (aL aM:Int) (aN:ByteArray) (aO:List Cl) (aP:List Tm) (aQ c0_7:List (Br Tm)) (t x1 x2:Tm) (r6:Int×Int×ByteArray×List Cl×List Tm) (bu:Int) (sys10:List (Br Tm)) (v53:Int):St UU:=⟨[(0,(pt 1000000)),(3,(pt 3)),(4,(pt 4)),(5,(pt 5)),(6,(pt 6)),(9,(pt 9)),(10,(.own 100010 0)),(51,(sB c0_7)),(52,(iI c0_7.length)),(53,(iI v53))],[(3,bT t),(4,.cells [(iI 0),(iI 0),cx,(.own 200259 0),(.own 200260 0),(.own 200261 0)]),(5,bT x1),(6,bT x2),(9,.cells [(iI r6.1),(iI r6.2.1),(.str r6.2.2.1),(sC r6.2.2.2.1),(sT r6.2.2.2.2),(.own 200581 0)]),(1000000,.cells [(iI bu),(iI aL),(iI aM),(.str aN),(sC aO),(sT aP),(sB aQ),(sB c0_7)])],[(200581,b_),(200261,b_),(200260,cu),(200259,cq),(100010,⟨0,ET.B,sys10⟩)],[(200581,.wr),(200261,.wr),(200260,.wr),(200259,.wr),(100010,.wr)]⟩
section
variable (k:Nat) (t:Tm) (bk aL aM:Int) (aN:ByteArray) (aO:List Cl) (aP:List Tm) (aQ c0_7:List (Br Tm)) (Z:Out UU->Option S)
theorem aen (x1 x2 r6): ∀n bu sys10 v53,(H5 k).lp Z 7 [] n (SX aL aM aN aO aP aQ c0_7 t x1 x2 r6 bu sys10 v53)=u4 k (wa aL aM aN aO aP aQ c0_7 Z) aL aM aN aO aP aQ c0_7 t x1 x2 r6 n bu sys10 v53:=h_ (B3 k (wa aL aM aN aO aP aQ c0_7 Z) aL aM aN aO aP aQ c0_7 t x1 x2 r6)
end
theorem ah9 (ho:ao o):Tl o 45 (VT k:Rw S):=ap (H5 k) ⟨uy k ho,mz k ho,py k ho,rz k ho,ahg k ho,ahh k ho,ahi k ho,trivial⟩ func45 fun t bk aL aM aN aO aP aQ c0_7 Z x h=>ak (b:=NL k (wa aL aM aN aO aP aQ c0_7 Z) (fun x1 x2 r6 bu sys10 v53=>(H5 k).lp Z 7 [] k (SX aL aM aN aO aP aQ c0_7 t x1 x2 r6 bu sys10 v53)) t bk aL aM aN aO aP aQ c0_7) (by kernel_rfl) (ak (by simp only [aen];rfl) (bp h))
def VU:Rw S:=am pI dh fun t c0 Z=>ab k (yl k t c0) (Uv Z)
def abg:Fx S:=fx 20 (fun _=>[]) (fun _=>false) [(186,oG k),(187,wi k),(209,AL k)] [] k f261 true [] 1
theorem ah_ (ho:ao o):Tl o 261 (VU k:Rw S):=ap (abg k) ⟨px k ho,zi k ho,ES k ho,trivial⟩ func261 fun t c0 Z x h=>aE h
def VX:Rw S:=am zG xn fun t a Z=>ab k (Dh k t a) (dQ Z)
def abh:Fx S:=fp 47 [(41,qu (fc k)),(186,oG k),(187,wi k),(207,GC k),(209,AL k),(213,Gn k),(261,VU k),(262,Vc k)] [] k f184 0
theorem aia (ho:ao o):Tl o 184 (VX k:Rw S):=ap (abh k) ⟨uG o ho k,px k ho,zi k ho,JS k ho,ES k ho,JH k ho,ah_ k ho,ahs k ho,trivial⟩ func184 fun t a Z x h=>aE h
def VY:Rw S:=am Rz dh fun t a c0 Z=>ab k (D7 k t a c0) (j5 Z)
def abi:Fx S:=fp 18 [(93,lX k),(94,lY k),(184,VX k)] [] k f106 1
theorem aib (ho:ao o):Tl o 106 (VY k:Rw S):=ap (abi k) ⟨mB k ho,mC k ho,aia k ho,trivial⟩ func106 fun t a c0 Z x h=>aE h
def VZ:Rw S:=am gJ xn fun a_r Z=>ab k (I8 k a_r) (ap2 Z)
def abj:Fx S:=fx 13 (fun _=>[]) (fun _=>false) [(186,oG k),(187,wi k)] [] k f185 true [] 0
theorem aic (ho:ao o):Tl o 185 (VZ k:Rw S):=ap (abj k) ⟨px k ho,zi k ho,trivial⟩ func185 fun a_r Z x h=>aE h
def V0:Rw S:=am cn xn fun Z=>ab k (Dj k) (AE Z)
def abk:Fx S:=fx 37 (fun _=>[]) (fun _=>false) [(185,VZ k),(186,oG k),(187,wi k)] [] k f107 true [] 0
theorem aid (ho:ao o):Tl o 107 (V0 k:Rw S):=ap (abk k) ⟨aic k ho,px k ho,zi k ho,trivial⟩ func107 fun Z x h=>aE h
def V1:Rw S:=am Kw O3 fun u gA eN eO eP eQ eR eS fH Z=>ab k (Jp k u gA eN eO eP eQ eR eS fH) (Ux eN eO eP eQ eR eS fH Z)
def abl:Fx S:=fp 30 [(56,s8 k),(58,lV k),(67,U7 k),(106,VY k),(107,V0 k)] [] k f105 2
theorem aie (ho:ao o):Tl o 105 (V1 k:Rw S):=ap (abl k) ⟨uy k ho,mz k ho,ahm k ho,aib k ho,aid k ho,trivial⟩ func105 fun u gA eN eO eP eQ eR eS fH Z x h=>aE h
def ap7:Rw S:=am Rd Hq fun bk aL aM aN aO aP aQ c0_7 Z=>ab k (tX k bk aL aM aN aO aP aQ c0_7) (mU aL aM aN aO aP aQ c0_7 Z)
def V2:Rw S:=am Rd Hq fun bk aL aM aN aO aP aQ c0_7 Z=>ab k (tX k bk aL aM aN aO aP aQ c0_7) (Uy Z)
def H7:Fx S:=fp 31 [(59,oH k),(105,V1 k)] [(3,⟨[(1,aa),(5,ar 100005),(11,aa),(12,aa),(13,aa)],[(1000000,[aa,aa,aa,aa,aa,aa,aa,aa]),(1000001,[aa])]⟩,aG 5 11)] k f96 2
def SY (aL aM:Int) (aN:ByteArray) (aO:List Cl) (aP:List Tm) (aQ c0_7:List (Br Tm)) (bu v13:Int) (out5:List (Br Tm)):St UU:=⟨[(1,(.func 105 [] [(pt 1000001)])),(5,(.own 100005 0)),(11,(sB c0_7)),(12,(iI c0_7.length)),(13,(iI v13))],[(1000000,.cells [(iI bu),(iI aL),(iI aM),(.str aN),(sC aO),(sT aP),(sB aQ),(sB c0_7)]),(1000001,.cells [(pt 1000000)])],[(100005,⟨0,ET.B,out5⟩)],[(100005,.wr)]⟩
section
variable (k:Nat) (bk aL aM:Int) (aN:ByteArray) (aO:List Cl) (aP:List Tm) (aQ c0_7:List (Br Tm)) (Z:Out UU->Option S)
theorem aeo: ∀n bu v13 out5,(H7 k).lp Z 3 [] n (SY aL aM aN aO aP aQ c0_7 bu v13 out5)=u6 k (mU aL aM aN aO aP aQ c0_7 Z) aL aM aN aO aP aQ c0_7 n bu v13 out5:=h_ (B5 k (mU aL aM aN aO aP aQ c0_7 Z) aL aM aN aO aP aQ c0_7)
end
theorem aig (ho:ao o):Tl o 96 (ap7 k:Rw S):=ap (H7 k) ⟨py k ho,aie k ho,trivial⟩ func96 fun bk aL aM aN aO aP aQ c0_7 Z x h=>ak (b:=NN k (mU aL aM aN aO aP aQ c0_7 Z) (fun bu v13 out5=>(H7 k).lp Z 3 [] k (SY aL aM aN aO aP aQ c0_7 bu v13 out5)) bk aL aM aN aO aP aQ c0_7) (by kernel_rfl) (ak (by simp only [aeo];rfl) (bp h))
theorem aif (ho:ao o):Tl o 96 (V2 k:Rw S):=Za (n:=0) (m:=1) (aig k ho) fun bk aL aM aN aO aP aQ c0_7 Z x h=>ak (b:=ab k (tX k bk aL aM aN aO aP aQ c0_7) (mU aL aM aN aO aP aQ c0_7 (Df 0 1 [.cells [(iI bk),(iI aL),(iI aM),(.str aN),(sC aO),(sT aP),(sB aQ),(sB c0_7)],.cells [(pt 0)]] Z))) (by kernel_rfl) (ak (congrArg (ab k (tX k bk aL aM aN aO aP aQ c0_7)) (funext fun r=>if_pos ⟨rfl,rfl⟩)) h)
def V3:Rw S:=am Fv Hr fun bk aL aM aN aO aP aQ c0_7 Z=>ab k (DS k bk aL aM aN aO aP aQ c0_7) (ap3 aL aM aN aO aP aQ c0_7 Z)
def abm:Fx S:=fx 12 (fun _=>[]) (fun _=>false) [(63,qm k),(96,V2 k)] [] k f46 true [] 1
theorem aih (ho:ao o):Tl o 46 (V3 k:Rw S):=ap (abm k) ⟨rz k ho,aif k ho,trivial⟩ func46 fun bk aL aM aN aO aP aQ c0_7 Z x h=>aE h
def V4:Rw S:=am Q9 ZF fun a_x c1 c2 Z=>ab k (DL k a_x c1 c2) (ap4 c1 Z)
def abn:Fx S:=fp 22 [(56,s8 k),(57,L4 k),(58,lV k),(59,oH k)] [] k f55 3
theorem aii (ho:ao o):Tl o 55 (V4 k:Rw S):=ap (abn k) ⟨uy k ho,PR k ho,mz k ho,py k ho,trivial⟩ func55 fun a_x c1 c2 Z x h=>aE h
def V5:Rw S:=am akQ ZF fun l c1 c2 Z=>ab k (PC k l c1 c2) (FZ c1 Z)
def H8:Fx S:=fx 22 (fun _=>[]) (fun _=>false) [(55,V4 k)] [(3,⟨[(1,aa),(5,ar 100005),(8,aa),(9,aa),(10,aa)],[(1000000,[aa]),(1000001,[aa]),(1000002,[aa])]⟩,aG 5 11)] k f54 false [true] 3
def SZ (c1 l:List (Br Tm)) (jP v10:Int) (out5:List (Br Tm)):St UU:=⟨[(1,(.func 55 [] [(pt 1000000),(pt 1000001)])),(5,(.own 100005 0)),(8,(sB l)),(9,(iI l.length)),(10,(iI v10))],[(1000000,.cells [(pt 1000002)]),(1000001,.cells [(sB c1)]),(1000002,bI jP)],[(100005,⟨0,ET.B,out5⟩)],[(100005,.wr)]⟩
section
variable (k:Nat) (l c1:List (Br Tm)) (c2:Int) (Z:Out UU->Option S)
theorem aep: ∀n jP v10 out5,(H8 k).lp Z 3 [] n (SZ c1 l jP v10 out5)=uY k (FZ c1 Z) c1 l n jP v10 out5:=h_ (B1 k (FZ c1 Z) c1 l)
end
theorem aij (ho:ao o):Tl o 54 (V5 k:Rw S):=ap (H8 k) ⟨aii k ho,trivial⟩ func54 fun l c1 c2 Z x h=>ak (b:=Y2 k (FZ c1 Z) (fun jP v10 out5=>(H8 k).lp Z 3 [] k (SZ c1 l jP v10 out5)) l c1 c2) (by kernel_rfl) (ak (by simp only [aep];rfl) (bp h))
def V6:Rw S:=am akR O4 fun a_x c1 c2 c3 Z=>ab k (DM k a_x c1 c2 c3) (apD c1 c2 Z)
def abo:Fx S:=fp 30 [(56,s8 k),(58,lV k),(59,oH k),(61,Vb k),(62,Mh k)] [] k f60 4
theorem aik (ho:ao o):Tl o 60 (V6 k:Rw S):=ap (abo k) ⟨uy k ho,mz k ho,py k ho,ahr k ho,P4 k ho,trivial⟩ func60 fun a_x c1 c2 c3 Z x h=>aE h
def V7:Rw S:=am Re O4 fun l c1 c2 c3 Z=>ab k (Jk k l c1 c2 c3) (F0 c1 c2 Z)
def H9:Fx S:=fx 22 (fun _=>[]) (fun _=>false) [(60,V6 k)] [(3,⟨[(1,aa),(5,ar 100005),(8,aa),(9,aa),(10,aa)],[(1000000,[aa]),(1000001,[aa,aa,aa,aa,aa,aa]),(1000002,[aa,aa,aa,aa,aa,aa]),(1000003,[aa])]⟩,aG 5 11)] k f54 false [true] 4
def S0 (c1 c2:Tm) (l:List (Br Tm)) (jQ v10:Int) (out5:List (Br Tm)):St UU:=⟨[(1,(.func 60 [] [(pt 1000000),(pt 1000001),(pt 1000002)])),(5,(.own 100005 0)),(8,(sB l)),(9,(iI l.length)),(10,(iI v10))],[(1000000,.cells [(pt 1000003)]),(1000001,bT c1),(1000002,bT c2),(1000003,bI jQ)],[(100005,⟨0,ET.B,out5⟩)],[(100005,.wr)]⟩
section
variable (k:Nat) (l:List (Br Tm)) (c1 c2:Tm) (c3:Int) (Z:Out UU->Option S)
theorem aeq: ∀n jQ v10 out5,(H9 k).lp Z 3 [] n (S0 c1 c2 l jQ v10 out5)=uX k (F0 c1 c2 Z) c1 c2 l n jQ v10 out5:=h_ (B0 k (F0 c1 c2 Z) c1 c2 l)
end
theorem ail (ho:ao o):Tl o 54 (V7 k:Rw S):=ap (H9 k) ⟨aik k ho,trivial⟩ func54 fun l c1 c2 c3 Z x h=>ak (b:=Y1 k (F0 c1 c2 Z) (fun jQ v10 out5=>(H9 k).lp Z 3 [] k (S0 c1 c2 l jQ v10 out5)) l c1 c2 c3) (by kernel_rfl) (ak (by simp only [aeq];rfl) (bp h))
def V8:Rw S:=am Q9 O5 fun a_x c0 c1 Z=>ab k (Jj k a_x c0 c1) (apE c0 c1 Z)
def abp:Fx S:=fp 18 [(59,oH k),(63,qm k)] [] k f64 2
theorem aim (ho:ao o):Tl o 64 (V8 k:Rw S):=ap (abp k) ⟨py k ho,rz k ho,trivial⟩ func64 fun a_x c0 c1 Z x h=>aE h
def V9:Rw S:=am Rf O5 fun l c0 c1 Z=>ab k (yz k l c0 c1) (F1 c0 c1 Z)
def H_:Fx S:=fx 22 (fun _=>[]) (fun _=>false) [(64,V8 k)] [(3,⟨[(1,aa),(5,ar 100005),(8,aa),(9,aa),(10,aa)],[(1000000,[aa,aa,aa,aa,aa,aa]),(1000001,[aa,aa,aa,aa,aa,aa])]⟩,aG 5 11)] k f54 false [true] 2
def S1 (c0 c1:Tm) (l:List (Br Tm)) (v10:Int) (out5:List (Br Tm)):St UU:=⟨[(1,(.func 64 [] [(pt 1000000),(pt 1000001)])),(5,(.own 100005 0)),(8,(sB l)),(9,(iI l.length)),(10,(iI v10))],[(1000000,bT c0),(1000001,bT c1)],[(100005,⟨0,ET.B,out5⟩)],[(100005,.wr)]⟩
section
variable (k:Nat) (l:List (Br Tm)) (c0 c1:Tm) (Z:Out UU->Option S)
theorem aer: ∀n v10 out5,(H_ k).lp Z 3 [] n (S1 c0 c1 l v10 out5)=uW k (F1 c0 c1 Z) c0 c1 l n v10 out5:=bh (BZ k (F1 c0 c1 Z) c0 c1 l)
end
theorem ain (ho:ao o):Tl o 54 (V9 k:Rw S):=ap (H_ k) ⟨aim k ho,trivial⟩ func54 fun l c0 c1 Z x h=>ak (b:=NJ k (F1 c0 c1 Z) (fun v10 out5=>(H_ k).lp Z 3 [] k (S1 c0 c1 l v10 out5)) l c0 c1) (by kernel_rfl) (ak (by simp only [aer];rfl) (bp h))
def V_:Rw S:=am eh xn fun t Z=>ab k (DK k t) (Gi Z)
def abq:Fx S:=fp 79 [(40,lW k),(41,qu (fc k)),(42,Ms k),(53,U_ k),(54,oC (rF Rf O5) (V9 k) (oC (rF Re O4) (V7 k) (V5 k))),(57,L4 k),(63,qm k)] [] k f24 0
theorem aio (ho:ao o):Tl o 24 (V_ k:Rw S):=ap (abq k) ⟨mA k ho,uG o ho k,Qb k ho,ahp k ho,sQ (ain k ho) (sQ (ail k ho) (aij k ho)),PR k ho,rz k ho,trivial⟩ func24 fun t Z x h=>aE h
def Mi:Rw S:=am eh xn fun t Z=>ab k (o_ k t) (Gi Z)
def abr:Fx S:=fp 89 [(24,V_ k),(40,lW k),(41,qu (fc k)),(42,Ms k),(43,VM k),(44,VS k),(45,VT k),(46,V3 k)] [] k f17 0
theorem P5 (ho:ao o):Tl o 17 (Mi k:Rw S):=ap (abr k) ⟨aio k ho,mA k ho,uG o ho k,Qb k ho,ah2 k ho,ah8 k ho,ah9 k ho,aih k ho,trivial⟩ func17 fun t Z x h=>aE h
def Wb:Rw S:=am cn xn fun Z=>ab k (yB k) (a_ Z)
def abu:Fx S:=fp 84 [(14,AO (gG k)),(17,Mi k),(39,VJ k)] [] k f16 0
theorem aiq (ho:ao o):Tl o 16 (Wb k:Rw S):=ap (abu k) ⟨Kk o ho k,P5 k ho,ahY k ho,trivial⟩ func16 fun Z x h=>aE h
def mY:Rw S:=am nX xn fun t vars dims Z=>ab k (cY k t vars dims) (aV Z)
def abv:Fx S:=fp 22 [(178,wm (dI k))] [] k f124 0
theorem nO (ho:ao o):Tl o 124 (mY k:Rw S):=ap (abv k) ⟨zB o ho k,trivial⟩ func124 fun t vars dims Z x h=>aE h
def sY:Rw S:=am ir xn fun a_n Z=>ab k (gV k a_n) (F8 Z)
def abw:Fx S:=fx 5 (fun _=>[]) (fun _=>false) [] [] k f188 true [] 0
theorem uw (ho:ao o):Tl o 188 (sY k:Rw S):=ap (abw k) trivial func188 fun a_n Z x h=>aE h
def Gx:Rw S:=am zF xn fun kind kids Z=>ab k (rq k kind kids) (aV Z)
def Ia:Fx S:=fp 25 [] [(2,⟨[(0,aa),(1,aa),(4,aa),(5,aa)],[(4,[aa,aa,aa,ar 200259,ar 200260,ar 200261])]⟩,aG 4 5)] k f214 0
def S3 (kind:Int) (kids:List Tm) (i5:Int):St UU:=⟨[(0,(iI kind)),(1,(sT kids)),(4,(pt 4)),(5,(iI i5))],[(4,.cells [(iI 0),(iI 0),cx,(.own 200259 0),(.own 200260 0),(.own 200261 0)])],[(200261,b_),(200260,cu),(200259,cq)],[(200261,.wr),(200260,.wr),(200259,.wr)]⟩
section
variable (k:Nat) (kind:Int) (kids:List Tm) (Z:Out UU->Option S)
theorem aet: ∀n i5,(Ia k).lp Z 2 [] n (S3 kind kids i5)=vA k (aV Z) kind kids n i5:=dO (CO k (aV Z) kind kids)
end
theorem JO (ho:ao o):Tl o 214 (Gx k:Rw S):=ap (Ia k) trivial func214 fun kind kids Z x h=>ak (b:=Bp k (aV Z) (fun i5=>(Ia k).lp Z 2 [] k (S3 kind kids i5)) kind kids) (by kernel_rfl) (ak (by simp only [aet];rfl) (bp h))
def j8:Rw S:=am akS xn fun kind a b Z=>ab k (cG k kind a b) (aV Z)
def abx:Fx S:=fp 12 [(214,Gx k)] [] k f122 0
theorem kE (ho:ao o):Tl o 122 (j8 k:Rw S):=ap (abx k) ⟨JO k ho,trivial⟩ func122 fun kind a b Z x h=>aE h
def wq:Rw S:=am alj xn fun t f kid Z=>ab k (eU k t f kid) (aV Z)
def aby:Fx S:=fp 27 [] [] k f125 0
theorem zm (ho:ao o):Tl o 125 (wq k:Rw S):=ap (aby k) trivial func125 fun t f kid Z x h=>aE h
def mZ:Rw S:=am Rg xn fun kind a Z=>ab k (ee k kind a) (aV Z)
def abz:Fx S:=fp 9 [(214,Gx k)] [] k f128 0
theorem nP (ho:ao o):Tl o 128 (mZ k:Rw S):=ap (abz k) ⟨JO k ho,trivial⟩ func128 fun kind a Z x h=>aE h
def Wc:Rw S:=am mI xn fun a_k a sys Z=>ab k (EF k a_k a sys) (aV Z)
def Ib:Fx S:=fp 48 [(122,j8 k),(124,mY k),(125,wq k),(128,mZ k),(188,sY k)] [(3,⟨[(2,aa),(6,aa),(7,aa),(8,aa)],[(6,[aa,aa,aa,ar 200387,ar 200388,ar 200389]),(7,[aa,aa,aa,aa,aa,aa])]⟩,aG 5 11)] k f109 0
def S4 (sys:List (Br Tm)) (b7:Tm) (i8:Int):St UU:=⟨[(2,(sB sys)),(6,(pt 6)),(7,(pt 7)),(8,(iI i8))],[(6,.cells [(iI 0),(iI 0),cx,(.own 200387 0),(.own 200388 0),(.own 200389 0)]),(7,bT b7)],[(200389,b_),(200388,cu),(200387,cq)],[(200389,.wr),(200388,.wr),(200387,.wr)]⟩
section
variable (k:Nat) (a_k a:Tm) (sys:List (Br Tm)) (Z:Out UU->Option S)
theorem aeu: ∀n b7 i8,(Ib k).lp Z 3 [] n (S4 sys b7 i8)=oq k (aV Z) sys n b7 i8:=bh (tD k (aV Z) sys)
end
theorem air (ho:ao o):Tl o 109 (Wc k:Rw S):=ap (Ib k) ⟨kE k ho,nO k ho,zm k ho,nP k ho,uw k ho,trivial⟩ func109 fun a_k a sys Z x h=>ak (b:=OC k (aV Z) (fun b7 i8=>(Ib k).lp Z 3 [] k (S4 sys b7 i8)) a_k a sys) (by kernel_rfl) (ak (by simp only [aeu];rfl) (bp h))
def Wd:Rw S:=am Rh xn fun kind sys Z=>ab k (y_ k kind sys) (mT Z)
def Ic:Fx S:=fp 33 [(128,mZ k)] [(3,⟨[(0,aa),(1,aa),(5,ar 100005),(6,aa)],[]⟩,aG 5 11)] k f189 0
def S5 (kind:Int) (sys:List (Br Tm)) (out5:List (Br Tm)) (i6:Int):St UU:=⟨[(0,(iI kind)),(1,(sB sys)),(5,(.own 100005 0)),(6,(iI i6))],[],[(100005,⟨0,ET.B,out5⟩)],[(100005,.wr)]⟩
section
variable (k:Nat) (kind:Int) (sys:List (Br Tm)) (Z:Out UU->Option S)
theorem aev: ∀n out5 i6,(Ic k).lp Z 3 [] n (S5 kind sys out5 i6)=vD k (mT Z) kind sys n out5 i6:=bh (CT k (mT Z) kind sys)
end
theorem ais (ho:ao o):Tl o 189 (Wd k:Rw S):=ap (Ic k) ⟨nP k ho,trivial⟩ func189 fun kind sys Z x h=>ak (b:=OD k (mT Z) (fun out5 i6=>(Ic k).lp Z 3 [] k (S5 kind sys out5 i6)) kind sys) (by kernel_rfl) (ak (by simp only [aev];rfl) (bp h))
def Mj:Rw S:=am Rh xn fun kind l Z=>ab k (yV k kind l) (aV Z)
def Id:Fx S:=fp 23 [(168,L7 k)] [(3,⟨[(0,aa),(4,aa),(5,aa),(6,aa)],[(4,[aa,aa,aa,ar 200259,ar 200260,ar 200261]),(5,[aa,aa,aa,ar 200323,ar 200324,aa])]⟩,aG 5 11)] k f216 0
def S6 (kind:Int) (l:List (Br Tm)) (b5_4:List Tm) (i6:Int):St UU:=⟨[(0,(iI kind)),(4,(pt 4)),(5,(pt 5)),(6,(iI i6))],[(4,.cells [(iI 0),(iI 0),cx,(.own 200259 0),(.own 200260 0),(.own 200261 0)]),(5,.cells [(iI kind),(iI 0),cx,(.own 200323 0),(.own 200324 0),(sB l)])],[(200324,⟨0,ET.T,b5_4⟩),(200323,cq),(200261,b_),(200260,cu),(200259,cq)],[(200324,.wr),(200323,.wr),(200261,.wr),(200260,.wr),(200259,.wr)]⟩
section
variable (k:Nat) (kind:Int) (l:List (Br Tm)) (Z:Out UU->Option S)
theorem aew: ∀n b5_4 i6,(Id k).lp Z 3 [] n (S6 kind l b5_4 i6)=vz k (aV Z) kind l n b5_4 i6:=bh (IN k (aV Z) kind l)
end
theorem P6 (ho:ao o):Tl o 216 (Mj k:Rw S):=ap (Id k) ⟨PT k ho,trivial⟩ func216 fun kind l Z x h=>ak (b:=Ov k (aV Z) (fun b5_4 i6=>(Id k).lp Z 3 [] k (S6 kind l b5_4 i6)) kind l) (by kernel_rfl) (ak (by simp only [aew];rfl) (bp h))
def Gy:Rw S:=am Kz xn fun l Z=>ab k (rx k l) (be Z)
def Ie:Fx S:=fp 19 [(36,wk k)] [(2,bG [0,3] [],aG 4 5)] k f215 0
def S7 (l:List Tm) (i3:Int):St UU:=⟨[(0,(sT l)),(3,(iI i3))],[],[],[]⟩
section
variable (k:Nat) (l:List Tm) (Z:Out UU->Option S)
theorem aex: ∀n i3,(Ie k).lp Z 2 [] n (S7 l i3)=vB k (be Z) l n i3:=dO (CQ k (be Z) l)
end
theorem JP (ho:ao o):Tl o 215 (Gy k:Rw S):=ap (Ie k) ⟨zk k ho,trivial⟩ func215 fun l Z x h=>ak (b:=Oz k (be Z) (fun i3=>(Ie k).lp Z 2 [] k (S7 l i3)) l) (by kernel_rfl) (ak (by simp only [aex];rfl) (bp h))
def Ml:Rw S:=am akT xn fun line a_r Z=>ab k (rp k line a_r) (aV Z)
def abB:Fx S:=fp 23 [(88,Mc k),(89,kO k),(90,Gu k)] [] k f271 0
theorem P8 (ho:ao o):Tl o 271 (Ml k:Rw S):=ap (abB k) ⟨P0 k ho,lv k ho,JL k ho,trivial⟩ func271 fun line a_r Z x h=>aE h
def We:Rw S:=am mI xn fun t a sys Z=>ab k (y7 k t a sys) (aV Z)
def If:Fx S:=fp 59 [(89,kO k),(122,j8 k),(124,mY k),(125,wq k),(179,wl k),(271,Ml k)] [(3,⟨[(2,aa),(4,aa),(6,aa),(7,aa),(8,aa)],[(4,[aa,aa,aa,aa,aa,aa]),(6,[aa,aa,aa,ar 200387,ar 200388,ar 200389]),(7,[aa,aa,aa,aa,aa,aa])]⟩,aG 5 11)] k f217 0
def S8 (a:Tm) (sys:List (Br Tm)) (b7:Tm) (i8:Int):St UU:=⟨[(2,(sB sys)),(4,(pt 4)),(6,(pt 6)),(7,(pt 7)),(8,(iI i8))],[(4,bT a),(6,.cells [(iI 0),(iI 0),cx,(.own 200387 0),(.own 200388 0),(.own 200389 0)]),(7,bT b7)],[(200389,b_),(200388,cu),(200387,cq)],[(200389,.wr),(200388,.wr),(200387,.wr)]⟩
section
variable (k:Nat) (t a:Tm) (sys:List (Br Tm)) (Z:Out UU->Option S)
theorem aey: ∀n b7 i8,(If k).lp Z 3 [] n (S8 a sys b7 i8)=ol k (aV Z) a sys n b7 i8:=bh (tA k (aV Z) a sys)
end
theorem ait (ho:ao o):Tl o 217 (We k:Rw S):=ap (If k) ⟨lv k ho,kE k ho,nO k ho,zm k ho,zl k ho,P8 k ho,trivial⟩ func217 fun t a sys Z x h=>ak (b:=Ox k (aV Z) (fun b7 i8=>(If k).lp Z 3 [] k (S8 a sys b7 i8)) t a sys) (by kernel_rfl) (ak (by simp only [aey];rfl) (bp h))
def AV:Rw S:=am eh xn fun t Z=>ab k (pn k t) (dQ Z)
def abC:Fx S:=fp 19 [(36,wk k)] [] k f108 0
theorem EZ (ho:ao o):Tl o 108 (AV k:Rw S):=ap (abC k) ⟨zk k ho,trivial⟩ func108 fun t Z x h=>aE h
def Mm:Rw S:=am mI xn fun t a sys Z=>ab k (y6 k t a sys) (dQ Z)
def abD:Fx S:=fp 26 [(108,AV k),(215,Gy k),(216,Mj k),(217,We k)] [] k f127 0
theorem P9 (ho:ao o):Tl o 127 (Mm k:Rw S):=ap (abD k) ⟨EZ k ho,JP k ho,P6 k ho,ait k ho,trivial⟩ func127 fun t a sys Z x h=>aE h
def Mn:Rw S:=am pG xn fun t a_e Z=>ab k (uh k t a_e) (aV Z)
def abE:Fx S:=fp 10 [(89,kO k)] [] k f190 0
theorem P_ (ho:ao o):Tl o 190 (Mn k:Rw S):=ap (abE k) ⟨lv k ho,trivial⟩ func190 fun t a_e Z x h=>aE h
def Wf:Rw S:=am pG xn fun t dims Z=>ab k (Jt k t dims) (aV Z)
def abF:Fx S:=fp 12 [(124,mY k)] [] k f192 0
theorem aiu (ho:ao o):Tl o 192 (Wf k:Rw S):=ap (abF k) ⟨nO k ho,trivial⟩ func192 fun t dims Z x h=>aE h
def Mp (hd:jF S):Rw S:=am pG xn fun t a_n Z=>hd t a_n (be Z)
def np (hd:jF S) (k:Nat):Fx S:=fp 77 [(174,wj k),(263,Mp hd)] [(1000004,bG [1,2,5] [(2,6)],aG 3 7),(5,bG [1,2,5,6] [(2,6)],aG 6 23),(10,bG [1,2,5,9] [(2,6)],aG 7 47),(13,bG [1,2,5,9,10] [(2,6)],aG 13 2351)] k f263 0
def S9 (t:Tm) (a_n:Int) (sum5:Int):St UU:=⟨[(1,(iI a_n)),(2,(pt 2)),(5,(iI sum5))],[(2,bT t)],[],[]⟩
def Lf (t:Tm) (a_n:Int) (sum5' i6:Int):St UU:=⟨[(1,(iI a_n)),(2,(pt 2)),(5,(iI sum5')),(6,(iI i6))],[(2,bT t)],[],[]⟩
def Ai (t:Tm) (a_n:Int) (sum5'' i9:Int):St UU:=⟨[(1,(iI a_n)),(2,(pt 2)),(5,(iI sum5'')),(9,(iI i9))],[(2,bT t)],[],[]⟩
def S_ (t:Tm) (a_n i9:Int) (v10 sum5''':Int):St UU:=⟨[(1,(iI a_n)),(2,(pt 2)),(5,(iI sum5''')),(9,(iI i9)),(10,(iI v10))],[(2,bT t)],[],[]⟩
section
variable (hd:jF S) (k:Nat) (t:Tm) (a_n:Int) (Z:Out UU->Option S)
theorem aeC (i9 Z2): ∀n v10 sum5''',(np hd k).lp Z 13 [Z2] n (S_ t a_n i9 v10 sum5''')=sn hd k (be Z) (fun sum5'' i9=>Z2 (Ai t a_n sum5'' i9)) t a_n i9 n v10 sum5''':=bh (CK hd k (be Z) t a_n i9 (fun sum5'' i9=>Z2 (Ai t a_n sum5'' i9)))
theorem aeB: ∀n sum5'' i9,(np hd k).lp Z 10 [] n (Ai t a_n sum5'' i9)=oh hd k (be Z) t a_n n sum5'' i9:=bh (fun own=>xQ hd k (be Z) t a_n (fun i9 v10 sum5'''=>sn hd k (be Z) own t a_n i9 k v10 sum5''') own) rfl (fun _=>rfl) fun r sum5'' i9=>ak (b:=xQ hd k (be Z) t a_n (fun i9 v10 sum5'''=>(np hd k).lp Z 13 [r] k (S_ t a_n i9 v10 sum5''')) (fun sum5'' i9=>r (Ai t a_n sum5'' i9)) sum5'' i9) (by kernel_rfl) (by simp only [aeC])
theorem aeA: ∀n sum5' i6,(np hd k).lp Z 5 [] n (Lf t a_n sum5' i6)=sk hd k (be Z) t a_n n sum5' i6:=bh (fun own=>xP hd k (be Z) t a_n (fun sum5'' i9=>oh hd k (be Z) t a_n k sum5'' i9) own) rfl (fun _=>rfl) fun r sum5' i6=>ak (b:=xP hd k (be Z) t a_n (fun sum5'' i9=>(np hd k).lp Z 10 [] k (Ai t a_n sum5'' i9)) (fun sum5' i6=>r (Lf t a_n sum5' i6)) sum5' i6) (by kernel_rfl) (by simp only [aeB])
theorem aez: ∀n sum5,(np hd k).jn Z 1000004 [] n (S9 t a_n sum5)=FD hd k (be Z) t a_n n sum5:=rL (CJ hd k (be Z) t a_n (fun sum5' i6=>sk hd k (be Z) t a_n k sum5' i6)) rfl (fun _=>rfl) (fun sum5=>ak (b:=CJ hd k (be Z) t a_n (fun sum5' i6=>(np hd k).lp Z 5 [] k (Lf t a_n sum5' i6)) sum5) (by kernel_rfl) (by simp only [aeA]))
end
theorem QS (o:Obj) (ho:ao o): ∀k:Nat,Tl o 263 (Mp (lr k:jF S))
 |0=>fT fun t a_n Z x h=>by cases h
 |k+1=>ap (np (lr k) k) ⟨zj k ho,QS o ho k,trivial⟩ func263 fun t a_n Z x h=>ak (b:=Oq (lr k) k (be Z) (fun sum5=>(np (lr k) k).jn Z 1000004 [] k (S9 t a_n sum5)) t a_n) (by kernel_rfl) (ak (by simp only [aez];rfl) h)
def Wg:Rw S:=am nX xn fun t a_from a_by Z=>ab k (Es k t a_from a_by) (dQ Z)
def Ig:Fx S:=fp 32 [(176,Mb k),(177,Gt k),(178,wm (dI k))] [(1000004,⟨[(1,aa),(2,aa),(3,aa),(6,aa),(8,aa)],[(3,[aa,aa,aa,aa,aa,aa]),(6,[aa,aa,aa,ar 200387,ar 200388,ar 200389])]⟩,aG 3 7)] k f326 0
def Ta (t:Tm) (a_from a_by:Int) (v8:Int):St UU:=⟨[(1,(iI a_from)),(2,(iI a_by)),(3,(pt 3)),(6,(pt 6)),(8,(iI v8))],[(3,bT t),(6,.cells [(iI 0),(iI 0),cx,(.own 200387 0),(.own 200388 0),(.own 200389 0)])],[(200389,b_),(200388,cu),(200387,cq)],[(200389,.wr),(200388,.wr),(200387,.wr)]⟩
section
variable (k:Nat) (t:Tm) (a_from a_by:Int) (Z:Out UU->Option S)
theorem aeD: ∀n v8,(Ig k).jn Z 1000004 [] n (Ta t a_from a_by v8)=KN k (dQ Z) t a_from a_by n v8:=rL (IL k (dQ Z) t a_from a_by)
end
theorem aiv (ho:ao o):Tl o 326 (Wg k:Rw S):=ap (Ig k) ⟨PZ k ho,JK k ho,zB o ho k,trivial⟩ func326 fun t a_from a_by Z x h=>ak (b:=On k (dQ Z) (fun v8=>(Ig k).jn Z 1000004 [] k (Ta t a_from a_by v8)) t a_from a_by) (by kernel_rfl) (ak (by simp only [aeD];rfl) (bp h))
def Wh:Rw S:=am nX xn fun t vars dims Z=>ab k (Er k t vars dims) (dQ Z)
def Ih:Fx S:=fp 43 [(36,wk k),(177,Gt k),(178,wm (dI k)),(326,Wg k)] [(1000004,⟨[(2,aa),(3,aa),(6,aa),(8,aa),(9,aa)],[(3,[aa,aa,aa,aa,aa,aa]),(6,[aa,aa,aa,ar 200387,ar 200388,ar 200389]),(8,[aa,aa,aa,aa,aa,aa])]⟩,aG 3 7)] k f299 0
def Tb (t:Tm) (r1:Tm×Int) (dims:Int) (v9:Int):St UU:=⟨[(2,(iI dims)),(3,(pt 3)),(6,(pt 6)),(8,(pt 8)),(9,(iI v9))],[(3,bT t),(6,.cells [(iI 0),(iI 0),cx,(.own 200387 0),(.own 200388 0),(.own 200389 0)]),(8,bT r1.1)],[(200389,b_),(200388,cu),(200387,cq)],[(200389,.wr),(200388,.wr),(200387,.wr)]⟩
section
variable (k:Nat) (t:Tm) (vars dims:Int) (Z:Out UU->Option S)
theorem aeE (r1): ∀n v9,(Ih k).jn Z 1000004 [] n (Tb t r1 dims v9)=KM k (dQ Z) t r1 dims n v9:=rL (IK k (dQ Z) t r1 dims)
end
theorem aiw (ho:ao o):Tl o 299 (Wh k:Rw S):=ap (Ih k) ⟨zk k ho,JK k ho,zB o ho k,aiv k ho,trivial⟩ func299 fun t vars dims Z x h=>ak (b:=Om k (dQ Z) (fun r1 v9=>(Ih k).jn Z 1000004 [] k (Tb t r1 dims v9)) t vars dims) (by kernel_rfl) (ak (by simp only [aeE];rfl) (bp h))
def Mq (hd:iE S):Rw S:=am Rx xn fun t a_n u vars dims Z=>hd t a_n u vars dims (aV Z)
def kY (hd:iE S) (k:Nat):Fx S:=fp 167 [(89,kO k),(174,wj k),(175,AQ k),(264,Mq hd),(299,Wh k)] [(1000006,⟨[(1,aa),(3,aa),(4,aa),(5,aa),(7,aa),(10,aa)],[(5,[aa,aa,aa,aa,aa,aa]),(7,[aa,aa,aa,aa,aa,aa]),(10,[aa,aa,aa,ar 200643,ar 200644,ar 200645])]⟩,aG 2 3),(1000009,⟨[(1,aa),(3,aa),(4,aa),(5,aa),(7,aa),(10,aa),(13,aa)],[(5,[aa,aa,aa,aa,aa,aa]),(7,[aa,aa,aa,aa,aa,aa]),(10,[aa,aa,aa,ar 200643,ar 200644,ar 200645]),(13,[aa,aa,aa,aa,ar 200836,ar 200837])]⟩,aG 4 15),(10,⟨[(1,aa),(3,aa),(4,aa),(5,aa),(7,aa),(10,aa),(13,aa),(14,aa)],[(5,[aa,aa,aa,aa,aa,aa]),(7,[aa,aa,aa,aa,aa,aa]),(10,[aa,aa,aa,ar 200643,ar 200644,ar 200645]),(13,[aa,aa,aa,aa,ar 200836,ar 200837])]⟩,aG 7 47),(18,⟨[(1,aa),(3,aa),(4,aa),(5,aa),(7,aa),(10,aa),(13,aa),(18,aa)],[(5,[aa,aa,aa,aa,aa,aa]),(7,[aa,aa,aa,aa,aa,aa]),(10,[aa,aa,aa,ar 200643,ar 200644,ar 200645]),(13,[aa,aa,aa,aa,ar 200836,ar 200837])]⟩,aG 8 95),(22,⟨[(1,aa),(3,aa),(4,aa),(5,aa),(7,aa),(10,aa),(13,aa),(18,aa),(19,aa),(20,aa)],[(5,[aa,aa,aa,aa,aa,aa]),(7,[aa,aa,aa,aa,aa,aa]),(10,[aa,aa,aa,ar 200643,ar 200644,ar 200645]),(13,[aa,aa,aa,aa,ar 200836,ar 200837]),(19,[aa,ar 201217])]⟩,aG 16 21087)] k f264 0
def Tc (t u:Tm) (a_n vars dims:Int):St UU:=⟨[(1,(iI a_n)),(3,(iI vars)),(4,(iI dims)),(5,(pt 5)),(7,(pt 7)),(10,(pt 10))],[(5,bT t),(7,bT u),(10,.cells [(iI 0),(iI 0),cx,(.own 200643 0),(.own 200644 0),(.own 200645 0)])],[(200645,b_),(200644,cu),(200643,cq)],[(200645,.wr),(200644,.wr),(200643,.wr)]⟩
def Td (t u:Tm) (a_n vars dims:Int) (bL:Int):St UU:=⟨[(1,(iI a_n)),(3,(iI vars)),(4,(iI dims)),(5,(pt 5)),(7,(pt 7)),(10,(pt 10)),(13,(pt 13))],[(5,bT t),(7,bT u),(10,.cells [(iI 0),(iI 0),cx,(.own 200643 0),(.own 200644 0),(.own 200645 0)]),(13,.cells [(iI t.kind),(iI bL),(.str t.name),(sC t.r),(.own 200836 0),(.own 200837 0)])],[(200837,b_),(200836,cu),(200645,b_),(200644,cu),(200643,cq)],[(200837,.wr),(200836,.wr),(200645,.wr),(200644,.wr),(200643,.wr)]⟩
def Lg (t:Tm) (bL:Int) (u:Tm) (a_n vars dims:Int) (b13_4:List Tm) (i14:Int):St UU:=⟨[(1,(iI a_n)),(3,(iI vars)),(4,(iI dims)),(5,(pt 5)),(7,(pt 7)),(10,(pt 10)),(13,(pt 13)),(14,(iI i14))],[(5,bT t),(7,bT u),(10,.cells [(iI 0),(iI 0),cx,(.own 200643 0),(.own 200644 0),(.own 200645 0)]),(13,.cells [(iI t.kind),(iI bL),(.str t.name),(sC t.r),(.own 200836 0),(.own 200837 0)])],[(200837,b_),(200836,⟨0,ET.T,b13_4⟩),(200645,b_),(200644,cu),(200643,cq)],[(200837,.wr),(200836,.wr),(200645,.wr),(200644,.wr),(200643,.wr)]⟩
def Aj (t:Tm) (bL:Int) (b13_4:List Tm) (u:Tm) (a_n vars dims:Int) (b13_5:List (Br Tm)) (i18:Int):St UU:=⟨[(1,(iI a_n)),(3,(iI vars)),(4,(iI dims)),(5,(pt 5)),(7,(pt 7)),(10,(pt 10)),(13,(pt 13)),(18,(iI i18))],[(5,bT t),(7,bT u),(10,.cells [(iI 0),(iI 0),cx,(.own 200643 0),(.own 200644 0),(.own 200645 0)]),(13,.cells [(iI t.kind),(iI bL),(.str t.name),(sC t.r),(.own 200836 0),(.own 200837 0)])],[(200837,⟨0,ET.B,b13_5⟩),(200836,⟨0,ET.T,b13_4⟩),(200645,b_),(200644,cu),(200643,cq)],[(200837,.wr),(200836,.wr),(200645,.wr),(200644,.wr),(200643,.wr)]⟩
def Te (t:Tm) (bL:Int) (b13_4:List Tm) (b13_5:List (Br Tm)) (x7:(Br Tm)) (u:Tm) (a_n i18 vars dims:Int) (b19_1:List Tm) (m20:Int):St UU:=⟨[(1,(iI a_n)),(3,(iI vars)),(4,(iI dims)),(5,(pt 5)),(7,(pt 7)),(10,(pt 10)),(13,(pt 13)),(18,(iI i18)),(19,(pt 19)),(20,(iI m20))],[(5,bT t),(7,bT u),(10,.cells [(iI 0),(iI 0),cx,(.own 200643 0),(.own 200644 0),(.own 200645 0)]),(13,.cells [(iI t.kind),(iI bL),(.str t.name),(sC t.r),(.own 200836 0),(.own 200837 0)]),(19,.cells [(sC x7.face),(.own 201217 0)])],[(201217,⟨0,ET.T,b19_1⟩),(200837,⟨0,ET.B,b13_5⟩),(200836,⟨0,ET.T,b13_4⟩),(200645,b_),(200644,cu),(200643,cq)],[(201217,.wr),(200837,.wr),(200836,.wr),(200645,.wr),(200644,.wr),(200643,.wr)]⟩
section
variable (hd:iE S) (k:Nat) (t:Tm) (a_n:Int) (u:Tm) (vars dims:Int) (Z:Out UU->Option S)
theorem aeJ (bL b13_4 b13_5 x7 i18 Z3): ∀n b19_1 m20,(kY hd k).lp Z 22 [Z3] n (Te t bL b13_4 b13_5 x7 u a_n i18 vars dims b19_1 m20)=pX hd k (aV Z) (fun b13_5 i18=>Z3 (Aj t bL b13_4 u a_n vars dims b13_5 i18)) t bL b13_4 b13_5 x7 u a_n i18 vars dims n b19_1 m20:=bh (CL hd k (aV Z) t bL b13_4 b13_5 x7 u a_n i18 vars dims (fun b13_5 i18=>Z3 (Aj t bL b13_4 u a_n vars dims b13_5 i18)))
theorem aeI (bL b13_4): ∀n b13_5 i18,(kY hd k).lp Z 18 [] n (Aj t bL b13_4 u a_n vars dims b13_5 i18)=oi hd k (aV Z) t bL b13_4 u a_n vars dims n b13_5 i18:=bh (fun own=>xS hd k (aV Z) t bL b13_4 u a_n vars dims (fun b13_5 x7 i18 b19_1 m20=>pX hd k (aV Z) own t bL b13_4 b13_5 x7 u a_n i18 vars dims k b19_1 m20) own) rfl (fun _=>rfl) fun r b13_5 i18=>ak (b:=xS hd k (aV Z) t bL b13_4 u a_n vars dims (fun b13_5 x7 i18 b19_1 m20=>(kY hd k).lp Z 22 [r] k (Te t bL b13_4 b13_5 x7 u a_n i18 vars dims b19_1 m20)) (fun b13_5 i18=>r (Aj t bL b13_4 u a_n vars dims b13_5 i18)) b13_5 i18) (by kernel_rfl) (by simp only [aeJ])
theorem aeH (bL): ∀n b13_4 i14,(kY hd k).lp Z 10 [] n (Lg t bL u a_n vars dims b13_4 i14)=pW hd k (aV Z) t bL u a_n vars dims n b13_4 i14:=bh (fun own=>xR hd k (aV Z) t bL u a_n vars dims (fun b13_4 b13_5 i18=>oi hd k (aV Z) t bL b13_4 u a_n vars dims k b13_5 i18) own) rfl (fun _=>rfl) fun r b13_4 i14=>ak (b:=xR hd k (aV Z) t bL u a_n vars dims (fun b13_4 b13_5 i18=>(kY hd k).lp Z 18 [] k (Aj t bL b13_4 u a_n vars dims b13_5 i18)) (fun b13_4 i14=>r (Lg t bL u a_n vars dims b13_4 i14)) b13_4 i14) (by kernel_rfl) (by simp only [aeI])
theorem aeG: ∀n bL,(kY hd k).jn Z 1000009 [] n (Td t u a_n vars dims bL)=vv hd k (aV Z) t u a_n vars dims n bL:=rL (IM hd k (aV Z) t u a_n vars dims (fun bL b13_4 i14=>pW hd k (aV Z) t bL u a_n vars dims k b13_4 i14)) rfl (fun _=>rfl) (fun bL=>ak (b:=IM hd k (aV Z) t u a_n vars dims (fun bL b13_4 i14=>(kY hd k).lp Z 10 [] k (Lg t bL u a_n vars dims b13_4 i14)) bL) (by kernel_rfl) (by simp only [aeH]))
theorem aeF: ∀n,(kY hd k).jn Z 1000006 [] n (Tc t u a_n vars dims)=zN hd k (aV Z) t u a_n vars dims n:=mG (tx hd k (aV Z) t u a_n vars dims (fun bL=>vv hd k (aV Z) t u a_n vars dims k bL)) rfl (fun _=>rfl) (ak (b:=tx hd k (aV Z) t u a_n vars dims (fun bL=>(kY hd k).jn Z 1000009 [] k (Td t u a_n vars dims bL))) (by kernel_rfl) (by simp only [aeG]))
end
theorem QV (o:Obj) (ho:ao o): ∀k:Nat,Tl o 264 (Mq (gj k:iE S))
 |0=>fT fun t a_n u vars dims Z x h=>by cases h
 |k+1=>ap (kY (gj k) k) ⟨lv k ho,zj k ho,EV k ho,QV o ho k,aiw k ho,trivial⟩ func264 fun t a_n u vars dims Z x h=>ak (b:=G_ (gj k) k (aV Z) ((kY (gj k) k).jn Z 1000006 [] k (Tc t u a_n vars dims)) t a_n u vars dims) (by kernel_rfl) (ak (by simp only [aeF];rfl) h)
def Wj:Rw S:=am Ry xn fun t a_n u Z=>ab k (yS k t a_n u) (aV Z)
def abH:Fx S:=fp 42 [(89,kO k),(166,Gq (kz k)),(167,Gr (jN k)),(263,Mp (lr k)),(264,Mq (gj k))] [] k f191 0
theorem aiy (ho:ao o):Tl o 191 (Wj k:Rw S):=ap (abH k) ⟨lv k ho,Kl o ho k,Km o ho k,QS o ho k,QV o ho k,trivial⟩ func191 fun t a_n u Z x h=>aE h
def Wl:Rw S:=am mI xn fun line a sys Z=>ab k (yW k line a sys) (aV Z)
def Ij:Fx S:=fp 61 [(90,Gu k),(122,j8 k),(125,wq k),(271,Ml k)] [(5,⟨[(2,aa),(3,aa),(6,aa),(7,aa),(8,aa)],[(3,[aa,aa,aa,aa,aa,aa]),(6,[aa,aa,aa,ar 200387,ar 200388,ar 200389]),(7,[aa,aa,aa,aa,aa,aa])]⟩,aG 6 23)] k f265 0
def Tf (line:Tm) (sys:List (Br Tm)) (b7:Tm) (i8:Int):St UU:=⟨[(2,(sB sys)),(3,(pt 3)),(6,(pt 6)),(7,(pt 7)),(8,(iI i8))],[(3,bT line),(6,.cells [(iI 0),(iI 0),cx,(.own 200387 0),(.own 200388 0),(.own 200389 0)]),(7,bT b7)],[(200389,b_),(200388,cu),(200387,cq)],[(200389,.wr),(200388,.wr),(200387,.wr)]⟩
section
variable (k:Nat) (line a:Tm) (sys:List (Br Tm)) (Z:Out UU->Option S)
theorem aeK: ∀n b7 i8,(Ij k).lp Z 5 [] n (Tf line sys b7 i8)=mL k (aV Z) line sys n b7 i8:=bh (tz k (aV Z) line sys)
end
theorem aiz (ho:ao o):Tl o 265 (Wl k:Rw S):=ap (Ij k) ⟨JL k ho,kE k ho,zm k ho,P8 k ho,trivial⟩ func265 fun line a sys Z x h=>ak (b:=Ow k (aV Z) (fun b7 i8=>(Ij k).lp Z 5 [] k (Tf line sys b7 i8)) line a sys) (by kernel_rfl) (ak (by simp only [aeK];rfl) (bp h))
def Wm:Rw S:=am mI xn fun line a sys Z=>ab k (Et k line a sys) (dQ Z)
def abI:Fx S:=fp 26 [(108,AV k),(215,Gy k),(216,Mj k),(265,Wl k)] [] k f193 0
theorem aiA (ho:ao o):Tl o 193 (Wm k:Rw S):=ap (abI k) ⟨EZ k ho,JP k ho,P6 k ho,aiz k ho,trivial⟩ func193 fun line a sys Z x h=>aE h
def Wn:Rw S:=am mI xn fun a_k a sys Z=>ab k (EE k a_k a sys) (aV Z)
def abJ:Fx S:=fp 59 [(122,j8 k),(127,Mm k),(128,mZ k),(189,Wd k),(190,Mn k),(191,Wj k),(192,Wf k),(193,Wm k)] [] k f110 0
theorem aiB (ho:ao o):Tl o 110 (Wn k:Rw S):=ap (abJ k) ⟨kE k ho,P9 k ho,nP k ho,ais k ho,P_ k ho,aiy k ho,aiu k ho,aiA k ho,trivial⟩ func110 fun a_k a sys Z x h=>aE h
def AX:Rw S:=am akU xn fun kind a b c Z=>ab k (nF k kind a b c) (aV Z)
def abK:Fx S:=fp 15 [(214,Gx k)] [] k f266 0
theorem E0 (ho:ao o):Tl o 266 (AX k:Rw S):=ap (abK k) ⟨JO k ho,trivial⟩ func266 fun kind a b c Z x h=>aE h
def Wo:Rw S:=am akV xn fun p a b a_r Z=>ab k (y8 k p a b a_r) (aV Z)
def abL:Fx S:=fp 20 [(266,AX k)] [] k f194 0
theorem aiC (ho:ao o):Tl o 194 (Wo k:Rw S):=ap (abL k) ⟨E0 k ho,trivial⟩ func194 fun p a b a_r Z x h=>aE h
def Wp:Rw S:=am pG xn fun t a_by Z=>ab k (Ey k t a_by) (aV Z)
def abM:Fx S:=fp 22 [(88,Mc k),(89,kO k)] [] k f195 0
theorem aiD (ho:ao o):Tl o 195 (Wp k:Rw S):=ap (abM k) ⟨P0 k ho,lv k ho,trivial⟩ func195 fun t a_by Z x h=>aE h
def Wq:Rw S:=am mI xn fun a_k a sys Z=>ab k (EG k a_k a sys) (aV Z)
def Ik:Fx S:=fp 97 [(89,kO k),(122,j8 k),(124,mY k),(125,wq k),(128,mZ k),(179,wl k),(194,Wo k),(195,Wp k)] [(5,⟨[(2,aa),(6,aa),(7,aa),(8,aa),(9,aa),(10,aa)],[(6,[aa,aa,aa,ar 200387,ar 200388,ar 200389]),(7,[aa,aa,aa,aa,aa,aa]),(8,[aa,aa,aa,aa,aa,aa]),(9,[aa,aa,aa,aa,aa,aa])]⟩,aG 7 47)] k f111 0
def Tg (x1 x2:Tm) (sys:List (Br Tm)) (b9:Tm) (i10:Int):St UU:=⟨[(2,(sB sys)),(6,(pt 6)),(7,(pt 7)),(8,(pt 8)),(9,(pt 9)),(10,(iI i10))],[(6,.cells [(iI 0),(iI 0),cx,(.own 200387 0),(.own 200388 0),(.own 200389 0)]),(7,bT x1),(8,bT x2),(9,bT b9)],[(200389,b_),(200388,cu),(200387,cq)],[(200389,.wr),(200388,.wr),(200387,.wr)]⟩
section
variable (k:Nat) (a_k a:Tm) (sys:List (Br Tm)) (Z:Out UU->Option S)
theorem aeL (x1 x2): ∀n b9 i10,(Ik k).lp Z 5 [] n (Tg x1 x2 sys b9 i10)=ot k (aV Z) x1 x2 sys n b9 i10:=bh (tF k (aV Z) x1 x2 sys)
end
theorem aiE (ho:ao o):Tl o 111 (Wq k:Rw S):=ap (Ik k) ⟨lv k ho,kE k ho,nO k ho,zm k ho,nP k ho,zl k ho,aiC k ho,aiD k ho,trivial⟩ func111 fun a_k a sys Z x h=>ak (b:=OE k (aV Z) (fun x1 x2 b9 i10=>(Ik k).lp Z 5 [] k (Tg x1 x2 sys b9 i10)) a_k a sys) (by kernel_rfl) (ak (by simp only [aeL];rfl) (bp h))
def Wr:Rw S:=am zF xn fun kind kids Z=>ab k (Jr k kind kids) (AF Z)
def Il:Fx S:=fx 25 (fun _=>[]) (fun _=>false) [] [(2,⟨[(0,aa),(1,aa),(4,aa),(5,aa)],[(4,[aa,aa,aa,ar 200259,ar 200260,ar 200261])]⟩,aG 4 5)] k f214 true [] 0
def Th (kind:Int) (kids:List Tm) (i5:Int):St UU:=⟨[(0,(iI kind)),(1,(sT kids)),(4,(pt 4)),(5,(iI i5))],[(4,.cells [(iI 0),(iI 0),cx,(.own 200259 0),(.own 200260 0),(.own 200261 0)])],[(200261,b_),(200260,cu),(200259,cq)],[(200261,.wr),(200260,.wr),(200259,.wr)]⟩
section
variable (k:Nat) (kind:Int) (kids:List Tm) (Z:Out UU->Option S)
theorem aeM: ∀n i5,(Il k).lp Z 2 [] n (Th kind kids i5)=FE k (AF Z) kind kids n i5:=dO (IP k (AF Z) kind kids)
end
theorem aiF (ho:ao o):Tl o 214 (Wr k:Rw S):=ap (Il k) trivial func214 fun kind kids Z x h=>ak (b:=Oy k (AF Z) (fun i5=>(Il k).lp Z 2 [] k (Th kind kids i5)) kind kids) (by kernel_rfl) (ak (by simp only [aeM];rfl) (bp h))
def Wt:Rw S:=am Rg xn fun kind a Z=>ab k (Ev k kind a) (AF Z)
def abO:Fx S:=fx 9 (fun _=>[]) (fun _=>false) [(214,Wr k)] [] k f128 true [] 0
theorem aiH (ho:ao o):Tl o 128 (Wt k:Rw S):=ap (abO k) ⟨aiF k ho,trivial⟩ func128 fun kind a Z x h=>aE h
def Wu:Rw S:=am akJ xn fun t a f y Z=>ab k (yZ k t a f y) (aV Z)
def abP:Fx S:=fp 22 [(122,j8 k),(124,mY k),(188,sY k),(266,AX k)] [] k f301 0
theorem aiI (ho:ao o):Tl o 301 (Wu k:Rw S):=ap (abP k) ⟨kE k ho,nO k ho,uw k ho,E0 k ho,trivial⟩ func301 fun t a f y Z x h=>aE h
def Wv:Rw S:=am eh xn fun t Z=>ab k (yX k t) (aV Z)
def abQ:Fx S:=fp 15 [(122,j8 k),(124,mY k),(188,sY k),(266,AX k)] [] k f300 0
theorem aiJ (ho:ao o):Tl o 300 (Wv k:Rw S):=ap (abQ k) ⟨kE k ho,nO k ho,uw k ho,E0 k ho,trivial⟩ func300 fun t Z x h=>aE h
def Ww:Rw S:=am zG xn fun t a Z=>ab k (yY k t a) (aV Z)
def abR:Fx S:=fp 27 [(122,j8 k),(124,mY k),(188,sY k),(300,Wv k),(301,Wu k)] [] k f267 0
theorem aiK (ho:ao o):Tl o 267 (Ww k:Rw S):=ap (abR k) ⟨kE k ho,nO k ho,uw k ho,aiJ k ho,aiI k ho,trivial⟩ func267 fun t a Z x h=>aE h
def Wx:Rw S:=am zG xn fun t a Z=>ab k (Eu k t a) (dQ Z)
def abS:Fx S:=fp 21 [(108,AV k),(215,Gy k),(267,Ww k)] [] k f196 0
theorem aiL (ho:ao o):Tl o 196 (Wx k:Rw S):=ap (abS k) ⟨EZ k ho,JP k ho,aiK k ho,trivial⟩ func196 fun t a Z x h=>aE h
def Wy:Rw S:=am gJ xn fun a_r Z=>ab k (Js k a_r) (aV Z)
def abT:Fx S:=fp 13 [(128,mZ k),(188,sY k),(266,AX k)] [] k f268 0
theorem aiM (ho:ao o):Tl o 268 (Wy k:Rw S):=ap (abT k) ⟨nP k ho,uw k ho,E0 k ho,trivial⟩ func268 fun a_r Z x h=>aE h
def Wz:Rw S:=am cn xn fun Z=>ab k (Jq k) (aV Z)
def abU:Fx S:=fp 24 [(122,j8 k),(128,mZ k),(188,sY k),(268,Wy k)] [] k f197 0
theorem aiN (ho:ao o):Tl o 197 (Wz k:Rw S):=ap (abU k) ⟨kE k ho,nP k ho,uw k ho,aiM k ho,trivial⟩ func197 fun Z x h=>aE h
def WA:Rw S:=am Kv xn fun a sys Z=>ab k (EH k a sys) (aV Z)
def Im:Fx S:=fp 78 [(90,Gu k),(122,j8 k),(124,mY k),(128,Wt k),(190,Mn k),(196,Wx k),(197,Wz k)] [(3,⟨[(1,aa),(2,aa),(4,aa),(5,aa),(6,aa)],[(2,[aa,aa,aa,aa,aa,aa]),(4,[aa,aa,aa,ar 200259,ar 200260,ar 200261]),(5,[aa,aa,aa,ar 200323,aa,ar 200325])]⟩,aG 5 11)] k f112 0
def Tj (a:Tm) (r2:Int×Int×ByteArray×List Tm) (sys:List (Br Tm)) (b5_5:List (Br Tm)) (i6:Int):St UU:=⟨[(1,(sB sys)),(2,(pt 2)),(4,(pt 4)),(5,(pt 5)),(6,(iI i6))],[(2,bT a),(4,.cells [(iI 0),(iI 0),cx,(.own 200259 0),(.own 200260 0),(.own 200261 0)]),(5,.cells [(iI r2.1),(iI r2.2.1),(.str r2.2.2.1),(.own 200323 0),(sT r2.2.2.2),(.own 200325 0)])],[(200325,⟨0,ET.B,b5_5⟩),(200323,cq),(200261,b_),(200260,cu),(200259,cq)],[(200325,.wr),(200323,.wr),(200261,.wr),(200260,.wr),(200259,.wr)]⟩
section
variable (k:Nat) (a:Tm) (sys:List (Br Tm)) (Z:Out UU->Option S)
theorem aeO (r2): ∀n b5_5 i6,(Im k).lp Z 3 [] n (Tj a r2 sys b5_5 i6)=sq k (aV Z) a r2 sys n b5_5 i6:=bh (xW k (aV Z) a r2 sys)
end
theorem aiO (ho:ao o):Tl o 112 (WA k:Rw S):=ap (Im k) ⟨JL k ho,kE k ho,nO k ho,aiH k ho,P_ k ho,aiL k ho,aiN k ho,trivial⟩ func112 fun a sys Z x h=>ak (b:=OF k (aV Z) (fun r2 b5_5 i6=>(Im k).lp Z 3 [] k (Tj a r2 sys b5_5 i6)) a sys) (by kernel_rfl) (ak (by simp only [aeO];rfl) (bp h))
def WB:Rw S:=am eh xn fun g Z=>ab k (EC k g) (mT Z)
def Io:Fx S:=fp 32 [] [(3,⟨[(1,aa),(3,ar 100003),(4,aa)],[(1,[aa,aa,aa,aa,aa,aa])]⟩,aG 5 11)] k f121 0
def Tk (g:Tm) (out3:List (Br Tm)) (i4:Int):St UU:=⟨[(1,(pt 1)),(3,(.own 100003 0)),(4,(iI i4))],[(1,bT g)],[(100003,⟨0,ET.B,out3⟩)],[(100003,.wr)]⟩
section
variable (k:Nat) (g:Tm) (Z:Out UU->Option S)
theorem aeP: ∀n out3 i4,(Io k).lp Z 3 [] n (Tk g out3 i4)=vC k (mT Z) g n out3 i4:=bh (CS k (mT Z) g)
end
theorem aiP (ho:ao o):Tl o 121 (WB k:Rw S):=ap (Io k) trivial func121 fun g Z x h=>ak (b:=OB k (mT Z) (fun out3 i4=>(Io k).lp Z 3 [] k (Tk g out3 i4)) g) (by kernel_rfl) (ak (by simp only [aeP];rfl) (bp h))
def WC:Rw S:=am Kv xn fun a es Z=>ab k (ug k a es) (aV Z)
def abV:Fx S:=fp 14 [(128,mZ k)] [] k f123 0
theorem aiQ (ho:ao o):Tl o 123 (WC k:Rw S):=ap (abV k) ⟨nP k ho,trivial⟩ func123 fun a es Z x h=>aE h
def WD:Rw S:=am eh xn fun a_e Z=>ab k (Ez k a_e) (aV Z)
def abX:Fx S:=fp 5 [(128,mZ k)] [] k f126 0
theorem aiR (ho:ao o):Tl o 126 (WD k:Rw S):=ap (abX k) ⟨nP k ho,trivial⟩ func126 fun a_e Z x h=>aE h
def WE:Rw S:=am mI xn fun t a sys Z=>ab k (EB k t a sys) (aV Z)
def abY:Fx S:=fp 17 [(122,j8 k)] [] k f129 0
theorem aiS (ho:ao o):Tl o 129 (WE k:Rw S):=ap (abY k) ⟨kE k ho,trivial⟩ func129 fun t a sys Z x h=>aE h
def WF:Rw S:=am eh xn fun t Z=>ab k (EA k t) (aV Z)
def qS:Fx S:=fp 175 [(89,kO k),(121,WB k),(122,j8 k),(123,WC k),(124,mY k),(125,wq k),(126,WD k),(127,Mm k),(128,mZ k),(129,WE k)] [(8,⟨[(1,aa),(2,aa),(3,aa),(4,aa),(5,aa),(6,aa),(7,aa)],[(1,[aa,aa,aa,aa,aa,aa]),(2,[aa,aa,aa,ar 200131,ar 200132,ar 200133]),(3,[aa,aa,aa,aa,aa,aa]),(4,[aa,aa,aa,aa,aa,aa]),(6,[aa,aa,aa,aa,aa,aa])]⟩,aG 9 191),(15,⟨[(1,aa),(2,aa),(3,aa),(4,aa),(6,aa),(9,aa)],[(1,[aa,aa,aa,aa,aa,aa]),(2,[aa,aa,aa,ar 200131,ar 200132,ar 200133]),(3,[aa,aa,aa,aa,aa,aa]),(4,[aa,aa,aa,aa,aa,aa]),(6,[aa,aa,aa,aa,aa,aa])]⟩,aG 10 383),(26,⟨[(1,aa),(2,aa),(3,aa),(4,aa),(13,aa),(14,aa)],[(1,[aa,aa,aa,aa,aa,aa]),(2,[aa,aa,aa,ar 200131,ar 200132,ar 200133]),(3,[aa,aa,aa,aa,aa,aa]),(4,[aa,aa,aa,aa,aa,aa]),(13,[aa,aa,aa,aa,aa,aa])]⟩,aG 12 1535)] k f65 0
def Lh (t x2 x3:Tm) (r4:List (Br Tm)) (b6:Tm) (i7:Int):St UU:=⟨[(1,(pt 1)),(2,(pt 2)),(3,(pt 3)),(4,(pt 4)),(5,(sB r4)),(6,(pt 6)),(7,(iI i7))],[(1,bT t),(2,.cells [(iI 0),(iI 0),cx,(.own 200131 0),(.own 200132 0),(.own 200133 0)]),(3,bT x2),(4,bT x3),(6,bT b6)],[(200133,b_),(200132,cu),(200131,cq)],[(200133,.wr),(200132,.wr),(200131,.wr)]⟩
def Li (t x2 x3:Tm) (b6':Tm) (i9:Int):St UU:=⟨[(1,(pt 1)),(2,(pt 2)),(3,(pt 3)),(4,(pt 4)),(6,(pt 6)),(9,(iI i9))],[(1,bT t),(2,.cells [(iI 0),(iI 0),cx,(.own 200131 0),(.own 200132 0),(.own 200133 0)]),(3,bT x2),(4,bT x3),(6,bT b6')],[(200133,b_),(200132,cu),(200131,cq)],[(200133,.wr),(200132,.wr),(200131,.wr)]⟩
def Tn (t x2 x3:Tm) (b13:Tm) (i14:Int):St UU:=⟨[(1,(pt 1)),(2,(pt 2)),(3,(pt 3)),(4,(pt 4)),(13,(pt 13)),(14,(iI i14))],[(1,bT t),(2,.cells [(iI 0),(iI 0),cx,(.own 200131 0),(.own 200132 0),(.own 200133 0)]),(3,bT x2),(4,bT x3),(13,bT b13)],[(200133,b_),(200132,cu),(200131,cq)],[(200133,.wr),(200132,.wr),(200131,.wr)]⟩
section
variable (k:Nat) (t:Tm) (Z:Out UU->Option S)
theorem aeS (x2 x3): ∀n b13 i14,(qS k).lp Z 26 [] n (Tn t x2 x3 b13 i14)=p7 k (aV Z) t x2 x3 n b13 i14:=bh (CR k (aV Z) t x2 x3)
theorem aeR (x2 x3): ∀n b6' i9,(qS k).lp Z 15 [] n (Li t x2 x3 b6' i9)=om k (aV Z) t x2 x3 n b6' i9:=bh (fun own=>tC k (aV Z) t x2 x3 (fun b13 i14=>p7 k (aV Z) t x2 x3 k b13 i14) own) rfl (fun _=>rfl) fun r b6' i9=>ak (b:=tC k (aV Z) t x2 x3 (fun b13 i14=>(qS k).lp Z 26 [] k (Tn t x2 x3 b13 i14)) (fun b6' i9=>r (Li t x2 x3 b6' i9)) b6' i9) (by kernel_rfl) (by simp only [aeS])
theorem aeQ (x2 x3 r4): ∀n b6 i7,(qS k).lp Z 8 [] n (Lh t x2 x3 r4 b6 i7)=pZ k (aV Z) t x2 x3 r4 n b6 i7:=bh (fun own=>tB k (aV Z) t x2 x3 r4 (fun b6' i9=>om k (aV Z) t x2 x3 k b6' i9) own) rfl (fun _=>rfl) fun r b6 i7=>ak (b:=tB k (aV Z) t x2 x3 r4 (fun b6' i9=>(qS k).lp Z 15 [] k (Li t x2 x3 b6' i9)) (fun b6 i7=>r (Lh t x2 x3 r4 b6 i7)) b6 i7) (by kernel_rfl) (by simp only [aeR])
end
theorem aiT (ho:ao o):Tl o 65 (WF k:Rw S):=ap (qS k) ⟨lv k ho,aiP k ho,kE k ho,aiQ k ho,nO k ho,zm k ho,aiR k ho,P9 k ho,nP k ho,aiS k ho,trivial⟩ func65 fun t Z x h=>ak (b:=OA k (aV Z) (fun x2 x3 r4 b6 i7=>(qS k).lp Z 8 [] k (Lh t x2 x3 r4 b6 i7)) t) (by kernel_rfl) (ak (by simp only [aeQ];rfl) (bp h))
def WG:Rw S:=am eh xn fun t Z=>ab k (ED k t) (aV Z)
def abZ:Fx S:=fp 57 [(65,WF k),(109,Wc k),(110,Wn k),(111,Wq k),(112,WA k)] [] k f48 0
theorem aiU (ho:ao o):Tl o 48 (WG k:Rw S):=ap (abZ k) ⟨aiT k ho,air k ho,aiB k ho,aiE k ho,aiO k ho,trivial⟩ func48 fun t Z x h=>aE h
def WH:Rw S:=am zG xn fun t out Z=>ab k (Ew k t out) (Gi Z)
def ab0:Fx S:=fp 22 [(108,AV k)] [] k f47 0
theorem aiV (ho:ao o):Tl o 47 (WH k:Rw S):=ap (ab0 k) ⟨EZ k ho,trivial⟩ func47 fun t out Z x h=>aE h
def WI:Rw S:=am eh xn fun t Z=>ab k (y9 k t) (Gi Z)
def ab1:Fx S:=fp 19 [(36,wk k),(47,WH k),(48,WG k)] [] k f18 0
theorem aiW (ho:ao o):Tl o 18 (WI k:Rw S):=ap (ab1 k) ⟨zk k ho,aiV k ho,aiU k ho,trivial⟩ func18 fun t Z x h=>aE h
def Gz:Rw S:=am eh xn fun t Z=>ab k (DT k t) (a_ Z)
def ab2:Fx S:=fp 48 [(11,L6 (mu k)),(14,AO (gG k)),(15,VI k),(16,Wb k),(17,Mi k),(18,WI k)] [] k f4 0
theorem aiX (ho:ao o):Tl o 4 (Gz k:Rw S):=ap (ab2 k) ⟨QP o ho k,Kk o ho k,ahX k ho,aiq k ho,P5 k ho,aiW k ho,trivial⟩ func4 fun t Z x h=>aE h
section
variable (hd:acT S) (k:Nat) (t:Tm) (Z:Out UU->Option S)
end
section
variable (k:Nat) (a b:Tm) (Z:Out UU->Option S)
end
section
variable (hd:acR S) (k:Nat) (t:Tm) (Z:Out UU->Option S)
end
section
variable (k:Nat) (t:Tm) (vars many:Int) (Z:Out UU->Option S)
end
section
variable (hd:acS S) (k:Nat) (t:Tm) (Z:Out UU->Option S)
end
theorem as6 (o:Obj) (ho:ao o) (k:Nat):Tl o 4 (Gz k:Rw S):=aiX k ho
end
end Go.Proofs.YtgajalidbabccaaGreatDoor
namespace Go.Proofs.YtgajalidbabccaaGreatDoor
open Go PI
variable {S:Type} {k:Nat}
def bE {α β:Type} (x:Except Int α) (f:α->Except Int β):Except Int β:=match x with
 | .error e=> .error e
 | .ok a=>f a
theorem aF {α β:Type} (a:α) (f:α->Except Int β):bE (.ok a) f=f a:=rfl
theorem cA {α β:Type} (e:Int) (f:α->Except Int β):bE (.error e) f= .error e:=rfl
theorem aY {α β:Type} {x:Except Int α} {f:α->Except Int β} {b:β} (h:bE x f= .ok b): ∃a,x= .ok a/\f a= .ok b:=by
 cases x with
 |error e=>cases h
 |ok a=>exact ⟨a,rfl,h⟩
theorem ba {α β:Type} {x:Except Int α} {f:α->Except Int β} {e:Int} (h:bE x f= .error e):x= .error e\/ ∃a,x= .ok a/\f a= .error e:=by
 cases x with
 |error e=>injection h with h;grind
 |ok a=>exact .inr ⟨a,rfl,h⟩
def d9 (x:LC×Int):Except Int (LC):=if x.2=0 then .ok x.1 else .error x.2
theorem kV {x:LC×Int} (h:x.2=0):d9 x= .ok x.1:=if_pos h
theorem kg {x:LC×Int} (h:x.2≠0):d9 x= .error x.2:=if_neg h
theorem qF {x:LC×Int} {l:LC} (h:d9 x= .ok l):x.2=0/\x.1=l:=by
 grind [d9]
theorem He {x:LC×Int} {e:Int} (h:d9 x= .error e):x.2≠0/\x.2=e:=by
 grind [d9]
def EN (e:Int):Prop:=0<=e/\e<=1000
theorem zn:EN 0:=by unfold EN;omega
theorem pz:EN 2:=by unfold EN;omega
theorem en3:EN 3:=by unfold EN;omega
theorem ajF:EN 10:=by unfold EN;omega
theorem vO (l:LC):EN (ci l).2:=by
 grind [ci,en3,zn,pz]
theorem Fi {step:LC->Cl->LC×Int} (hs: ∀h c,EN (step h c).2): ∀ {r h:LC},EN (ct step h r).2:=by
 intro r
 induction r<;>grind [zn,ct]
theorem anX (s i b:Int):EN (eF s i b).2:=by
 grind [eF,pz,it,zn,ajF]
theorem anL (c:Cl) (i b:Int):EN (fM c i b).2:=by
 grind [fM,anX,pz]
theorem sG (f:LC) (i b:Int):EN (bP f i b).2:=by
 unfold bP
 split
 ·split
  ·exact vO _
  ·exact Fi fun h c=>anL c i b
 ·exact pz
theorem Zi {n b x y:Nat} (h:gQ n b x=gQ n b y):x=y:=by
 grind [gQ]
theorem atm (n b:Nat) {l:List Nat} (h:l.Nodup):(l.map (gQ n b)).Nodup:=
 List.Pairwise.map (S:=fun a b=>a≠b) (R:=fun a b=>a≠b) _ (fun x y hxy h=>hxy (Zi h)) h
theorem anV {m n b:Nat} (h:(it m n b).2=0) (j:Nat):(it m n b).1.testBit j=true↔ ∃x,x<24/\m.testBit x=true/\gQ n b x=j:=by
 rw [KT] at h ⊢
 split<;>grind [th,atm,tH,mem_bitsN]
theorem afF {m:Nat} (h:m<16777216):m&&&M24=m:=by
 apply g6
 grind [lg,oX]
theorem anT {m n b:Nat} (hm:m<16777216) (h:b=0\/24<=n):it m n b=(m,0):=by
 rw [KT,if_neg]
 ·have:(c7 m).map (gQ n b)=c7 m:=by
   refine (List.map_congr_left fun x hx=> ?_).trans (List.map_id _)
   grind [mem_bitsN,gQ]
  simp_all [Nc,afF]
 grind [mem_bitsN]
theorem anM {c:Cl} {i b:Int} (hc:RC c) (hi:0<=i) (hb:0<=b) (h:b=0\/24<=i):fM c i b=(c,0):=by
 have h1:c.pos.toNat<16777216:=by have:=hc.1;omega
 have h2:c.neg.toNat<16777216:=by have:=hc.2;omega
 have hs: ∀s:Int,0<=s->s.toNat<16777216->eF s i b=(s,0):=fun s h0 hs=>by
  grind [eF,anT]
 unfold fM
 rw [if_pos ((GK hc.ok).2 hc),hs _ hc.1.1 h1,hs _ hc.2.1 h2];rfl
theorem ajZ {i b:Int}: ∀ {r h:LC},(ct (gq i b) h r).2=0->(∀c∈r,(fM c i b).2=0)/\(ct (gq i b) h r).1=h++r.map fun c=>(fM c i b).1:=by
 intro r
 induction r<;>grind [ct,gq]
theorem aj0 {i b:Int}: ∀ {r h:LC},(∀c∈r,fM c i b=(c,0))->ct (gq i b) h r=(h++r,0):=by
 intro r
 induction r<;>grind [ct,gq]
theorem anO {f:LC} {i b:Int} (hf:RF f) (hi:0<=i) (hb:0<=b) (h:b=0\/24<=i):bP f i b=(f,0):=by
 unfold bP
 rw [if_pos hf.right,aj0 fun c hc=>anM (hf.rc hc) hi hb h,if_pos rfl]
 exact hf.1
theorem anP {f:LC} {i b:Int} (h:(bP f i b).2=0): ∀c∈(bP f i b).1,∃d∈f,(fM d i b).2=0/\c=(fM d i b).1:=by
 grind [bP,ajZ,ci,mem_mins]
theorem agi {c:Cl}:c6 c=false↔ ∀j,¬ (c.pos.toNat.testBit j=true/\c.neg.toNat.testBit j=true):=by
 unfold c6
 rw [Bool.not_eq_false',decide_eq_true_eq]
 constructor
 ·intro h j ⟨h1,h2⟩
  have:(c.pos.toNat&&&c.neg.toNat).testBit j=true:=by grind
  grind
 ·intro h
  apply g6
  grind
theorem anW {s i b:Int} (h:(eF s i b).2=0) {j:Nat} (hj:(eF s i b).1.toNat.testBit j=true): ∃x,s.toNat.testBit x=true/\gQ i.toNat b.toNat x=j:=by
 unfold eF at h hj
 split at h
 ·cases h
 ·next hn=>
  rw [if_neg hn] at hj
  have h':(it s.toNat i.toNat b.toNat).2=0:=by
   omega
  obtain ⟨x,_,h2,h3⟩:=(anV h' j).1 hj
  grind
theorem anK {c:Cl} {i b:Int} (h:(fM c i b).2=0) (hc:c6 c=false):c6 (fM c i b).1=false:=by
 grind [agi,fM,anW,Zi]
def d8 (d b:Int) (f:LC):Except Int (LC):=if b=0\/d>=24 then .ok f else d9 (bP f d b)
theorem MI {d b:Int} {f g:LC} (hf:RF f) (h:d8 d b f= .ok g):RF g:=by
 grind [d8,qF,mP]
theorem GL {d b:Int} {f:LC} {e:Int} (h:d8 d b f= .error e):0<e/\e<=1000:=by
 grind [d8,He,sG,EN]
theorem aql {d b:Int} {f g:LC} (hf:f.all (fun c=> !c6 c)=true) (h:d8 d b f= .ok g):g.all (fun c=> !c6 c)=true:=by
 grind [d8,qF,anP,anK]
theorem GM (d b:Int):d8 d b []= .ok []:=by
 unfold d8
 split
 all_goals rfl
mutual
def bJ (vb db v d:Int):Tm->Except Int Tm
 | .mk kd n nm r ks sys=>
  if kd=1/\n>=v/\n>1000000000-vb then .error 100
  else bE (d8 d db r) fun r'=>bE (eD vb db v d kd 0 ks) fun ks'=>bE (eG vb db v d kd sys) fun sys'=> .ok (.mk kd (if kd=1/\n>=v then n+vb else n) nm r' ks' sys')
def eD (vb db v d kd:Int) (i:Nat):LT->Except Int (LT)
 |[]=> .ok []
 |t::l=>bE (bJ vb db (v+cv kd i) (d+cF kd i) t) fun t'=>bE (eD vb db v d kd (i+1) l) fun l'=> .ok (t'::l')
def eG (vb db v d kd:Int):LB->Except Int (LB)
 |[]=> .ok []
 |b::l=>bE (sF vb db v d kd b) fun b'=>bE (eG vb db v d kd l) fun l'=> .ok (b'::l')
def sF (vb db v d kd:Int):Br Tm->Except Int (Br Tm)
 | .mk f ks=>bE (d8 d db f) fun f'=>bE (ei vb db v d kd ks) fun ks'=> .ok (.mk f' ks')
def ei (vb db v d kd:Int):LT->Except Int (LT)
 |[]=> .ok []
 |t::l=>bE (bJ vb db v (d+aW kd) t) fun t'=>bE (ei vb db v d kd l) fun l'=> .ok (t'::l')
end
mutual
def RowsT:Tm->Prop
 | .mk kd n nm r ks sys=>(RF r/\(kd=1->r=[])/\0<=kd)/\gx ks/\ig sys
def gx:LT->Prop
 |[]=>True
 |t::l=>RowsT t/\gx l
def ig:LB->Prop
 |[]=>True
 |b::l=>q_ b/\ig l
def q_:Br Tm->Prop
 | .mk f ks=>RF f/\gx ks
end
theorem rowsK_iff: ∀ {l:LT},gx l↔ ∀t∈l,RowsT t:=by
 intro l
 induction l<;>grind [gx]
theorem ML {b:Br Tm}:q_ b↔RF b.face/\ ∀t∈b.kids,RowsT t:=by cases b;rw [q_,rowsK_iff]
theorem rowsS_iff: ∀ {l:LB},ig l↔ ∀b∈l,RF b.face/\ ∀t∈b.kids,RowsT t:=by
 intro l
 induction l<;>grind [ig,ML]
inductive F2 {α β:Type} (R:α->β->Prop):List α->List β->Prop
 |nil:F2 R [] []
 |cons {a:α} {b:β} {l:List α} {m:List β}:R a b->F2 R l m->F2 R (a::l) (b::m)
theorem F2.len {α β:Type} {R:α->β->Prop} {l:List α} {m:List β} (h:F2 R l m):m.length=l.length:=by
 induction h<;>grind
theorem F2.imp {α β:Type} {R Q:α->β->Prop} {l:List α} {m:List β} (h:F2 R l m) (hq: ∀a b,R a b->Q a b):F2 Q l m:=by
 induction h<;>grind [nil,cons]
theorem anR {vb db v d kd:Int} {R:Tm->Tm->Prop}: ∀ {l:LT} {i:Nat} {l':LT},(∀x∈l,∀v d x',bJ vb db v d x= .ok x'->R x x')->eD vb db v d kd i l= .ok l'->F2 R l l':=by
 intro l
 induction l with
 |nil=>intro i l' _ h;rw [eD] at h;injection h with h;subst h;exact .nil
 |cons t l ih=>
  intro i l' hr h
  rw [eD] at h
  obtain ⟨t',h1,h⟩:=aY h
  obtain ⟨m,h2,h⟩:=aY h
  injection h with h;subst h
  exact .cons (hr t (by simp) _ _ _ h1) (ih (fun x hx=>hr x (by simp [hx])) h2)
theorem anS {vb db v d kd:Int} {R:Tm->Tm->Prop}: ∀ {l:LT} {l':LT},(∀x∈l,∀v d x',bJ vb db v d x= .ok x'->R x x')->ei vb db v d kd l= .ok l'->F2 R l l':=by
 intro l
 induction l with
 |nil=>intro l' _ h;rw [ei] at h;injection h with h;subst h;exact .nil
 |cons t l ih=>
  intro l' hr h
  rw [ei] at h
  obtain ⟨t',h1,h⟩:=aY h
  obtain ⟨m,h2,h⟩:=aY h
  injection h with h;subst h
  exact .cons (hr t (by simp) _ _ _ h1) (ih (fun x hx=>hr x (by simp [hx])) h2)
theorem anY {vb db v d kd:Int} {R:Tm->Tm->Prop}: ∀ {l l':LB},(∀b∈l,∀x∈b.kids,∀v d x',bJ vb db v d x= .ok x'->R x x')->eG vb db v d kd l= .ok l'->
  F2 (fun b b'=>d8 d db b.face= .ok b'.face/\F2 R b.kids b'.kids) l l':=by
 intro l
 induction l with
 |nil=>intro l' _ h;rw [eG] at h;injection h with h;subst h;exact .nil
 |cons b l ih=>
  intro l' hr h
  rw [eG] at h
  obtain ⟨b',h1,h⟩:=aY h
  obtain ⟨m,h2,h⟩:=aY h
  injection h with h;subst h
  cases b with
  |mk f ks=>
   rw [sF] at h1
   obtain ⟨f',h3,h1⟩:=aY h1
   obtain ⟨ks',h4,h1⟩:=aY h1
   injection h1 with h1;subst h1
   exact .cons ⟨h3,anS (hr ⟨f,ks⟩ (by simp)) h4⟩ (ih (fun b hb=>hr b (by simp [hb])) h2)
theorem FJ {f:LC} {d:Int} (h:24<=d):eo f d=true:=by
 grind [eo,mem_bitsN]
def Up (x x':Tm):Prop:=aw x'=aw x/\ax x'=ax x/\x'.kind=x.kind/\(OkT x->OkT x'/\(RowsT x->RowsT x')/\ ∀dd dd',24<=dd->24<=dd'->bM false (-1) dd x=true->bM false (-1) dd' x'=true)
theorem Zm {l l':LT} (h:F2 Up l l'):a7 l'=a7 l:=by
 induction h with
 |nil=>rfl
 |cons h1 _ ih=>rw [a7,a7,h1.1,ih]
theorem Zp {l l':LT} (h:F2 Up l l'):aK l'=aK l:=by
 induction h with
 |nil=>rfl
 |cons h1 _ ih=>rw [aK,aK,h1.2.1,ih]
theorem atv {l l':LB} (h:F2 (fun b b':Br Tm=>F2 Up b.kids b'.kids) l l'):bg l'=bg l:=by
 induction h with
 |nil=>rfl
 |cons h1 _ ih=>grind [bg,uk,Zm]
theorem atw {l l':LB} (h:F2 (fun b b':Br Tm=>F2 Up b.kids b'.kids) l l'):aX l'=aX l:=by
 induction h with
 |nil=>rfl
 |cons h1 _ ih=>grind [aX,m9,Zp]
theorem Zn {l l':LT} (h:F2 Up l l'):bo l->bo l':=by
 induction h with
 |nil=>exact id
 |cons h1 _ ih=>rw [bo,bo];exact fun h=>⟨(h1.2.2.2 h.1).1,ih h.2⟩
theorem Zo {l l':LT} (h:F2 Up l l'):bo l->gx l->gx l':=by
 induction h with
 |nil=>simp
 |cons h1 _ ih=>rw [bo,gx,gx];exact fun h g=>⟨(h1.2.2.2 h.1).2.1 g.1,ih h.2 g.2⟩
theorem Hh (v:Int):dL (-1) v= -1:=by rfl
theorem att {kd dd dd':Int} (h1:24<=dd) (h2:24<=dd') {l l':LT} (h:F2 Up l l'): ∀ {i:Nat},bo l->cz false (-1) dd kd i l=true->cz false (-1) dd' kd i l'=true:=by
 induction h with
 |nil=>exact fun _ h=>h
 |cons h3 _ ih=>
  intro i
  rw [bo,cz,cz,aZ,aZ,Hh]
  have:=jJ kd i
  exact fun h g=>⟨(h3.2.2.2 h.1).2.2 _ _ (by omega) (by omega) g.1,ih h.2 g.2⟩
theorem atu {kd dd dd':Int} (h1:24<=dd) (h2:24<=dd') {l l':LT} (h:F2 Up l l'):bo l->c_ false (-1) dd kd l=true->c_ false (-1) dd' kd l'=true:=by
 induction h with
 |nil=>exact fun _ h=>h
 |cons h3 _ ih=>
  rw [bo,c_,c_,aZ,aZ]
  have:=fO kd
  exact fun h g=>⟨(h3.2.2.2 h.1).2.2 _ _ (by omega) (by omega) g.1,ih h.2 g.2⟩
def tt (d db:Int) (b b':Br Tm):Prop:=d8 d db b.face= .ok b'.face/\F2 Up b.kids b'.kids
theorem XE {d db:Int} {f g:LC} (h:d8 d db f= .ok g) (hf:aI f) (hl:f.length<1073741824):aI g/\g.length<1073741824:=by
 unfold d8 at h
 split at h
 ·grind
 ·obtain ⟨h1,rfl⟩:=qF h
  have:=mP h1
  exact ⟨this.2,by have:=this.len;omega⟩
theorem XF {d db:Int} {f g:LC} (h:d8 d db f= .ok g) (hf:aI f) (hr:cD f=true):cD g=true:=(MI ((jx hf).1 hr) h).right
theorem XD {d db:Int} {f g:LC} (h:d8 d db f= .ok g) (hf:aI f) (hr:ep f=true):ep g=true:=by
 grind [ep,XF,aql]
theorem XC {d db:Int} {f g:LC} (h:d8 d db f= .ok g) (hf:f.length=0):g.length=0:=by
 grind [GM]
theorem atp {d db:Int} {l l':LB} (h:F2 (tt d db) l l'):bH l->bH l':=by
 induction h with
 |nil=>exact id
 |cons h1 _ ih=>
  rw [bH,bH,sM,sM]
  intro h
  have h3:=XE h1.1 h.1.1.1 h.1.1.2.1
  exact ⟨⟨⟨h3.1,h3.2,by have:=h1.2.len;omega⟩,okK_iff.1 (Zn h1.2 (okK_iff.2 h.1.2))⟩,ih h.2⟩
theorem atr {d db:Int} {l l':LB} (h:F2 (tt d db) l l'):bH l->ig l->ig l':=by
 induction h with
 |nil=>simp
 |cons h1 _ ih=>
  rw [bH,sM,ig,ig,ML,ML]
  intro h g
  exact ⟨⟨MI g.1.1 h1.1,rowsK_iff.1 (Zo h1.2 (okK_iff.2 h.1.2) (rowsK_iff.2 g.1.2))⟩,ih h.2 g.2⟩
theorem ato {d db kd dd dd':Int} (h1:24<=dd) (h2:24<=dd') {l l':LB} (h:F2 (tt d db) l l'):bH l->c5 false (-1) dd kd l=true->c5 false (-1) dd' kd l'=true:=by
 induction h with
 |nil=>exact fun _ h=>h
 | @cons a b _ _ h3 _ ih=>
  rw [bH,sM,c5,c5,aZ,aZ]
  intro h g
  refine ⟨?_,ih h.2 g.2⟩
  cases a;cases b
  have g1:=g.1
  rw [mf] at g1 ⊢
  exact atu h1 h2 h3.2 (okK_iff.2 h.1.2) g1
theorem atq {d db kd dd dd':Int} (h1:24<=dd) (h2:24<=dd') {l l':LB} (h:F2 (tt d db) l l'):bH l->l.all (cO kd dd)=true->l'.all (cO kd dd')=true:=by
 induction h with
 |nil=>simp
 | @cons a b _ _ h3 _ ih=>
  rw [bH,sM,List.all_cons,List.all_cons,aZ,aZ]
  intro h g
  refine ⟨?_,ih h.2 g.2⟩
  have g1:=g.1
  unfold cO at g1 ⊢
  rw [aZ,aZ,decide_eq_true_eq] at g1 ⊢
  rw [h3.2.len]
  exact ⟨g1.1,XD h3.1 h.1.1.1 g1.2.1,FJ h2⟩
theorem Zl {d db:Int} {l l':LB} (h:F2 (tt d db) l l'):F2 (fun b b':Br Tm=>F2 Up b.kids b'.kids) l l':=h.imp fun _ _ h=>h.2
theorem zQ {vb db:Int} (hvb:0<=vb) (hvb':vb<=1000000000) (t:Tm): ∀v d t',bJ vb db v d t= .ok t'->Up t t':=by
 induction t using kf with
 |h kd n nm r ks sys ih1 ih2=>
  intro v d t' h
  rw [bJ] at h
  split at h
  ·cases h
  next hv=>
  obtain ⟨r',hr,h⟩:=aY h
  obtain ⟨ks',hk,h⟩:=aY h
  obtain ⟨sys',hs,h⟩:=aY h
  injection h with h;subst h
  have fk:F2 Up ks ks':=anR (fun x hx v d x'=>ih1 x hx v d x') hk
  have fs:F2 (tt d db) sys sys':=anY (fun b hb x hx v d x'=>ih2 b hb x hx v d x') hs
  refine ⟨?_, ?_,rfl,fun hok=> ?_⟩
  ·grind [aw,Zm,atv,Zl]
  ·grind [ax,Zp,atw,Zl]
  ·obtain ⟨o1,o2,o3,o4,o5,o6,o7⟩:=hok.node
   have hok':=hok
   rw [OkT] at hok'
   obtain ⟨_,ok,os⟩:=hok'
   have hr':=XE hr o4 o5
   have o2':=o2
   unfold a6 at o2'
   refine ⟨?_, ?_, ?_⟩
   ·rw [OkT]
    refine ⟨⟨o1, ?_,o3,hr'.1,hr'.2,by rw [fk.len];exact o6,by rw [fs.len];exact o7⟩,Zn fk ok,atp fs os⟩
    grind [a6]
   ·grind [RowsT,MI,Zo,atr,GM]
   ·intro dd dd' h1 h2
    rw [bM,bM]
    simp only [Bool.false_and,ca,gR,aZ]
    rintro ⟨a,b,c⟩
    refine ⟨?_,att h1 h2 fk ok b,ato h1 h2 fs os c⟩
    unfold dE at a ⊢
    simp only [aZ,decide_eq_true_eq,fk.len,fs.len] at a ⊢
    grind [XC,XF,FJ,XD,atq]
theorem alx {kd:Int} {n:Nat} (h:fK kd=n):0<=kd:=by
 grind [fK]
theorem afD {bd:Bool} (t:Tm): ∀ {vars dims:Int},OkT t->bM bd vars dims t=true->RowsT t:=by
 induction t using kf with
 |h kd n nm r ks sys ih1 ih2=>
  intro vars dims hok h
  rw [bM,aZ,aZ,aZ] at h
  obtain ⟨_,a,b,c⟩:=h
  obtain ⟨o1,o2,o3,o4,o5,o6,o7⟩:=hok.node
  have hok':=hok
  rw [OkT] at hok'
  obtain ⟨_,ok,os⟩:=hok'
  have hkids: ∀ {l:LT} {i:Nat},(∀x∈l,∀ {vars dims:Int},OkT x->bM bd vars dims x=true->RowsT x)->bo l->cz bd vars dims kd i l=true->gx l:=by
   intro l
   induction l<;>grind [gx,cz,bo]
  rw [BB,dA] at c
  unfold dE at a
  simp only [aZ,decide_eq_true_eq] at a
  obtain ⟨⟨a1,a2,a3,a4⟩,a5⟩:=a
  have r0: ∀ {l:LC},l.length=0->RF l:=fun h=>by
   grind [wz]
  rw [RowsT]
  have hfaces:(sys=[]\/sys.all (cO kd dims)=true)/\RF r/\(kd=1->r=[]):=by
   have nosys:dF kd=0->sys=[]:=fun h=>kj.1 (a4 h)
   by_cases c1:kd=1
   ·rw [if_pos c1] at a5
    simp only [aZ,decide_eq_true_eq] at a5
    exact ⟨.inl (nosys (by subst c1;decide)),r0 a5.1,fun _=>kj.1 a5.1⟩
   ·rw [if_neg c1] at a5
    by_cases c2:kd=2
    ·rw [if_pos c2] at a5
     simp only [aZ,decide_eq_true_eq] at a5
     exact ⟨.inl (nosys (by subst c2;decide)),r0 a5.1,fun h=>absurd h c1⟩
    ·rw [if_neg c2] at a5
     by_cases c3:kd=13\/kd=21\/kd=26
     ·rw [if_pos c3,aZ] at a5
      exact ⟨.inl (nosys (by rcases c3 with rfl|rfl|rfl<;>decide)),(jx o4).1 a5.1,fun h=>absurd h c1⟩
     ·rw [if_neg c3] at a5
      by_cases c4:kd=14
      ·rw [if_pos c4,aZ] at a5
       unfold ep at a5
       rw [aZ] at a5
       exact ⟨.inl (nosys (by subst c4;decide)),(jx o4).1 a5.1.1,fun h=>absurd h c1⟩
      grind
  refine ⟨⟨hfaces.2.1,hfaces.2.2,alx a1⟩,hkids (fun x hx=>ih1 x hx) ok b, ?_⟩
  rw [rowsS_iff]
  intro br hbr
  have hc:=c br hbr
  rw [dA] at hc
  have hob:=hok.br hbr
  refine ⟨?_,fun x hx=>ih2 br hbr x hx (hob.2 x hx) (hc x hx)⟩
  rcases hfaces.1 with h|h<;>grind [cO,ep,jx]
theorem iX {vb db:Int} (t:Tm): ∀ {v d e},bJ vb db v d t= .error e->0<e/\e<=1000:=by
 induction t using kf with
 |h kd n nm r ks sys ih1 ih2=>
  intro v d e h
  rw [bJ] at h
  split at h
  ·grind
  rcases ba h with h|⟨_,_,h⟩
  ·exact GL h
  have hkids: ∀ {l:LT} {i:Nat},(∀x∈l,∀ {v d e},bJ vb db v d x= .error e->0<e/\e<=1000)->eD vb db v d kd i l= .error e->0<e/\e<=1000:=by
   intro l
   induction l with
   |nil=>grind [eD]
   |cons t l ih=>
    intro i hl h
    rw [eD] at h
    rcases ba h with h|⟨_,_,h⟩
    ·exact hl t (by simp) h
    grind [ba]
  have hmore: ∀ {l:LT},(∀x∈l,∀ {v d e},bJ vb db v d x= .error e->0<e/\e<=1000)-> ∀ {e},ei vb db v d kd l= .error e->0<e/\e<=1000:=by
   intro l
   induction l with
   |nil=>grind [ei]
   |cons t l ih=>
    intro hl e h
    rw [ei] at h
    rcases ba h with h|⟨_,_,h⟩
    ·grind
    ·rcases ba h with h|⟨_,_,h⟩
     ·exact ih (fun x hx=>hl x (by simp [hx])) h
     simp_all
  have hsys: ∀ {l:LB},(∀b∈l,∀x∈b.kids,∀ {v d e},bJ vb db v d x= .error e->0<e/\e<=1000)->eG vb db v d kd l= .error e->0<e/\e<=1000:=by
   intro l
   induction l with
   |nil=>grind [eG]
   |cons b l ih=>
    intro hl h
    rw [eG] at h
    rcases ba h with h|⟨_,_,h⟩
    ·cases b with
     |mk f ks'=>
      rw [sF] at h
      rcases ba h with h|⟨_,_,h⟩
      ·exact GL h
      ·rcases ba h with h|⟨_,_,h⟩
       ·exact hmore (hl (Br.mk f ks') (by simp)) h
       ·cases h
    grind [ba]
  grind [ba]
end Go.Proofs.YtgajalidbabccaaGreatDoor
