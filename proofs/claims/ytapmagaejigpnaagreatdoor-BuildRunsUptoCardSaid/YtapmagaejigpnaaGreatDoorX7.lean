/- Part 7 of a proof: the sources, with their names and remarks, lie in wip/. -/
import Derived.Test.YtapmagaejigpnaaGreatDoorX6
namespace Go.Proofs.YtapmagaejigpnaaGreatDoor
open Go PI
set_option linter.unusedVariables false
set_option maxRecDepth 100000
noncomputable section
def HG {S:Type} (k:Nat):Rw S:=ag qx xn fun s κ=>aa k (me k s) (aq κ)
def Ni {S:Type} (k:Nat):Fx S:=fp 7 [(187,vS k)] [] k Tryz.f211 0
theorem R8 {S:Type} (o:Obj) (ho:af o) (k:Nat):Tl o 211 (HG k:Rw S):=ai (Ni k) ⟨yU o ho k,trivial⟩ Tryz.func211 (by kernel_rfl) fun s κ x h=>Eq.trans (by kernel_rfl) (aj h)
def AE {S:Type} (k:Nat):Rw S:=ag kJ xn fun c κ=>aa k (pJ k c) (aq κ)
def Nj {S:Type} (k:Nat):Fx S:=fp 11 [(211,HG k)] [] k Tryz.f184 0
theorem DQ {S:Type} (o:Obj) (ho:af o) (k:Nat):Tl o 184 (AE k:Rw S):=ai (Nj k) ⟨R8 o ho k,trivial⟩ Tryz.func184 (by kernel_rfl) fun c κ x h=>Eq.trans (by kernel_rfl) (aj h)
def HH {S:Type} (k:Nat):Rw S:=ag qy xn fun a b κ=>aa k (um k a b) (aq κ)
def Nk {S:Type} (k:Nat):Fx S:=fp 23 [] [] k Tryz.f212 0
theorem R9 {S:Type} (o:Obj) (ho:af o) (k:Nat):Tl o 212 (HH k:Rw S):=ai (Nk k) trivial Tryz.func212 (by kernel_rfl) fun a b κ x h=>Eq.trans (by kernel_rfl) (aj h)
def HI {S:Type} (k:Nat):Rw S:=ag E6 xn fun l c κ=>aa k (uq k l c) (aq κ)
def w7 {S:Type} (k:Nat):Fx S:=fp 26 [(212,HH k)] [(2,aN [0,3,5] [(3,2)],ao 4 5)] k Tryz.f185 0
def FH (c:Cl) (l:List Cl) (i5:Int):St UU:=⟨[(0,(sC l)),(3,(pt 3)),(5,(iI i5))],[(3,bC c)],[],[]⟩
section
variable {S:Type} (k:Nat) (l:List Cl) (c:Cl) (κ:Out UU→Option S)
theorem Pl: ∀n i5,(w7 k).lp κ 2 [] n (FH c l i5)=mY k (aq κ) c l n i5:=bY (sY k (aq κ) c l) rfl (fun _=>rfl) fun r i5=>by kernel_rfl
end
theorem R_ {S:Type} (o:Obj) (ho:af o) (k:Nat):Tl o 185 (HI k:Rw S):=ai (w7 k) ⟨R9 o ho k,trivial⟩ Tryz.func185 (by kernel_rfl) fun l c κ x h=>Eq.trans (b:=Cm k (aq κ) (fun i5=>(w7 k).lp κ 2 [] k (FH c l i5)) l c) (by kernel_rfl) (Eq.trans (by simp only [Pl];rfl) (aj h))
def HJ {S:Type} (k:Nat):Rw S:=ag qy xn fun a b κ=>aa k (uo k a b) (aq κ)
def Nl {S:Type} (k:Nat):Fx S:=fp 24 [] [] k Tryz.f186 0
theorem Sa {S:Type} (o:Obj) (ho:af o) (k:Nat):Tl o 186 (HJ k:Rw S):=ai (Nl k) trivial Tryz.func186 (by kernel_rfl) fun a b κ x h=>Eq.trans (by kernel_rfl) (aj h)
def jT {S:Type} (k:Nat):Rw S:=ag dy xn fun l κ=>aa k (gx k l) (ap κ)
def kc {S:Type} (k:Nat):Fx S:=fp 84 [(184,AE k),(185,HI k),(186,HJ k)] [(2,aN [0,4] [],ao 4 5),(8,⟨[(0,.none),(5,some (100005,false)),(6,.none)],[]⟩,ao 6 23),(12,⟨[(0,.none),(5,some (100005,false)),(6,.none),(7,.none)],[]⟩,ao 14 3223)] k Tryz.f136 0
def zV (l:List Cl) (i4:Int):St UU:=⟨[(0,(sC l)),(4,(iI i4))],[],[],[]⟩
def qK (l:List Cl) (out5:List Cl) (i6:Int):St UU:=⟨[(0,(sC l)),(5,(.own 100005 0)),(6,(iI i6))],[],[(100005,⟨0,ET.C,out5⟩)],[(100005,.app)]⟩
def FI (l out5:List Cl) (i6:Int) (v7:Int):St UU:=⟨[(0,(sC l)),(5,(.own 100005 0)),(6,(iI i6)),(7,(iI v7))],[],[(100005,⟨0,ET.C,out5⟩)],[(100005,.app)]⟩
section
variable {S:Type} (k:Nat) (l:List Cl) (κ:Out UU→Option S)
theorem Po (out5 i6 κ1): ∀n v7,(kc k).lp κ 12 [κ1] n (FI l out5 i6 v7)=kT k (ap κ) (fun out5 i6=>κ1 (qK l out5 i6)) l out5 i6 n v7:=bY (sX k (ap κ) l out5 i6 (fun out5 i6=>κ1 (qK l out5 i6))) rfl (fun _=>rfl) fun r v7=>by kernel_rfl
theorem Pn: ∀n out5 i6,(kc k).lp κ 8 [] n (qK l out5 i6)=io k (ap κ) l n out5 i6:=aP (fun own=>oF k (ap κ) l (fun out5 i6 v7=>kT k (ap κ) own l out5 i6 k v7) own) rfl (fun _=>rfl) fun r out5 i6=>Eq.trans (b:=oF k (ap κ) l (fun out5 i6 v7=>(kc k).lp κ 12 [r] k (FI l out5 i6 v7)) (fun out5 i6=>r (qK l out5 i6)) out5 i6) (by kernel_rfl) (by simp only [Po])
theorem Pm: ∀n i4,(kc k).lp κ 2 [] n (zV l i4)=mX k (ap κ) l n i4:=bY (fun own=>oE k (ap κ) l (fun out5 i6=>io k (ap κ) l k out5 i6) own) rfl (fun _=>rfl) fun r i4=>Eq.trans (b:=oE k (ap κ) l (fun out5 i6=>(kc k).lp κ 8 [] k (qK l out5 i6)) (fun i4=>r (zV l i4)) i4) (by kernel_rfl) (by simp only [Pn])
end
theorem kA {S:Type} (o:Obj) (ho:af o) (k:Nat):Tl o 136 (jT k:Rw S):=ai (kc k) ⟨DQ o ho k,R_ o ho k,Sa o ho k,trivial⟩ Tryz.func136 (by kernel_rfl) fun l κ x h=>Eq.trans (b:=Ck k (ap κ) (fun i4=>(kc k).lp κ 2 [] k (zV l i4)) l) (by kernel_rfl) (Eq.trans (by simp only [Pm];rfl) (aj h))
def gN {S:Type} (k:Nat):Rw S:=ag dy xn fun f κ=>aa k (dF k f) (aq κ)
def Nm {S:Type} (k:Nat):Fx S:=fp 17 [(24,vR k),(136,jT k)] [] k Tryz.f88 0
theorem h8 {S:Type} (o:Obj) (ho:af o) (k:Nat):Tl o 88 (gN k:Rw S):=ai (Nm k) ⟨yT o ho k,kA o ho k,trivial⟩ Tryz.func88 (by kernel_rfl) fun f κ x h=>Eq.trans (by kernel_rfl) (aj h)
def jU {S:Type} (k:Nat):Rw S:=ag jx xn fun s i κ=>aa k (du k s i) (aq κ)
def Nn {S:Type} (k:Nat):Fx S:=fp 20 [(187,vS k)] [] k Tryz.f137 0
theorem kB {S:Type} (o:Obj) (ho:af o) (k:Nat):Tl o 137 (jU k:Rw S):=ai (Nn k) ⟨yU o ho k,trivial⟩ Tryz.func137 (by kernel_rfl) fun s i κ x h=>Eq.trans (by kernel_rfl) (aj h)
def lv {S:Type} (k:Nat):Rw S:=ag UO xn fun l κ=>aa k (gw k l) (bG κ)
def w8 {S:Type} (k:Nat):Fx S:=fp 20 [(187,vS k)] [(3,aN [0,3,4] [],ao 5 11)] k Tryz.f228 0
def FJ (l:List Int) (v3 i4:Int):St UU:=⟨[(0,(jZ l .none)),(3,(iI v3)),(4,(iI i4))],[],[],[]⟩
section
variable {S:Type} (k:Nat) (l:List Int) (κ:Out UU→Option S)
theorem Pp: ∀n v3 i4,(w8 k).lp κ 3 [] n (FJ l v3 i4)=mT k (bG κ) l n v3 i4:=aP (sS k (bG κ) l) rfl (fun _=>rfl) fun r v3 i4=>by kernel_rfl
end
theorem mt {S:Type} (o:Obj) (ho:af o) (k:Nat):Tl o 228 (lv k:Rw S):=ai (w8 k) ⟨yU o ho k,trivial⟩ Tryz.func228 (by kernel_rfl) fun l κ x h=>Eq.trans (b:=Cg k (bG κ) (fun v3 i4=>(w8 k).lp κ 3 [] k (FJ l v3 i4)) l) (by kernel_rfl) (Eq.trans (by simp only [Pp];rfl) (aj h))
def AF {S:Type} (k:Nat):Rw S:=ag dy xn fun f κ=>aa k (pL k f) (bG κ)
def n_ {S:Type} (k:Nat):Fx S:=fp 43 [(137,jU k),(228,lv k)] [(3,⟨[(0,.none),(3,some (100003,true)),(4,.none)],[]⟩,ao 5 11),(7,⟨[(0,.none),(3,some (100003,true)),(4,.none),(5,.none),(6,.none)],[]⟩,ao 13 2635)] k Tryz.f210 0
def qL (f:List Cl) (l3:List Int) (i4:Int):St UU:=⟨[(0,(sC f)),(3,(.own 100003 0)),(4,(iI i4))],[],[(100003,⟨0,ET.I,l3⟩)],[(100003,.wr)]⟩
def FK (f:List Cl) (l3:List Int) (i4:Int) (v5:Bool) (v6:Int):St UU:=⟨[(0,(sC f)),(3,(.own 100003 0)),(4,(iI i4)),(5,(.bool v5)),(6,(iI v6))],[],[(100003,⟨0,ET.I,l3⟩)],[(100003,.wr)]⟩
section
variable {S:Type} (k:Nat) (f:List Cl) (κ:Out UU→Option S)
theorem Pr (l3 i4 κ0): ∀n v5 v6,(n_ k).lp κ 7 [κ0] n (FK f l3 i4 v5 v6)=kU k (bG κ) (fun l3 i4=>κ0 (qL f l3 i4)) f l3 i4 n v5 v6:=aP (s8 k (bG κ) f l3 i4 (fun l3 i4=>κ0 (qL f l3 i4))) rfl (fun _=>rfl) fun r v5 v6=>by kernel_rfl
theorem Pq: ∀n l3 i4,(n_ k).lp κ 3 [] n (qL f l3 i4)=jG k (bG κ) f n l3 i4:=aP (fun own=>oG k (bG κ) f (fun l3 i4 v5 v6=>kU k (bG κ) own f l3 i4 k v5 v6) own) rfl (fun _=>rfl) fun r l3 i4=>Eq.trans (b:=oG k (bG κ) f (fun l3 i4 v5 v6=>(n_ k).lp κ 7 [r] k (FK f l3 i4 v5 v6)) (fun l3 i4=>r (qL f l3 i4)) l3 i4) (by kernel_rfl) (by simp only [Pr])
end
theorem DR {S:Type} (o:Obj) (ho:af o) (k:Nat):Tl o 210 (AF k:Rw S):=ai (n_ k) ⟨kB o ho k,mt o ho k,trivial⟩ Tryz.func210 (by kernel_rfl) fun f κ x h=>Eq.trans (b:=Co k (bG κ) (fun l3 i4=>(n_ k).lp κ 3 [] k (qL f l3 i4)) f) (by kernel_rfl) (Eq.trans (by simp only [Pq];rfl) (aj h))
def lw {S:Type} (k:Nat):Rw S:=ag qx xn fun s κ=>aa k (gu k s) (vP κ)
def w9 {S:Type} (k:Nat):Fx S:=fx 17 (fun _=>[]) (fun _=>false) [(137,jU k)] [(3,⟨[(0,.none),(3,some (100003,true)),(4,.none)],[]⟩,ao 5 11)] k Tryz.f209 false [true] 0
def FM (s:Int) (out3:List Int) (i4:Int):St UU:=⟨[(0,(iU s)),(3,(.own 100003 0)),(4,(iI i4))],[],[(100003,⟨0,ET.I,out3⟩)],[(100003,.wr)]⟩
section
variable {S:Type} (k:Nat) (s:Int) (κ:Out UU→Option S)
theorem Pu: ∀n out3 i4,(w9 k).lp κ 3 [] n (FM s out3 i4)=mS k (vP κ) s n out3 i4:=aP (sR k (vP κ) s) rfl (fun _=>rfl) fun r out3 i4=>by kernel_rfl
end
theorem mu {S:Type} (o:Obj) (ho:af o) (k:Nat):Tl o 209 (lw k:Rw S):=ai (w9 k) ⟨kB o ho k,trivial⟩ Tryz.func209 (by kernel_rfl) fun s κ x h=>Eq.trans (b:=Cf k (vP κ) (fun out3 i4=>(w9 k).lp κ 3 [] k (FM s out3 i4)) s) (by kernel_rfl) (Eq.trans (by simp only [Pu];rfl) (aj h))
def HL {S:Type} (k:Nat):Rw S:=ag zw xn fun f dims κ=>aa k (pP k f dims) (aq κ)
def Nq {S:Type} (k:Nat):Fx S:=fp 22 [(209,lw k),(210,AF k)] [] k Tryz.f181 0
theorem Sc {S:Type} (o:Obj) (ho:af o) (k:Nat):Tl o 181 (HL k:Rw S):=ai (Nq k) ⟨mu o ho k,DR o ho k,trivial⟩ Tryz.func181 (by kernel_rfl) fun f dims κ x h=>Eq.trans (by kernel_rfl) (aj h)
def vT {S:Type} (k:Nat):Rw S:=ag EW xn fun kind kid κ=>aa k (mh k kind kid) (iH κ)
def oa {S:Type} (k:Nat):Fx S:=fp 44 [] [(1000003,aN [0,1] [],ao 2 3),(1000005,aN [0,1] [],ao 3 7)] k Tryz.f182 0
def FN (kind kid:Int):St UU:=⟨[(0,(iI kind)),(1,(iI kid))],[],[],[]⟩
def FO (kind kid:Int):St UU:=⟨[(0,(iI kind)),(1,(iI kid))],[],[],[]⟩
section
variable {S:Type} (k:Nat) (kind kid:Int) (κ:Out UU→Option S)
theorem Pw: ∀n,(oa k).jn κ 1000005 [] n (FO kind kid)=vg k (iH κ) kind kid n:=ju (xY k (iH κ) kind kid) rfl (fun _=>rfl) (by kernel_rfl)
theorem Pv: ∀n,(oa k).jn κ 1000003 [] n (FN kind kid)=zD k (iH κ) kind kid n:=ju (ti k (iH κ) kind kid (vg k (iH κ) kind kid k)) rfl (fun _=>rfl) (Eq.trans (b:=ti k (iH κ) kind kid ((oa k).jn κ 1000005 [] k (FO kind kid))) (by kernel_rfl) (by simp only [Pw]))
end
theorem yV {S:Type} (o:Obj) (ho:af o) (k:Nat):Tl o 182 (vT k:Rw S):=ai (oa k) trivial Tryz.func182 (by kernel_rfl) fun kind kid κ x h=>Eq.trans (b:=CA k (iH κ) ((oa k).jn κ 1000003 [] k (FN kind kid)) kind kid) (by kernel_rfl) (Eq.trans (by simp only [Pv];rfl) (aj h))
def AG {S:Type} (k:Nat):Rw S:=ag kJ xn fun c κ=>aa k (pH k c) (aq κ)
def w_ {S:Type} (k:Nat):Fx S:=fp 18 [(137,jU k)] [(2,aN [1,3] [(1,2)],ao 4 5)] k Tryz.f89 0
def FP (c:Cl) (i3:Int):St UU:=⟨[(1,(pt 1)),(3,(iI i3))],[(1,bC c)],[],[]⟩
section
variable {S:Type} (k:Nat) (c:Cl) (κ:Out UU→Option S)
theorem Px: ∀n i3,(w_ k).lp κ 2 [] n (FP c i3)=mW k (aq κ) c n i3:=bY (sW k (aq κ) c) rfl (fun _=>rfl) fun r i3=>by kernel_rfl
end
theorem DS {S:Type} (o:Obj) (ho:af o) (k:Nat):Tl o 89 (AG k:Rw S):=ai (w_ k) ⟨kB o ho k,trivial⟩ Tryz.func89 (by kernel_rfl) fun c κ x h=>Eq.trans (b:=Cj k (aq κ) (fun i3=>(w_ k).lp κ 2 [] k (FP c i3)) c) (by kernel_rfl) (Eq.trans (by simp only [Px];rfl) (aj h))
def lx {S:Type} (k:Nat):Rw S:=ag dy xn fun f κ=>aa k (fh k f) (aq κ)
def xa {S:Type} (k:Nat):Fx S:=fp 18 [(88,gN k),(89,AG k)] [(4,aN [0,3] [],ao 5 11)] k Tryz.f43 0
def FQ (f:List Cl) (i3:Int):St UU:=⟨[(0,(sC f)),(3,(iI i3))],[],[],[]⟩
section
variable {S:Type} (k:Nat) (f:List Cl) (κ:Out UU→Option S)
theorem Py: ∀n i3,(xa k).lp κ 4 [] n (FQ f i3)=m9 k (aq κ) f n i3:=bY (tf k (aq κ) f) rfl (fun _=>rfl) fun r i3=>by kernel_rfl
end
theorem mw {S:Type} (o:Obj) (ho:af o) (k:Nat):Tl o 43 (lx k:Rw S):=ai (xa k) ⟨h8 o ho k,DS o ho k,trivial⟩ Tryz.func43 (by kernel_rfl) fun f κ x h=>Eq.trans (b:=Cx k (aq κ) (fun i3=>(xa k).lp κ 4 [] k (FQ f i3)) f) (by kernel_rfl) (Eq.trans (by simp only [Py];rfl) (aj h))
def vU {S:Type} (k:Nat):Rw S:=ag ei xn fun kind κ=>aa k (mj k kind) (aE κ)
def Nr {S:Type} (k:Nat):Fx S:=fp 5 [] [] k Tryz.f183 0
theorem yW {S:Type} (o:Obj) (ho:af o) (k:Nat):Tl o 183 (vU k:Rw S):=ai (Nr k) trivial Tryz.func183 (by kernel_rfl) fun kind κ x h=>Eq.trans (by kernel_rfl) (aj h)
def AH {S:Type} (hd:dp S):Rw S:=ag EY xn fun t vars dims bound κ=>hd t vars dims bound (aq κ)
def dW {S:Type} (hd:dp S) (k:Nat):Fx S:=fp 187 [(43,lx k),(88,gN k),(119,HC k),(135,AH hd),(179,HD k),(180,HE k),(181,HL k),(182,vT k),(183,vU k)] [(1000003,aN [1,2,3,4] [(4,6)],ao 2 3),(1000008,aN [1,2,3,4] [(4,6)],ao 3 7),(1000010,aN [1,2,3,4] [(4,6)],ao 4 15),(1000021,aN [1,2,3,4] [(4,6)],ao 5 31),(24,aN [1,2,3,4,9] [(4,6)],ao 9 191),(32,aN [1,2,3,4,12] [(4,6)],ao 10 383),(38,aN [1,2,3,4,12,13,14] [(4,6),(13,2)],ao 18 117119)] k Tryz.f135 0
def FR (t:Tm) (vars dims:Int) (bound:Bool):St UU:=⟨[(1,(iI vars)),(2,(iI dims)),(3,(.bool bound)),(4,(pt 4))],[(4,bT t)],[],[]⟩
def FS (t:Tm) (vars dims:Int) (bound:Bool):St UU:=⟨[(1,(iI vars)),(2,(iI dims)),(3,(.bool bound)),(4,(pt 4))],[(4,bT t)],[],[]⟩
def FT (t:Tm) (vars dims:Int) (bound:Bool):St UU:=⟨[(1,(iI vars)),(2,(iI dims)),(3,(.bool bound)),(4,(pt 4))],[(4,bT t)],[],[]⟩
def FU (t:Tm) (vars dims:Int) (bound:Bool):St UU:=⟨[(1,(iI vars)),(2,(iI dims)),(3,(.bool bound)),(4,(pt 4))],[(4,bT t)],[],[]⟩
def zW (t:Tm) (vars dims:Int) (bound:Bool) (i9:Int):St UU:=⟨[(1,(iI vars)),(2,(iI dims)),(3,(.bool bound)),(4,(pt 4)),(9,(iI i9))],[(4,bT t)],[],[]⟩
def qN (t:Tm) (vars dims:Int) (bound:Bool) (i12:Int):St UU:=⟨[(1,(iI vars)),(2,(iI dims)),(3,(.bool bound)),(4,(pt 4)),(12,(iI i12))],[(4,bT t)],[],[]⟩
def FV (x11:(Br Tm)) (t:Tm) (vars i12 dims:Int) (bound:Bool) (v14:Int):St UU:=⟨[(1,(iI vars)),(2,(iI dims)),(3,(.bool bound)),(4,(pt 4)),(12,(iI i12)),(13,(pt 13)),(14,(iI v14))],[(4,bT t),(13,bB x11)],[],[]⟩
section
variable {S:Type} (hd:dp S) (k:Nat) (t:Tm) (vars dims:Int) (bound:Bool) (κ:Out UU→Option S)
theorem PF (x11 i12 κ5): ∀n v14,(dW hd k).lp κ 38 [κ5] n (FV x11 t vars i12 dims bound v14)=jK hd k (aq κ) (fun i12=>κ5 (qN t vars dims bound i12)) x11 t vars i12 dims bound n v14:=bY (th hd k (aq κ) x11 t vars i12 dims bound (fun i12=>κ5 (qN t vars dims bound i12))) rfl (fun _=>rfl) fun r v14=>by kernel_rfl
theorem PE: ∀n i12,(dW hd k).lp κ 32 [] n (qN t vars dims bound i12)=fP hd k (aq κ) t vars dims bound n i12:=bY (fun own=>oP hd k (aq κ) t vars dims bound (fun x11 i12 v14=>jK hd k (aq κ) own x11 t vars i12 dims bound k v14) own) rfl (fun _=>rfl) fun r i12=>Eq.trans (b:=oP hd k (aq κ) t vars dims bound (fun x11 i12 v14=>(dW hd k).lp κ 38 [r] k (FV x11 t vars i12 dims bound v14)) (fun i12=>r (qN t vars dims bound i12)) i12) (by kernel_rfl) (by simp only [PF])
theorem PD: ∀n i9,(dW hd k).lp κ 24 [] n (zW t vars dims bound i9)=gH hd k (aq κ) t vars dims bound n i9:=bY (fun own=>oO hd k (aq κ) t vars dims bound (fun i12=>fP hd k (aq κ) t vars dims bound k i12) own) rfl (fun _=>rfl) fun r i9=>Eq.trans (b:=oO hd k (aq κ) t vars dims bound (fun i12=>(dW hd k).lp κ 32 [] k (qN t vars dims bound i12)) (fun i9=>r (zW t vars dims bound i9)) i9) (by kernel_rfl) (by simp only [PE])
theorem PC: ∀n,(dW hd k).jn κ 1000021 [] n (FU t vars dims bound)=nd hd k (aq κ) t vars dims bound n:=ju (oN hd k (aq κ) t vars dims bound (fun i9=>gH hd k (aq κ) t vars dims bound k i9)) rfl (fun _=>rfl) (Eq.trans (b:=oN hd k (aq κ) t vars dims bound (fun i9=>(dW hd k).lp κ 24 [] k (zW t vars dims bound i9))) (by kernel_rfl) (by simp only [PD]))
theorem PB: ∀n,(dW hd k).jn κ 1000010 [] n (FT t vars dims bound)=nc hd k (aq κ) t vars dims bound n:=ju (oM hd k (aq κ) t vars dims bound (nd hd k (aq κ) t vars dims bound k)) rfl (fun _=>rfl) (Eq.trans (b:=oM hd k (aq κ) t vars dims bound ((dW hd k).jn κ 1000021 [] k (FU t vars dims bound))) (by kernel_rfl) (by simp only [PC]))
theorem PA: ∀n,(dW hd k).jn κ 1000008 [] n (FS t vars dims bound)=na hd k (aq κ) t vars dims bound n:=ju (oL hd k (aq κ) t vars dims bound (nc hd k (aq κ) t vars dims bound k)) rfl (fun _=>rfl) (Eq.trans (b:=oL hd k (aq κ) t vars dims bound ((dW hd k).jn κ 1000010 [] k (FT t vars dims bound))) (by kernel_rfl) (by simp only [PB]))
theorem Pz: ∀n,(dW hd k).jn κ 1000003 [] n (FR t vars dims bound)=vf hd k (aq κ) t vars dims bound n:=ju (oK hd k (aq κ) t vars dims bound (na hd k (aq κ) t vars dims bound k)) rfl (fun _=>rfl) (Eq.trans (b:=oK hd k (aq κ) t vars dims bound ((dW hd k).jn κ 1000008 [] k (FS t vars dims bound))) (by kernel_rfl) (by simp only [PA]))
end
theorem ED {S:Type} (o:Obj) (ho:af o): ∀k:Nat,Tl o 135 (AH (bR k:dp S))
 |0=>eX fun t vars dims bound κ x h=>by cases h
 |k+1=>ai (dW (bR k) k) ⟨mw o ho k,h8 o ho k,R4 o ho k,ED o ho k,R5 o ho k,R6 o ho k,Sc o ho k,yV o ho k,yW o ho k,trivial⟩ Tryz.func135 (by kernel_rfl) fun t vars dims bound κ x h=>Eq.trans (b:=Cz (bR k) k (aq κ) ((dW (bR k) k).jn κ 1000003 [] k (FR t vars dims bound)) t vars dims bound) (by kernel_rfl) (Eq.trans (by simp only [Pz];rfl) h)
def vV {S:Type} (k:Nat):Rw S:=ag jv xn fun t κ=>aa k (mi k t) (aE κ)
def Ns {S:Type} (k:Nat):Fx S:=fp 14 [(134,HB k),(135,AH (bR k))] [] k Tryz.f87 0
theorem yX {S:Type} (o:Obj) (ho:af o) (k:Nat):Tl o 87 (vV k:Rw S):=ai (Ns k) ⟨R3 o ho k,ED o ho k,trivial⟩ Tryz.func87 (by kernel_rfl) fun t κ x h=>Eq.trans (by kernel_rfl) (aj h)
def AI {S:Type} (k:Nat):Rw S:=ag E0 xn fun l κ=>aa k (pY k l) (aE κ)
def xb {S:Type} (k:Nat):Fx S:=fp 19 [(87,vV k)] [(2,aN [0,3] [],ao 4 5)] k Tryz.f42 0
def FW (l:List Tm) (i3:Int):St UU:=⟨[(0,(sT l)),(3,(iI i3))],[],[],[]⟩
section
variable {S:Type} (k:Nat) (l:List Tm) (κ:Out UU→Option S)
theorem PG: ∀n i3,(xb k).lp κ 2 [] n (FW l i3)=nj k (aE κ) l n i3:=bY (tv k (aE κ) l) rfl (fun _=>rfl) fun r i3=>by kernel_rfl
end
theorem DT {S:Type} (o:Obj) (ho:af o) (k:Nat):Tl o 42 (AI k:Rw S):=ai (xb k) ⟨yX o ho k,trivial⟩ Tryz.func42 (by kernel_rfl) fun l κ x h=>Eq.trans (b:=CN k (aE κ) (fun i3=>(xb k).lp κ 2 [] k (FW l i3)) l) (by kernel_rfl) (Eq.trans (by simp only [PG];rfl) (aj h))
def HM {S:Type} (k:Nat):Rw S:=ag E2 xn fun s a_from a_by κ=>aa k (jg k s a_from a_by) (rk κ)
def xd {S:Type} (k:Nat):Fx S:=fp 48 [(209,lw k),(228,lv k)] [(5,⟨[(1,.none),(2,.none),(8,some (100008,true)),(9,.none)],[]⟩,ao 6 23)] k Tryz.f208 0
def FX (a_from a_by:Int) (l8:List Int) (v9:Int):St UU:=⟨[(1,(iI a_from)),(2,(iI a_by)),(8,(.own 100008 0)),(9,(iI v9))],[],[(100008,⟨0,ET.I,l8⟩)],[(100008,.wr)]⟩
section
variable {S:Type} (k:Nat) (s a_from a_by:Int) (κ:Out UU→Option S)
theorem PH: ∀n l8 v9,(xd k).lp κ 5 [] n (FX a_from a_by l8 v9)=kS k (rk κ) a_from a_by n l8 v9:=aP (sQ k (rk κ) a_from a_by) rfl (fun _=>rfl) fun r l8 v9=>by kernel_rfl
end
theorem Sd {S:Type} (o:Obj) (ho:af o) (k:Nat):Tl o 208 (HM k:Rw S):=ai (xd k) ⟨mu o ho k,mt o ho k,trivial⟩ Tryz.func208 (by kernel_rfl) fun s a_from a_by κ x h=>Eq.trans (b:=rU k (rk κ) (fun l8 v9=>(xd k).lp κ 5 [] k (FX a_from a_by l8 v9)) s a_from a_by) (by kernel_rfl) (Eq.trans (by simp only [PH];rfl) (aj h))
def HN {S:Type} (k:Nat):Rw S:=ag E3 xn fun c a_from a_by κ=>aa k (up k c a_from a_by) (He κ)
def Nu {S:Type} (k:Nat):Fx S:=fp 42 [(184,AE k),(208,HM k)] [] k Tryz.f167 0
theorem Se {S:Type} (o:Obj) (ho:af o) (k:Nat):Tl o 167 (HN k:Rw S):=ai (Nu k) ⟨DQ o ho k,Sd o ho k,trivial⟩ Tryz.func167 (by kernel_rfl) fun c a_from a_by κ x h=>Eq.trans (by kernel_rfl) (aj h)
def rp {S:Type} (k:Nat):Rw S:=ag zx xn fun f a_from a_by κ=>aa k (ky k f a_from a_by) (ap κ)
def xe {S:Type} (k:Nat):Fx S:=fp 42 [(88,gN k),(136,jT k),(167,HN k)] [(5,⟨[(0,.none),(1,.none),(2,.none),(8,some (100008,true)),(9,.none)],[]⟩,ao 6 23)] k Tryz.f123 0
def FY (f:List Cl) (a_from a_by:Int) (out8:List Cl) (i9:Int):St UU:=⟨[(0,(sC f)),(1,(iI a_from)),(2,(iI a_by)),(8,(.own 100008 0)),(9,(iI i9))],[],[(100008,⟨0,ET.C,out8⟩)],[(100008,.wr)]⟩
section
variable {S:Type} (k:Nat) (f:List Cl) (a_from a_by:Int) (κ:Out UU→Option S)
theorem PJ: ∀n out8 i9,(xe k).lp κ 5 [] n (FY f a_from a_by out8 i9)=m0 k (ap κ) f a_from a_by n out8 i9:=aP (s9 k (ap κ) f a_from a_by) rfl (fun _=>rfl) fun r out8 i9=>by kernel_rfl
end
theorem uL {S:Type} (o:Obj) (ho:af o) (k:Nat):Tl o 123 (rp k:Rw S):=ai (xe k) ⟨h8 o ho k,kA o ho k,Se o ho k,trivial⟩ Tryz.func123 (by kernel_rfl) fun f a_from a_by κ x h=>Eq.trans (b:=Cp k (ap κ) (fun out8 i9=>(xe k).lp κ 5 [] k (FY f a_from a_by out8 i9)) f a_from a_by) (by kernel_rfl) (Eq.trans (by simp only [PJ];rfl) (aj h))
def rq {S:Type} (k:Nat):Rw S:=ag dy xn fun l κ=>aa k (kz k l) (ap κ)
def xg {S:Type} (k:Nat):Fx S:=fp 29 [(89,AG k),(136,jT k)] [(3,⟨[(0,.none),(4,some (100004,true)),(5,.none)],[]⟩,ao 5 11)] k Tryz.f188 0
def FZ (l:List Cl) (out4:List Cl) (i5:Int):St UU:=⟨[(0,(sC l)),(4,(.own 100004 0)),(5,(iI i5))],[],[(100004,⟨0,ET.C,out4⟩)],[(100004,.wr)]⟩
section
variable {S:Type} (k:Nat) (l:List Cl) (κ:Out UU→Option S)
theorem PK: ∀n out4 i5,(xg k).lp κ 3 [] n (FZ l out4 i5)=m_ k (ap κ) l n out4 i5:=aP (tg k (ap κ) l) rfl (fun _=>rfl) fun r out4 i5=>by kernel_rfl
end
theorem uM {S:Type} (o:Obj) (ho:af o) (k:Nat):Tl o 188 (rq k:Rw S):=ai (xg k) ⟨DS o ho k,kA o ho k,trivial⟩ Tryz.func188 (by kernel_rfl) fun l κ x h=>Eq.trans (b:=Cy k (ap κ) (fun out4 i5=>(xg k).lp κ 3 [] k (FZ l out4 i5)) l) (by kernel_rfl) (Eq.trans (by simp only [PK];rfl) (aj h))
def AL {S:Type} (k:Nat):Rw S:=ag fO xn fun f g κ=>aa k (eH k f g) (ap κ)
def Nv {S:Type} (k:Nat):Fx S:=fp 22 [(43,lx k),(188,rq k)] [] k Tryz.f138 0
theorem DV {S:Type} (o:Obj) (ho:af o) (k:Nat):Tl o 138 (AL k:Rw S):=ai (Nv k) ⟨mw o ho k,uM o ho k,trivial⟩ Tryz.func138 (by kernel_rfl) fun f g κ x h=>Eq.trans (by kernel_rfl) (aj h)
def nL {S:Type} (k:Nat):Rw S:=ag ei xn fun a_e κ=>aa k (dN k a_e) (Hi κ)
def Nw {S:Type} (k:Nat):Fx S:=fx 6 (fun _=>[]) (fun _=>false) [] [] k Tryz.f124 true [] 0
theorem qe {S:Type} (o:Obj) (ho:af o) (k:Nat):Tl o 124 (nL k:Rw S):=ai (Nw k) trivial Tryz.func124 (by kernel_rfl) fun a_e κ x h=>Eq.trans (by kernel_rfl) (aj h)
def HO {S:Type} (k:Nat):Rw S:=ag kK xn fun t a b κ=>aa k (yF k t a b) (aE κ)
def Nx {S:Type} (k:Nat):Fx S:=fp 21 [(87,vV k)] [] k Tryz.f206 0
theorem Sf {S:Type} (o:Obj) (ho:af o) (k:Nat):Tl o 206 (HO k:Rw S):=ai (Nx k) ⟨yX o ho k,trivial⟩ Tryz.func206 (by kernel_rfl) fun t a b κ x h=>Eq.trans (by kernel_rfl) (aj h)
def HP {S:Type} (k:Nat):Rw S:=ag zx xn fun f a_from a_by κ=>aa k (pR k f a_from a_by) (ap κ)
def Ny {S:Type} (k:Nat):Fx S:=fp 17 [(123,rp k)] [] k Tryz.f203 0
theorem Sg {S:Type} (o:Obj) (ho:af o) (k:Nat):Tl o 203 (HP k:Rw S):=ai (Ny k) ⟨uL o ho k,trivial⟩ Tryz.func203 (by kernel_rfl) fun f a_from a_by κ x h=>Eq.trans (by kernel_rfl) (aj h)
def vW {S:Type} (hd:eF S):Rw S:=ag UP xn fun t v vby d dby κ=>hd t v vby d dby (bp κ)
def gY {S:Type} (hd:eF S) (k:Nat):Fx S:=fp 174 [(124,nL k),(164,vW hd),(182,vT k),(183,vU k),(203,HP k)] [(1000006,⟨[(1,.none),(2,.none),(3,.none),(4,.none),(5,.none),(10,.none),(11,.none)],[(5,[.none,.none,.none,.none,.none,.none]),(10,[.none,.none,.none,some (200643,true),some (200644,true),some (200645,true)]),(11,[.none,.none,.none,some (200707,true),some (200708,true),some (200709,true)])]⟩,ao 3 7),(11,⟨[(1,.none),(2,.none),(3,.none),(4,.none),(5,.none),(10,.none),(11,.none),(14,.none)],[(5,[.none,.none,.none,.none,.none,.none]),(10,[.none,.none,.none,some (200643,true),some (200644,true),some (200645,true)]),(11,[.none,.none,.none,.none,some (200708,true),some (200709,true)])]⟩,ao 9 191),(19,⟨[(1,.none),(2,.none),(3,.none),(4,.none),(5,.none),(10,.none),(11,.none),(18,.none)],[(5,[.none,.none,.none,.none,.none,.none]),(10,[.none,.none,.none,some (200643,true),some (200644,true),some (200645,true)]),(11,[.none,.none,.none,.none,some (200708,true),some (200709,true)])]⟩,ao 10 383),(26,⟨[(1,.none),(2,.none),(3,.none),(4,.none),(5,.none),(10,.none),(11,.none),(18,.none),(21,.none),(22,.none)],[(5,[.none,.none,.none,.none,.none,.none]),(10,[.none,.none,.none,some (200643,true),some (200644,true),some (200645,true)]),(11,[.none,.none,.none,.none,some (200708,true),some (200709,true)]),(21,[.none,some (201345,true)])]⟩,ao 20 379263)] k Tryz.f164 0
def F0 (t:Tm) (v vby d dby:Int) (b11_1:Int):St UU:=⟨[(1,(iI v)),(2,(iI vby)),(3,(iI d)),(4,(iI dby)),(5,(pt 5)),(10,(pt 10)),(11,(pt 11))],[(5,bT t),(10,.cells [(iI 0),(iI 0),(.str ByteArray.empty),(.own 200643 0),(.own 200644 0),(.own 200645 0)]),(11,.cells [(iI t.kind),(iI b11_1),(.str t.name),(.own 200707 0),(.own 200708 0),(.own 200709 0)])],[(200709,⟨0,ET.B,([]:List (Br Tm))⟩),(200708,⟨0,ET.T,([]:List Tm)⟩),(200707,⟨0,ET.C,([]:List Cl)⟩),(200645,⟨0,ET.B,([]:List (Br Tm))⟩),(200644,⟨0,ET.T,([]:List Tm)⟩),(200643,⟨0,ET.C,([]:List Cl)⟩)],[(200709,.wr),(200708,.wr),(200707,.wr),(200645,.wr),(200644,.wr),(200643,.wr)]⟩
def zX (t:Tm) (b11_1:Int) (r2:List Cl×Int) (v vby d dby:Int) (b11_4:List Tm) (i14:Int):St UU:=⟨[(1,(iI v)),(2,(iI vby)),(3,(iI d)),(4,(iI dby)),(5,(pt 5)),(10,(pt 10)),(11,(pt 11)),(14,(iI i14))],[(5,bT t),(10,.cells [(iI 0),(iI 0),(.str ByteArray.empty),(.own 200643 0),(.own 200644 0),(.own 200645 0)]),(11,.cells [(iI t.kind),(iI b11_1),(.str t.name),(sC r2.1),(.own 200708 0),(.own 200709 0)])],[(200709,⟨0,ET.B,([]:List (Br Tm))⟩),(200708,⟨0,ET.T,b11_4⟩),(200645,⟨0,ET.B,([]:List (Br Tm))⟩),(200644,⟨0,ET.T,([]:List Tm)⟩),(200643,⟨0,ET.C,([]:List Cl)⟩)],[(200709,.wr),(200708,.wr),(200645,.wr),(200644,.wr),(200643,.wr)]⟩
def qO (t:Tm) (b11_1:Int) (r2:List Cl×Int) (b11_4:List Tm) (v vby d dby:Int) (b11_5:List (Br Tm)) (i18:Int):St UU:=⟨[(1,(iI v)),(2,(iI vby)),(3,(iI d)),(4,(iI dby)),(5,(pt 5)),(10,(pt 10)),(11,(pt 11)),(18,(iI i18))],[(5,bT t),(10,.cells [(iI 0),(iI 0),(.str ByteArray.empty),(.own 200643 0),(.own 200644 0),(.own 200645 0)]),(11,.cells [(iI t.kind),(iI b11_1),(.str t.name),(sC r2.1),(.own 200708 0),(.own 200709 0)])],[(200709,⟨0,ET.B,b11_5⟩),(200708,⟨0,ET.T,b11_4⟩),(200645,⟨0,ET.B,([]:List (Br Tm))⟩),(200644,⟨0,ET.T,([]:List Tm)⟩),(200643,⟨0,ET.C,([]:List Cl)⟩)],[(200709,.wr),(200708,.wr),(200645,.wr),(200644,.wr),(200643,.wr)]⟩
def F1 (t:Tm) (b11_1:Int) (r2:List Cl×Int) (b11_4:List Tm) (b11_5:List (Br Tm)) (r9:List Cl×Int) (v i18 vby d dby:Int) (b21_1:List Tm) (v22:Int):St UU:=⟨[(1,(iI v)),(2,(iI vby)),(3,(iI d)),(4,(iI dby)),(5,(pt 5)),(10,(pt 10)),(11,(pt 11)),(18,(iI i18)),(21,(pt 21)),(22,(iI v22))],[(5,bT t),(10,.cells [(iI 0),(iI 0),(.str ByteArray.empty),(.own 200643 0),(.own 200644 0),(.own 200645 0)]),(11,.cells [(iI t.kind),(iI b11_1),(.str t.name),(sC r2.1),(.own 200708 0),(.own 200709 0)]),(21,.cells [(sC r9.1),(.own 201345 0)])],[(201345,⟨0,ET.T,b21_1⟩),(200709,⟨0,ET.B,b11_5⟩),(200708,⟨0,ET.T,b11_4⟩),(200645,⟨0,ET.B,([]:List (Br Tm))⟩),(200644,⟨0,ET.T,([]:List Tm)⟩),(200643,⟨0,ET.C,([]:List Cl)⟩)],[(201345,.wr),(200709,.wr),(200708,.wr),(200645,.wr),(200644,.wr),(200643,.wr)]⟩
section
variable {S:Type} (hd:eF S) (k:Nat) (t:Tm) (v vby d dby:Int) (κ:Out UU→Option S)
theorem PO (b11_1 r2 b11_4 b11_5 r9 i18 κ2): ∀n b21_1 v22,(gY hd k).lp κ 26 [κ2] n (F1 t b11_1 r2 b11_4 b11_5 r9 v i18 vby d dby b21_1 v22)=gJ hd k (bp κ) (fun b11_5 i18=>κ2 (qO t b11_1 r2 b11_4 v vby d dby b11_5 i18)) t b11_1 r2 b11_4 b11_5 r9 v i18 vby d dby n b21_1 v22:=aP (tq hd k (bp κ) t b11_1 r2 b11_4 b11_5 r9 v i18 vby d dby (fun b11_5 i18=>κ2 (qO t b11_1 r2 b11_4 v vby d dby b11_5 i18))) rfl (fun _=>rfl) fun r b21_1 v22=>by kernel_rfl
theorem PN (b11_1 r2 b11_4): ∀n b11_5 i18,(gY hd k).lp κ 19 [] n (qO t b11_1 r2 b11_4 v vby d dby b11_5 i18)=d3 hd k (bp κ) t b11_1 r2 b11_4 v vby d dby n b11_5 i18:=aP (fun own=>oZ hd k (bp κ) t b11_1 r2 b11_4 v vby d dby (fun b11_5 r9 i18 b21_1 v22=>gJ hd k (bp κ) own t b11_1 r2 b11_4 b11_5 r9 v i18 vby d dby k b21_1 v22) own) rfl (fun _=>rfl) fun r b11_5 i18=>Eq.trans (b:=oZ hd k (bp κ) t b11_1 r2 b11_4 v vby d dby (fun b11_5 r9 i18 b21_1 v22=>(gY hd k).lp κ 26 [r] k (F1 t b11_1 r2 b11_4 b11_5 r9 v i18 vby d dby b21_1 v22)) (fun b11_5 i18=>r (qO t b11_1 r2 b11_4 v vby d dby b11_5 i18)) b11_5 i18) (by kernel_rfl) (by simp only [PO])
theorem PM (b11_1 r2): ∀n b11_4 i14,(gY hd k).lp κ 11 [] n (zX t b11_1 r2 v vby d dby b11_4 i14)=fS hd k (bp κ) t b11_1 r2 v vby d dby n b11_4 i14:=aP (fun own=>oY hd k (bp κ) t b11_1 r2 v vby d dby (fun b11_4 b11_5 i18=>d3 hd k (bp κ) t b11_1 r2 b11_4 v vby d dby k b11_5 i18) own) rfl (fun _=>rfl) fun r b11_4 i14=>Eq.trans (b:=oY hd k (bp κ) t b11_1 r2 v vby d dby (fun b11_4 b11_5 i18=>(gY hd k).lp κ 19 [] k (qO t b11_1 r2 b11_4 v vby d dby b11_5 i18)) (fun b11_4 i14=>r (zX t b11_1 r2 v vby d dby b11_4 i14)) b11_4 i14) (by kernel_rfl) (by simp only [PN])
theorem PL: ∀n b11_1,(gY hd k).jn κ 1000006 [] n (F0 t v vby d dby b11_1)=vi hd k (bp κ) t v vby d dby n b11_1:=qv (oX hd k (bp κ) t v vby d dby (fun b11_1 r2 b11_4 i14=>fS hd k (bp κ) t b11_1 r2 v vby d dby k b11_4 i14)) rfl (fun _=>rfl) (fun b11_1=>Eq.trans (b:=oX hd k (bp κ) t v vby d dby (fun b11_1 r2 b11_4 i14=>(gY hd k).lp κ 11 [] k (zX t b11_1 r2 v vby d dby b11_4 i14)) b11_1) (by kernel_rfl) (by simp only [PM]))
end
theorem zh {S:Type} (o:Obj) (ho:af o): ∀k:Nat,Tl o 164 (vW (cF k:eF S))
 |0=>eX fun t v vby d dby κ x h=>by cases h
 |k+1=>ai (gY (cF k) k) ⟨qe o ho k,zh o ho k,yV o ho k,yW o ho k,Sg o ho k,trivial⟩ Tryz.func164 (by kernel_rfl) fun t v vby d dby κ x h=>Eq.trans (b:=CH (cF k) k (bp κ) (fun b11_1=>(gY (cF k) k).jn κ 1000006 [] k (F0 t v vby d dby b11_1)) t v vby d dby) (by kernel_rfl) (Eq.trans (by simp only [PL];rfl) h)
def HQ {S:Type} (k:Nat):Rw S:=ag jv xn fun t κ=>aa k (uB k t) (c7 κ)
def Nz {S:Type} (k:Nat):Fx S:=fp 12 [] [] k Tryz.f207 0
theorem Sh {S:Type} (o:Obj) (ho:af o) (k:Nat):Tl o 207 (HQ k:Rw S):=ai (Nz k) trivial Tryz.func207 (by kernel_rfl) fun t κ x h=>Eq.trans (by kernel_rfl) (aj h)
def HR {S:Type} (k:Nat):Rw S:=ag kK xn fun t a_from a_by κ=>aa k (uA k t a_from a_by) (c7 κ)
def NA {S:Type} (k:Nat):Fx S:=fp 26 [(164,vW (cF k)),(206,HO k),(207,HQ k)] [] k Tryz.f166 0
theorem Si {S:Type} (o:Obj) (ho:af o) (k:Nat):Tl o 166 (HR k:Rw S):=ai (NA k) ⟨zh o ho k,Sf o ho k,Sh o ho k,trivial⟩ Tryz.func166 (by kernel_rfl) fun t a_from a_by κ x h=>Eq.trans (by kernel_rfl) (aj h)
def rt {S:Type} (k:Nat):Rw S:=ag jx xn fun s i κ=>aa k (fg k s i) (bG κ)
def xh {S:Type} (k:Nat):Fx S:=fp 31 [(209,lw k),(228,lv k)] [(4,⟨[(1,.none),(5,some (100005,true)),(6,some (100006,true)),(7,.none)],[]⟩,ao 6 23)] k Tryz.f235 0
def F4 (i:Int) (r1:List Int) (out6:List Int) (v7:Int):St UU:=⟨[(1,(iI i)),(5,(.own 100005 0)),(6,(.own 100006 0)),(7,(iI v7))],[],[(100006,⟨0,ET.I,out6⟩),(100005,⟨0,ET.I,r1⟩)],[(100006,.wr),(100005,.wr)]⟩
section
variable {S:Type} (k:Nat) (s i:Int) (κ:Out UU→Option S)
theorem PP (r1): ∀n out6 v7,(xh k).lp κ 4 [] n (F4 i r1 out6 v7)=mU k (bG κ) i r1 n out6 v7:=aP (sU k (bG κ) i r1) rfl (fun _=>rfl) fun r out6 v7=>by kernel_rfl
end
theorem uN {S:Type} (o:Obj) (ho:af o) (k:Nat):Tl o 235 (rt k:Rw S):=ai (xh k) ⟨mu o ho k,mt o ho k,trivial⟩ Tryz.func235 (by kernel_rfl) fun s i κ x h=>Eq.trans (b:=Ch k (bG κ) (fun r1 out6 v7=>(xh k).lp κ 4 [] k (F4 i r1 out6 v7)) s i) (by kernel_rfl) (Eq.trans (by simp only [PP];rfl) (aj h))
def HS {S:Type} (k:Nat):Rw S:=ag dy xn fun f κ=>aa k (uw k f) (ap κ)
def ND {S:Type} (k:Nat):Fx S:=fp 11 [(88,gN k),(188,rq k)] [] k Tryz.f236 0
theorem Sj {S:Type} (o:Obj) (ho:af o) (k:Nat):Tl o 236 (HS k:Rw S):=ai (ND k) ⟨h8 o ho k,uM o ho k,trivial⟩ Tryz.func236 (by kernel_rfl) fun f κ x h=>Eq.trans (by kernel_rfl) (aj h)
def HT {S:Type} (k:Nat):Rw S:=ag kJ xn fun c κ=>aa k (uu k c) (ez κ)
def xj {S:Type} (k:Nat):Fx S:=fp 37 [(136,jT k),(137,jU k),(228,lv k)] [(3,⟨[(1,.none),(3,some (100003,true)),(4,.none)],[(1,[.none,.none])]⟩,ao 5 11)] k Tryz.f246 0
def F5 (c:Cl) (out3:List Cl) (i4:Int):St UU:=⟨[(1,(pt 1)),(3,(.own 100003 0)),(4,(iI i4))],[(1,bC c)],[(100003,⟨0,ET.C,out3⟩)],[(100003,.wr)]⟩
section
variable {S:Type} (k:Nat) (c:Cl) (κ:Out UU→Option S)
theorem PQ: ∀n out3 i4,(xj k).lp κ 3 [] n (F5 c out3 i4)=m8 k (ez κ) c n out3 i4:=aP (tc k (ez κ) c) rfl (fun _=>rfl) fun r out3 i4=>by kernel_rfl
end
theorem Sk {S:Type} (o:Obj) (ho:af o) (k:Nat):Tl o 246 (HT k:Rw S):=ai (xj k) ⟨kA o ho k,kB o ho k,mt o ho k,trivial⟩ Tryz.func246 (by kernel_rfl) fun c κ x h=>Eq.trans (b:=Cu k (ez κ) (fun out3 i4=>(xj k).lp κ 3 [] k (F5 c out3 i4)) c) (by kernel_rfl) (Eq.trans (by simp only [PQ];rfl) (aj h))
def HU {S:Type} (k:Nat):Rw S:=ag jx xn fun s i κ=>aa k (pG k s i) (bG κ)
def NE {S:Type} (k:Nat):Fx S:=fp 21 [(209,lw k),(228,lv k),(235,rt k)] [] k Tryz.f248 0
theorem Sl {S:Type} (o:Obj) (ho:af o) (k:Nat):Tl o 248 (HU k:Rw S):=ai (NE k) ⟨mu o ho k,mt o ho k,uN o ho k,trivial⟩ Tryz.func248 (by kernel_rfl) fun s i κ x h=>Eq.trans (by kernel_rfl) (aj h)
end
end Go.Proofs.YtapmagaejigpnaaGreatDoor
namespace Go.Proofs.YtapmagaejigpnaaGreatDoor
open Go PI
set_option linter.unusedVariables false
set_option maxRecDepth 100000
noncomputable section
def HV {S:Type} (k:Nat):Rw S:=ag UQ xn fun a b κ=>aa k (pK k a b) (bG κ)
def xk {S:Type} (k:Nat):Fx S:=fp 22 [(209,lw k),(248,HU k)] [(3,⟨[(0,.none),(5,some (100005,true)),(6,.none)],[]⟩,ao 5 11)] k Tryz.f247 0
def F6 (r1:List Int) (a0 i6:Int):St UU:=⟨[(0,(iU a0)),(5,(.own 100005 0)),(6,(iI i6))],[],[(100005,⟨0,ET.I,r1⟩)],[(100005,.wr)]⟩
section
variable {S:Type} (k:Nat) (a b:Int) (κ:Out UU→Option S)
theorem PR (r1): ∀n a0 i6,(xk k).lp κ 3 [] n (F6 r1 a0 i6)=mZ k (bG κ) r1 n a0 i6:=aP (sZ k (bG κ) r1) rfl (fun _=>rfl) fun r a0 i6=>by kernel_rfl
end
theorem Sm {S:Type} (o:Obj) (ho:af o) (k:Nat):Tl o 247 (HV k:Rw S):=ai (xk k) ⟨mu o ho k,Sl o ho k,trivial⟩ Tryz.func247 (by kernel_rfl) fun a b κ x h=>Eq.trans (b:=Cn k (bG κ) (fun r1 a0 i6=>(xk k).lp κ 3 [] k (F6 r1 a0 i6)) a b) (by kernel_rfl) (Eq.trans (by simp only [PR];rfl) (aj h))
def AM {S:Type} (k:Nat):Rw S:=ag qy xn fun a b κ=>aa k (pI k a b) (Hj κ)
def NF {S:Type} (k:Nat):Fx S:=fp 16 [(247,HV k)] [] k Tryz.f245 0
theorem DW {S:Type} (o:Obj) (ho:af o) (k:Nat):Tl o 245 (AM k:Rw S):=ai (NF k) ⟨Sm o ho k,trivial⟩ Tryz.func245 (by kernel_rfl) fun a b κ x h=>Eq.trans (by kernel_rfl) (aj h)
def AN {S:Type} (k:Nat):Rw S:=ag fO xn fun f g κ=>aa k (hX k f g) (ap κ)
def oe {S:Type} (k:Nat):Fx S:=fp 45 [(88,gN k),(136,jT k),(245,AM k)] [(5,⟨[(0,.none),(1,.none),(6,some (100006,true)),(7,.none)],[]⟩,ao 6 23),(8,⟨[(0,.none),(1,.none),(6,some (100006,true)),(7,.none),(8,.none)],[]⟩,ao 12 1175)] k Tryz.f239 0
def qP (f g:List Cl) (out6:List Cl) (i7:Int):St UU:=⟨[(0,(sC f)),(1,(sC g)),(6,(.own 100006 0)),(7,(iI i7))],[],[(100006,⟨0,ET.C,out6⟩)],[(100006,.wr)]⟩
def F7 (f g:List Cl) (i7:Int) (out6':List Cl) (v8:Int):St UU:=⟨[(0,(sC f)),(1,(sC g)),(6,(.own 100006 0)),(7,(iI i7)),(8,(iI v8))],[],[(100006,⟨0,ET.C,out6'⟩)],[(100006,.wr)]⟩
section
variable {S:Type} (k:Nat) (f g:List Cl) (κ:Out UU→Option S)
theorem PT (i7 κ0): ∀n out6' v8,(oe k).lp κ 8 [κ0] n (F7 f g i7 out6' v8)=kV k (ap κ) (fun out6 i7=>κ0 (qP f g out6 i7)) f g i7 n out6' v8:=aP (s_ k (ap κ) f g i7 (fun out6 i7=>κ0 (qP f g out6 i7))) rfl (fun _=>rfl) fun r out6' v8=>by kernel_rfl
theorem PS: ∀n out6 i7,(oe k).lp κ 5 [] n (qP f g out6 i7)=jH k (ap κ) f g n out6 i7:=aP (fun own=>oH k (ap κ) f g (fun i7 out6' v8=>kV k (ap κ) own f g i7 k out6' v8) own) rfl (fun _=>rfl) fun r out6 i7=>Eq.trans (b:=oH k (ap κ) f g (fun i7 out6' v8=>(oe k).lp κ 8 [r] k (F7 f g i7 out6' v8)) (fun out6 i7=>r (qP f g out6 i7)) out6 i7) (by kernel_rfl) (by simp only [PT])
end
theorem DX {S:Type} (o:Obj) (ho:af o) (k:Nat):Tl o 239 (AN k:Rw S):=ai (oe k) ⟨h8 o ho k,kA o ho k,DW o ho k,trivial⟩ Tryz.func239 (by kernel_rfl) fun f g κ x h=>Eq.trans (b:=Cq k (ap κ) (fun out6 i7=>(oe k).lp κ 5 [] k (qP f g out6 i7)) f g) (by kernel_rfl) (Eq.trans (by simp only [PS];rfl) (aj h))
def AO {S:Type} (k:Nat):Rw S:=ag dy xn fun f κ=>aa k (mg k f) (ap κ)
def xl {S:Type} (k:Nat):Fx S:=fp 34 [(88,gN k),(239,AN k),(246,HT k)] [(6,aN [0,4,5,6] [],ao 7 47)] k Tryz.f240 0
def F8 (f:List Cl) (v4:List Cl) (v5 i6:Int):St UU:=⟨[(0,(sC f)),(4,(sC v4)),(5,(iI v5)),(6,(iI i6))],[],[],[]⟩
section
variable {S:Type} (k:Nat) (f:List Cl) (κ:Out UU→Option S)
theorem PW: ∀n v4 v5 i6,(xl k).lp κ 6 [] n (F8 f v4 v5 i6)=m6 k (ap κ) f n v4 v5 i6:=iA (ta k (ap κ) f) rfl (fun _=>rfl) fun r v4 v5 i6=>by kernel_rfl
end
theorem DY {S:Type} (o:Obj) (ho:af o) (k:Nat):Tl o 240 (AO k:Rw S):=ai (xl k) ⟨h8 o ho k,DX o ho k,Sk o ho k,trivial⟩ Tryz.func240 (by kernel_rfl) fun f κ x h=>Eq.trans (b:=Cr k (ap κ) (fun v4 v5 i6=>(xl k).lp κ 6 [] k (F8 f v4 v5 i6)) f) (by kernel_rfl) (Eq.trans (by simp only [PW];rfl) (aj h))
def HW {S:Type} (k:Nat):Rw S:=ag dy xn fun f κ=>aa k (pM k f) (ap κ)
def NG {S:Type} (k:Nat):Fx S:=fp 18 [(188,rq k),(240,AO k)] [] k Tryz.f237 0
theorem Sn {S:Type} (o:Obj) (ho:af o) (k:Nat):Tl o 237 (HW k:Rw S):=ai (NG k) ⟨uM o ho k,DY o ho k,trivial⟩ Tryz.func237 (by kernel_rfl) fun f κ x h=>Eq.trans (by kernel_rfl) (aj h)
def HX {S:Type} (k:Nat):Rw S:=ag fO xn fun f g κ=>aa k (jh k f g) (ap κ)
def og {S:Type} (k:Nat):Fx S:=fp 45 [(43,lx k),(188,rq k),(245,AM k)] [(5,⟨[(0,.none),(1,.none),(6,some (100006,true)),(7,.none)],[]⟩,ao 6 23),(8,⟨[(0,.none),(1,.none),(6,some (100006,true)),(7,.none),(8,.none)],[]⟩,ao 12 1175)] k Tryz.f238 0
def qQ (f g:List Cl) (out6:List Cl) (i7:Int):St UU:=⟨[(0,(sC f)),(1,(sC g)),(6,(.own 100006 0)),(7,(iI i7))],[],[(100006,⟨0,ET.C,out6⟩)],[(100006,.wr)]⟩
def F9 (f g:List Cl) (i7:Int) (out6':List Cl) (v8:Int):St UU:=⟨[(0,(sC f)),(1,(sC g)),(6,(.own 100006 0)),(7,(iI i7)),(8,(iI v8))],[],[(100006,⟨0,ET.C,out6'⟩)],[(100006,.wr)]⟩
section
variable {S:Type} (k:Nat) (f g:List Cl) (κ:Out UU→Option S)
theorem PY (i7 κ0): ∀n out6' v8,(og k).lp κ 8 [κ0] n (F9 f g i7 out6' v8)=kW k (ap κ) (fun out6 i7=>κ0 (qQ f g out6 i7)) f g i7 n out6' v8:=aP (td k (ap κ) f g i7 (fun out6 i7=>κ0 (qQ f g out6 i7))) rfl (fun _=>rfl) fun r out6' v8=>by kernel_rfl
theorem PX: ∀n out6 i7,(og k).lp κ 5 [] n (qQ f g out6 i7)=jJ k (ap κ) f g n out6 i7:=aP (fun own=>oJ k (ap κ) f g (fun i7 out6' v8=>kW k (ap κ) own f g i7 k out6' v8) own) rfl (fun _=>rfl) fun r out6 i7=>Eq.trans (b:=oJ k (ap κ) f g (fun i7 out6' v8=>(og k).lp κ 8 [r] k (F9 f g i7 out6' v8)) (fun out6 i7=>r (qQ f g out6 i7)) out6 i7) (by kernel_rfl) (by simp only [PY])
end
theorem So {S:Type} (o:Obj) (ho:af o) (k:Nat):Tl o 238 (HX k:Rw S):=ai (og k) ⟨mw o ho k,uM o ho k,DW o ho k,trivial⟩ Tryz.func238 (by kernel_rfl) fun f g κ x h=>Eq.trans (b:=Cv k (ap κ) (fun out6 i7=>(og k).lp κ 5 [] k (qQ f g out6 i7)) f g) (by kernel_rfl) (Eq.trans (by simp only [PX];rfl) (aj h))
def HZ {S:Type} (k:Nat):Rw S:=ag ve xn fun f i a_r κ=>aa k (ux k f i a_r) (ap κ)
def xo {S:Type} (k:Nat):Fx S:=fp 90 [(43,lx k),(88,gN k),(137,jU k),(138,AL k),(235,rt k),(236,HS k),(237,HW k),(238,HX k)] [(5,aN [0,1,2,8,9] [],ao 6 23)] k Tryz.f225 0
def F_ (f:List Cl) (i:Int) (a_r:List Cl) (v8:List Cl) (v9:Int):St UU:=⟨[(0,(sC f)),(1,(iI i)),(2,(sC a_r)),(8,(sC v8)),(9,(iI v9))],[],[],[]⟩
section
variable {S:Type} (k:Nat) (f:List Cl) (i:Int) (a_r:List Cl) (κ:Out UU→Option S)
theorem PZ: ∀n v8 v9,(xo k).lp κ 5 [] n (F_ f i a_r v8 v9)=kX k (ap κ) f i a_r n v8 v9:=aP (te k (ap κ) f i a_r) rfl (fun _=>rfl) fun r v8 v9=>by kernel_rfl
end
theorem Sq {S:Type} (o:Obj) (ho:af o) (k:Nat):Tl o 225 (HZ k:Rw S):=ai (xo k) ⟨mw o ho k,h8 o ho k,kB o ho k,DV o ho k,uN o ho k,Sj o ho k,Sn o ho k,So o ho k,trivial⟩ Tryz.func225 (by kernel_rfl) fun f i a_r κ x h=>Eq.trans (b:=Cw k (ap κ) (fun v8 v9=>(xo k).lp κ 5 [] k (F_ f i a_r v8 v9)) f i a_r) (by kernel_rfl) (Eq.trans (by simp only [PZ];rfl) (aj h))
def H0 {S:Type} (k:Nat):Rw S:=ag fO xn fun f g κ=>aa k (ur k f g) (ap κ)
def NI {S:Type} (k:Nat):Fx S:=fp 22 [(88,gN k),(136,jT k)] [] k Tryz.f241 0
theorem Sr {S:Type} (o:Obj) (ho:af o) (k:Nat):Tl o 241 (H0 k:Rw S):=ai (NI k) ⟨h8 o ho k,kA o ho k,trivial⟩ Tryz.func241 (by kernel_rfl) fun f g κ x h=>Eq.trans (by kernel_rfl) (aj h)
def H1 {S:Type} (k:Nat):Rw S:=ag ve xn fun f i a_r κ=>aa k (ut k f i a_r) (ap κ)
def oh {S:Type} (k:Nat):Fx S:=fp 93 [(88,gN k),(137,jU k),(235,rt k),(239,AN k),(240,AO k),(241,H0 k)] [(5,aN [0,1,2,8,9] [],ao 6 23),(1000017,aN [0,1,2,8,9,11,12] [],ao 15 31895)] k Tryz.f226 0
def qR (f:List Cl) (i:Int) (a_r:List Cl) (v8:List Cl) (v9:Int):St UU:=⟨[(0,(sC f)),(1,(iI i)),(2,(sC a_r)),(8,(sC v8)),(9,(iI v9))],[],[],[]⟩
def Ga (f:List Cl) (i:Int) (a_r v8:List Cl) (v9:Int) (g11:List Cl) (v12:Int):St UU:=⟨[(0,(sC f)),(1,(iI i)),(2,(sC a_r)),(8,(sC v8)),(9,(iI v9)),(11,(sC g11)),(12,(iI v12))],[],[],[]⟩
section
variable {S:Type} (k:Nat) (f:List Cl) (i:Int) (a_r:List Cl) (κ:Out UU→Option S)
theorem P1 (v8 v9 κ0): ∀n g11 v12,(oh k).jn κ 1000017 [κ0] n (Ga f i a_r v8 v9 g11 v12)=m7 k (ap κ) (fun v8 v9=>κ0 (qR f i a_r v8 v9)) f i a_r v8 v9 n g11 v12:=EP (tb k (ap κ) f i a_r v8 v9 (fun v8 v9=>κ0 (qR f i a_r v8 v9))) rfl (fun _=>rfl) (fun g11 v12=>by kernel_rfl)
theorem P0: ∀n v8 v9,(oh k).lp κ 5 [] n (qR f i a_r v8 v9)=jI k (ap κ) f i a_r n v8 v9:=aP (fun own=>oI k (ap κ) f i a_r (fun v8 v9 g11 v12=>m7 k (ap κ) own f i a_r v8 v9 k g11 v12) own) rfl (fun _=>rfl) fun r v8 v9=>Eq.trans (b:=oI k (ap κ) f i a_r (fun v8 v9 g11 v12=>(oh k).jn κ 1000017 [r] k (Ga f i a_r v8 v9 g11 v12)) (fun v8 v9=>r (qR f i a_r v8 v9)) v8 v9) (by kernel_rfl) (by simp only [P1])
end
theorem Ss {S:Type} (o:Obj) (ho:af o) (k:Nat):Tl o 226 (H1 k:Rw S):=ai (oh k) ⟨h8 o ho k,kB o ho k,uN o ho k,DX o ho k,DY o ho k,Sr o ho k,trivial⟩ Tryz.func226 (by kernel_rfl) fun f i a_r κ x h=>Eq.trans (b:=Ct k (ap κ) (fun v8 v9=>(oh k).lp κ 5 [] k (qR f i a_r v8 v9)) f i a_r) (by kernel_rfl) (Eq.trans (by simp only [P0];rfl) (aj h))
def H2 {S:Type} (k:Nat):Rw S:=ag UR xn fun f isFace i a_r depth κ=>aa k (pU k f isFace i a_r depth) (ap κ)
def NJ {S:Type} (k:Nat):Fx S:=fp 48 [(123,rp k),(137,jU k),(210,AF k),(225,HZ k),(226,H1 k)] [] k Tryz.f204 0
theorem Su {S:Type} (o:Obj) (ho:af o) (k:Nat):Tl o 204 (H2 k:Rw S):=ai (NJ k) ⟨uL o ho k,kB o ho k,DR o ho k,Sq o ho k,Ss o ho k,trivial⟩ Tryz.func204 (by kernel_rfl) fun f isFace i a_r depth κ x h=>Eq.trans (by kernel_rfl) (aj h)
def H3 {S:Type} (k:Nat):Rw S:=ag jx xn fun s i κ=>aa k (md k s i) (bG κ)
def xp {S:Type} (k:Nat):Fx S:=fp 35 [(209,lw k),(228,lv k),(235,rt k)] [(3,⟨[(1,.none),(5,some (100005,true)),(6,.none)],[]⟩,ao 5 11)] k Tryz.f227 0
def Gb (i:Int) (l5:List Int) (v6:Int):St UU:=⟨[(1,(iI i)),(5,(.own 100005 0)),(6,(iI v6))],[],[(100005,⟨0,ET.I,l5⟩)],[(100005,.wr)]⟩
section
variable {S:Type} (k:Nat) (s i:Int) (κ:Out UU→Option S)
theorem P2: ∀n l5 v6,(xp k).lp κ 3 [] n (Gb i l5 v6)=kR k (bG κ) i n l5 v6:=aP (sP k (bG κ) i) rfl (fun _=>rfl) fun r l5 v6=>by kernel_rfl
end
theorem Sv {S:Type} (o:Obj) (ho:af o) (k:Nat):Tl o 227 (H3 k:Rw S):=ai (xp k) ⟨mu o ho k,mt o ho k,uN o ho k,trivial⟩ Tryz.func227 (by kernel_rfl) fun s i κ x h=>Eq.trans (b:=Ce k (bG κ) (fun l5 v6=>(xp k).lp κ 3 [] k (Gb i l5 v6)) s i) (by kernel_rfl) (Eq.trans (by simp only [P2];rfl) (aj h))
def H4 {S:Type} (k:Nat):Rw S:=ag zw xn fun f i κ=>aa k (pT k f i) (ez κ)
def xq {S:Type} (k:Nat):Fx S:=fp 37 [(136,jT k),(227,H3 k)] [(3,⟨[(0,.none),(1,.none),(5,some (100005,true)),(6,.none)],[]⟩,ao 5 11)] k Tryz.f205 0
def Gc (f:List Cl) (i:Int) (out5:List Cl) (v6:Int):St UU:=⟨[(0,(sC f)),(1,(iI i)),(5,(.own 100005 0)),(6,(iI v6))],[],[(100005,⟨0,ET.C,out5⟩)],[(100005,.wr)]⟩
section
variable {S:Type} (k:Nat) (f:List Cl) (i:Int) (κ:Out UU→Option S)
theorem P3: ∀n out5 v6,(xq k).lp κ 3 [] n (Gc f i out5 v6)=nh k (ez κ) f i n out5 v6:=aP (tr k (ez κ) f i) rfl (fun _=>rfl) fun r out5 v6=>by kernel_rfl
end
theorem Sw {S:Type} (o:Obj) (ho:af o) (k:Nat):Tl o 205 (H4 k:Rw S):=ai (xq k) ⟨kA o ho k,Sv o ho k,trivial⟩ Tryz.func205 (by kernel_rfl) fun f i κ x h=>Eq.trans (b:=CI k (ez κ) (fun out5 v6=>(xq k).lp κ 3 [] k (Gc f i out5 v6)) f i) (by kernel_rfl) (Eq.trans (by simp only [P3];rfl) (aj h))
def AP {S:Type} (hd:fF S):Rw S:=ag US xn fun t i a_r depth drop κ=>hd t i a_r depth drop (bp κ)
def ke {S:Type} (hd:fF S) (k:Nat):Fx S:=fp 174 [(124,nL k),(165,AP hd),(182,vT k),(183,vU k),(204,H2 k),(205,H4 k)] [(9,⟨[(1,.none),(2,.none),(3,.none),(4,.none),(5,.none),(10,.none),(11,.none),(14,.none)],[(5,[.none,.none,.none,.none,.none,.none]),(10,[.none,.none,.none,some (200643,true),some (200644,true),some (200645,true)]),(11,[.none,.none,.none,.none,some (200708,true),some (200709,true)])]⟩,ao 9 191),(17,⟨[(1,.none),(2,.none),(3,.none),(4,.none),(5,.none),(10,.none),(11,.none),(18,.none)],[(5,[.none,.none,.none,.none,.none,.none]),(10,[.none,.none,.none,some (200643,true),some (200644,true),some (200645,true)]),(11,[.none,.none,.none,.none,some (200708,true),some (200709,true)])]⟩,ao 10 383),(27,⟨[(1,.none),(2,.none),(3,.none),(4,.none),(5,.none),(10,.none),(11,.none),(18,.none),(21,.none),(22,.none)],[(5,[.none,.none,.none,.none,.none,.none]),(10,[.none,.none,.none,some (200643,true),some (200644,true),some (200645,true)]),(11,[.none,.none,.none,.none,some (200708,true),some (200709,true)]),(21,[.none,some (201345,true)])]⟩,ao 22 1558911)] k Tryz.f165 0
def zY (t:Tm) (i:Int) (a_r:List Cl) (depth:Int) (drop:Bool) (b11_3:List Cl) (b11_4:List Tm) (v14:Int):St UU:=⟨[(1,(iI i)),(2,(sC a_r)),(3,(iI depth)),(4,(.bool drop)),(5,(pt 5)),(10,(pt 10)),(11,(pt 11)),(14,(iI v14))],[(5,bT t),(10,.cells [(iI 0),(iI 0),(.str ByteArray.empty),(.own 200643 0),(.own 200644 0),(.own 200645 0)]),(11,.cells [(iI t.kind),(iI t.n),(.str t.name),(sC b11_3),(.own 200708 0),(.own 200709 0)])],[(200709,⟨0,ET.B,([]:List (Br Tm))⟩),(200708,⟨0,ET.T,b11_4⟩),(200645,⟨0,ET.B,([]:List (Br Tm))⟩),(200644,⟨0,ET.T,([]:List Tm)⟩),(200643,⟨0,ET.C,([]:List Cl)⟩)],[(200709,.wr),(200708,.wr),(200645,.wr),(200644,.wr),(200643,.wr)]⟩
def qS (t:Tm) (b11_3:List Cl) (b11_4:List Tm) (i:Int) (a_r:List Cl) (depth:Int) (drop:Bool) (b11_5:List (Br Tm)) (v18:Int):St UU:=⟨[(1,(iI i)),(2,(sC a_r)),(3,(iI depth)),(4,(.bool drop)),(5,(pt 5)),(10,(pt 10)),(11,(pt 11)),(18,(iI v18))],[(5,bT t),(10,.cells [(iI 0),(iI 0),(.str ByteArray.empty),(.own 200643 0),(.own 200644 0),(.own 200645 0)]),(11,.cells [(iI t.kind),(iI t.n),(.str t.name),(sC b11_3),(.own 200708 0),(.own 200709 0)])],[(200709,⟨0,ET.B,b11_5⟩),(200708,⟨0,ET.T,b11_4⟩),(200645,⟨0,ET.B,([]:List (Br Tm))⟩),(200644,⟨0,ET.T,([]:List Tm)⟩),(200643,⟨0,ET.C,([]:List Cl)⟩)],[(200709,.wr),(200708,.wr),(200645,.wr),(200644,.wr),(200643,.wr)]⟩
def Gd (t:Tm) (b11_3:List Cl) (b11_4:List Tm) (b11_5:List (Br Tm)) (i v18:Int) (a_r:List Cl) (depth:Int) (drop:Bool) (b21_0:List Cl) (b21_1:List Tm) (v22:Int):St UU:=⟨[(1,(iI i)),(2,(sC a_r)),(3,(iI depth)),(4,(.bool drop)),(5,(pt 5)),(10,(pt 10)),(11,(pt 11)),(18,(iI v18)),(21,(pt 21)),(22,(iI v22))],[(5,bT t),(10,.cells [(iI 0),(iI 0),(.str ByteArray.empty),(.own 200643 0),(.own 200644 0),(.own 200645 0)]),(11,.cells [(iI t.kind),(iI t.n),(.str t.name),(sC b11_3),(.own 200708 0),(.own 200709 0)]),(21,.cells [(sC b21_0),(.own 201345 0)])],[(201345,⟨0,ET.T,b21_1⟩),(200709,⟨0,ET.B,b11_5⟩),(200708,⟨0,ET.T,b11_4⟩),(200645,⟨0,ET.B,([]:List (Br Tm))⟩),(200644,⟨0,ET.T,([]:List Tm)⟩),(200643,⟨0,ET.C,([]:List Cl)⟩)],[(201345,.wr),(200709,.wr),(200708,.wr),(200645,.wr),(200644,.wr),(200643,.wr)]⟩
section
variable {S:Type} (hd:fF S) (k:Nat) (t:Tm) (i:Int) (a_r:List Cl) (depth:Int) (drop:Bool) (κ:Out UU→Option S)
theorem P6 (b11_3 b11_4 b11_5 v18 κ1): ∀n b21_0 b21_1 v22,(ke hd k).lp κ 27 [κ1] n (Gd t b11_3 b11_4 b11_5 i v18 a_r depth drop b21_0 b21_1 v22)=iw hd k (bp κ) (fun b11_5 v18=>κ1 (qS t b11_3 b11_4 i a_r depth drop b11_5 v18)) t b11_3 b11_4 b11_5 i v18 a_r depth drop n b21_0 b21_1 v22:=iA (tt hd k (bp κ) t b11_3 b11_4 b11_5 i v18 a_r depth drop (fun b11_5 v18=>κ1 (qS t b11_3 b11_4 i a_r depth drop b11_5 v18))) rfl (fun _=>rfl) fun r b21_0 b21_1 v22=>by kernel_rfl
theorem P5 (b11_3 b11_4): ∀n b11_5 v18,(ke hd k).lp κ 17 [] n (qS t b11_3 b11_4 i a_r depth drop b11_5 v18)=fT hd k (bp κ) t b11_3 b11_4 i a_r depth drop n b11_5 v18:=aP (fun own=>o8 hd k (bp κ) t b11_3 b11_4 i a_r depth drop (fun b11_5 v18 b21_0 b21_1 v22=>iw hd k (bp κ) own t b11_3 b11_4 b11_5 i v18 a_r depth drop k b21_0 b21_1 v22) own) rfl (fun _=>rfl) fun r b11_5 v18=>Eq.trans (b:=o8 hd k (bp κ) t b11_3 b11_4 i a_r depth drop (fun b11_5 v18 b21_0 b21_1 v22=>(ke hd k).lp κ 27 [r] k (Gd t b11_3 b11_4 b11_5 i v18 a_r depth drop b21_0 b21_1 v22)) (fun b11_5 v18=>r (qS t b11_3 b11_4 i a_r depth drop b11_5 v18)) b11_5 v18) (by kernel_rfl) (by simp only [P6])
theorem P4: ∀n b11_3 b11_4 v14,(ke hd k).lp κ 9 [] n (zY t i a_r depth drop b11_3 b11_4 v14)=jM hd k (bp κ) t i a_r depth drop n b11_3 b11_4 v14:=iA (fun own=>o0 hd k (bp κ) t i a_r depth drop (fun b11_3 b11_4 b11_5 v18=>fT hd k (bp κ) t b11_3 b11_4 i a_r depth drop k b11_5 v18) own) rfl (fun _=>rfl) fun r b11_3 b11_4 v14=>Eq.trans (b:=o0 hd k (bp κ) t i a_r depth drop (fun b11_3 b11_4 b11_5 v18=>(ke hd k).lp κ 17 [] k (qS t b11_3 b11_4 i a_r depth drop b11_5 v18)) (fun b11_3 b11_4 v14=>r (zY t i a_r depth drop b11_3 b11_4 v14)) b11_3 b11_4 v14) (by kernel_rfl) (by simp only [P5])
end
theorem EE {S:Type} (o:Obj) (ho:af o): ∀k:Nat,Tl o 165 (AP (eI k:fF S))
 |0=>eX fun t i a_r depth drop κ x h=>by cases h
 |k+1=>ai (ke (eI k) k) ⟨qe o ho k,EE o ho k,yV o ho k,yW o ho k,Su o ho k,Sw o ho k,trivial⟩ Tryz.func165 (by kernel_rfl) fun t i a_r depth drop κ x h=>Eq.trans (b:=CJ (eI k) k (bp κ) (fun b11_3 b11_4 v14=>(ke (eI k) k).lp κ 9 [] k (zY t i a_r depth drop b11_3 b11_4 v14)) t i a_r depth drop) (by kernel_rfl) (Eq.trans (by simp only [P4];rfl) h)
def H5 {S:Type} (k:Nat):Rw S:=ag zy xn fun t i a_r κ=>aa k (pS k t i a_r) (bp κ)
def NK {S:Type} (k:Nat):Fx S:=fp 27 [(123,rp k),(124,nL k),(165,AP (eI k))] [] k Tryz.f120 0
theorem Sx {S:Type} (o:Obj) (ho:af o) (k:Nat):Tl o 120 (H5 k:Rw S):=ai (NK k) ⟨uL o ho k,qe o ho k,EE o ho k,trivial⟩ Tryz.func120 (by kernel_rfl) fun t i a_r κ x h=>Eq.trans (by kernel_rfl) (aj h)
def H6 {S:Type} (k:Nat):Rw S:=ag UT xn fun line a_r κ=>aa k (pX k line a_r) (bp κ)
def NL {S:Type} (k:Nat):Fx S:=fp 23 [(120,H5 k),(124,nL k),(166,HR k)] [] k Tryz.f121 0
theorem Sy {S:Type} (o:Obj) (ho:af o) (k:Nat):Tl o 121 (H6 k:Rw S):=ai (NL k) ⟨Sx o ho k,qe o ho k,Si o ho k,trivial⟩ Tryz.func121 (by kernel_rfl) fun line a_r κ x h=>Eq.trans (by kernel_rfl) (aj h)
def H7 {S:Type} (k:Nat):Rw S:=ag kK xn fun t vars dims κ=>aa k (pQ k t vars dims) (bp κ)
def NM {S:Type} (k:Nat):Fx S:=fp 22 [(164,vW (cF k))] [] k Tryz.f117 0
theorem Sz {S:Type} (o:Obj) (ho:af o) (k:Nat):Tl o 117 (H7 k:Rw S):=ai (NM k) ⟨zh o ho k,trivial⟩ Tryz.func117 (by kernel_rfl) fun t vars dims κ x h=>Eq.trans (by kernel_rfl) (aj h)
def H9 {S:Type} (k:Nat):Rw S:=ag Fa xn fun kind kids κ=>aa k (yH k kind kids) (bp κ)
def xt {S:Type} (k:Nat):Fx S:=fp 25 [] [(2,⟨[(0,.none),(1,.none),(4,.none),(5,.none)],[(4,[.none,.none,.none,some (200259,true),some (200260,true),some (200261,true)])]⟩,ao 4 5)] k Tryz.f118 0
def Ge (kind:Int) (kids:List Tm) (i5:Int):St UU:=⟨[(0,(iI kind)),(1,(sT kids)),(4,(pt 4)),(5,(iI i5))],[(4,.cells [(iI 0),(iI 0),(.str ByteArray.empty),(.own 200259 0),(.own 200260 0),(.own 200261 0)])],[(200261,⟨0,ET.B,([]:List (Br Tm))⟩),(200260,⟨0,ET.T,([]:List Tm)⟩),(200259,⟨0,ET.C,([]:List Cl)⟩)],[(200261,.wr),(200260,.wr),(200259,.wr)]⟩
section
variable {S:Type} (k:Nat) (kind:Int) (kids:List Tm) (κ:Out UU→Option S)
theorem P7: ∀n i5,(xt k).lp κ 2 [] n (Ge kind kids i5)=ni k (bp κ) kind kids n i5:=bY (tu k (bp κ) kind kids) rfl (fun _=>rfl) fun r i5=>by kernel_rfl
end
theorem SB {S:Type} (o:Obj) (ho:af o) (k:Nat):Tl o 118 (H9 k:Rw S):=ai (xt k) trivial Tryz.func118 (by kernel_rfl) fun kind kids κ x h=>Eq.trans (b:=CL k (bp κ) (fun i5=>(xt k).lp κ 2 [] k (Ge kind kids i5)) kind kids) (by kernel_rfl) (Eq.trans (by simp only [P7];rfl) (aj h))
def H_ {S:Type} (k:Nat):Rw S:=ag UV xn fun kind a b κ=>aa k (mm k kind a b) (bp κ)
def NO {S:Type} (k:Nat):Fx S:=fp 12 [(118,H9 k)] [] k Tryz.f72 0
theorem SC {S:Type} (o:Obj) (ho:af o) (k:Nat):Tl o 72 (H_ k:Rw S):=ai (NO k) ⟨SB o ho k,trivial⟩ Tryz.func72 (by kernel_rfl) fun kind a b κ x h=>Eq.trans (by kernel_rfl) (aj h)
def AQ {S:Type} (k:Nat):Rw S:=ag Fb xn fun line phi a a_end a_r κ=>aa k (pV k line phi a a_end a_r) (bp κ)
def NP {S:Type} (k:Nat):Fx S:=fp 44 [(72,H_ k),(117,H7 k),(121,H6 k),(123,rp k),(124,nL k),(138,AL k)] [] k Tryz.f90 0
theorem DZ {S:Type} (o:Obj) (ho:af o) (k:Nat):Tl o 90 (AQ k:Rw S):=ai (NP k) ⟨SC o ho k,Sz o ho k,Sy o ho k,uL o ho k,qe o ho k,DV o ho k,trivial⟩ Tryz.func90 (by kernel_rfl) fun line phi a a_end a_r κ x h=>Eq.trans (by kernel_rfl) (aj h)
def Ia {S:Type} (k:Nat):Rw S:=ag kL xn fun line phi a κ=>aa k (yI k line phi a) (bp κ)
def NQ {S:Type} (k:Nat):Fx S:=fp 14 [(90,AQ k)] [] k Tryz.f45 0
theorem SD {S:Type} (o:Obj) (ho:af o) (k:Nat):Tl o 45 (Ia k:Rw S):=ai (NQ k) ⟨DZ o ho k,trivial⟩ Tryz.func45 (by kernel_rfl) fun line phi a κ x h=>Eq.trans (by kernel_rfl) (aj h)
def AR {S:Type} (k:Nat):Rw S:=ag jv xn fun t κ=>aa k (pW k t) (c7 κ)
def NR {S:Type} (k:Nat):Fx S:=fp 19 [(87,vV k)] [] k Tryz.f44 0
theorem D0 {S:Type} (o:Obj) (ho:af o) (k:Nat):Tl o 44 (AR k:Rw S):=ai (NR k) ⟨yX o ho k,trivial⟩ Tryz.func44 (by kernel_rfl) fun t κ x h=>Eq.trans (by kernel_rfl) (aj h)
def Ib {S:Type} (k:Nat):Rw S:=ag kL xn fun line phi a κ=>aa k (uD k line phi a) (c7 κ)
def xu {S:Type} (k:Nat):Fx S:=fp 31 [(42,AI k),(43,lx k),(44,AR k),(45,Ia k)] [(1000004,⟨[(1,.none),(3,.none),(5,.none),(6,.none),(8,.none)],[(3,[.none,.none,.none,.none,.none,.none]),(5,[.none,.none,.none,.none,.none,.none]),(6,[.none,.none,.none,some (200387,true),some (200388,true),some (200389,true)])]⟩,ao 3 7)] k Tryz.f12 0
def Gf (line a:Tm) (phi:List Cl) (v8:Int):St UU:=⟨[(1,(sC phi)),(3,(pt 3)),(5,(pt 5)),(6,(pt 6)),(8,(iI v8))],[(3,bT line),(5,bT a),(6,.cells [(iI 0),(iI 0),(.str ByteArray.empty),(.own 200387 0),(.own 200388 0),(.own 200389 0)])],[(200389,⟨0,ET.B,([]:List (Br Tm))⟩),(200388,⟨0,ET.T,([]:List Tm)⟩),(200387,⟨0,ET.C,([]:List Cl)⟩)],[(200389,.wr),(200388,.wr),(200387,.wr)]⟩
section
variable {S:Type} (k:Nat) (line:Tm) (phi:List Cl) (a:Tm) (κ:Out UU→Option S)
theorem P8: ∀n v8,(xu k).jn κ 1000004 [] n (Gf line a phi v8)=vk k (c7 κ) line a phi n v8:=qv (o_ k (c7 κ) line a phi) rfl (fun _=>rfl) (fun v8=>by kernel_rfl)
end
theorem SE {S:Type} (o:Obj) (ho:af o) (k:Nat):Tl o 12 (Ib k:Rw S):=ai (xu k) ⟨DT o ho k,mw o ho k,D0 o ho k,SD o ho k,trivial⟩ Tryz.func12 (by kernel_rfl) fun line phi a κ x h=>Eq.trans (b:=CM k (c7 κ) (fun v8=>(xu k).jn κ 1000004 [] k (Gf line a phi v8)) line phi a) (by kernel_rfl) (Eq.trans (by simp only [P8];rfl) (aj h))
def Ic {S:Type} (k:Nat):Rw S:=ag kL xn fun line phi a κ=>aa k (tL k line phi a) (c7 κ)
def NS {S:Type} (k:Nat):Fx S:=fp 18 [(41,Ay k)] [] k Tryz.f13 0
theorem SF {S:Type} (o:Obj) (ho:af o) (k:Nat):Tl o 13 (Ic k:Rw S):=ai (NS k) ⟨DN o ho k,trivial⟩ Tryz.func13 (by kernel_rfl) fun line phi a κ x h=>Eq.trans (by kernel_rfl) (aj h)
def Id {S:Type} (k:Nat):Rw S:=ag kL xn fun line phi a κ=>aa k (yG k line phi a) (bp κ)
def NT {S:Type} (k:Nat):Fx S:=fp 15 [(90,AQ k)] [] k Tryz.f46 0
theorem SG {S:Type} (o:Obj) (ho:af o) (k:Nat):Tl o 46 (Id k:Rw S):=ai (NT k) ⟨DZ o ho k,trivial⟩ Tryz.func46 (by kernel_rfl) fun line phi a κ x h=>Eq.trans (by kernel_rfl) (aj h)
def Ie {S:Type} (k:Nat):Rw S:=ag kL xn fun line phi a κ=>aa k (uC k line phi a) (c7 κ)
def xv {S:Type} (k:Nat):Fx S:=fp 31 [(42,AI k),(43,lx k),(44,AR k),(46,Id k)] [(1000004,⟨[(1,.none),(3,.none),(5,.none),(6,.none),(8,.none)],[(3,[.none,.none,.none,.none,.none,.none]),(5,[.none,.none,.none,.none,.none,.none]),(6,[.none,.none,.none,some (200387,true),some (200388,true),some (200389,true)])]⟩,ao 3 7)] k Tryz.f14 0
def Gg (line a:Tm) (phi:List Cl) (v8:Int):St UU:=⟨[(1,(sC phi)),(3,(pt 3)),(5,(pt 5)),(6,(pt 6)),(8,(iI v8))],[(3,bT line),(5,bT a),(6,.cells [(iI 0),(iI 0),(.str ByteArray.empty),(.own 200387 0),(.own 200388 0),(.own 200389 0)])],[(200389,⟨0,ET.B,([]:List (Br Tm))⟩),(200388,⟨0,ET.T,([]:List Tm)⟩),(200387,⟨0,ET.C,([]:List Cl)⟩)],[(200389,.wr),(200388,.wr),(200387,.wr)]⟩
section
variable {S:Type} (k:Nat) (line:Tm) (phi:List Cl) (a:Tm) (κ:Out UU→Option S)
theorem P9: ∀n v8,(xv k).jn κ 1000004 [] n (Gg line a phi v8)=vj k (c7 κ) line a phi n v8:=qv (o9 k (c7 κ) line a phi) rfl (fun _=>rfl) (fun v8=>by kernel_rfl)
end
theorem SH {S:Type} (o:Obj) (ho:af o) (k:Nat):Tl o 14 (Ie k:Rw S):=ai (xv k) ⟨DT o ho k,mw o ho k,D0 o ho k,SG o ho k,trivial⟩ Tryz.func14 (by kernel_rfl) fun line phi a κ x h=>Eq.trans (b:=CK k (c7 κ) (fun v8=>(xv k).jn κ 1000004 [] k (Gg line a phi v8)) line phi a) (by kernel_rfl) (Eq.trans (by simp only [P9];rfl) (aj h))
def vY {S:Type} (hd:dX S):Rw S:=ag UW xn fun a b κ=>hd a b (aq κ)
def Ig {S:Type} (hd:dX S) (k:Nat):Rw S:=ag UX xn fun a b κ=>aa k (pO hd k a b) (aq κ)
def xy {S:Type} (hd:dX S) (k:Nat):Fx S:=fp 27 [(22,vY hd)] [(4,aN [0,1,5] [],ao 5 11)] k Tryz.f61 0
def Gj (a b:List Tm) (i5:Int):St UU:=⟨[(0,(sT a)),(1,(sT b)),(5,(iI i5))],[],[],[]⟩
section
variable {S:Type} (hd:dX S) (k:Nat) (a b:List Tm) (κ:Out UU→Option S)
theorem Qa: ∀n i5,(xy hd k).lp κ 4 [] n (Gj a b i5)=ng hd k (aq κ) a b n i5:=bY (tp hd k (aq κ) a b) rfl (fun _=>rfl) fun r i5=>by kernel_rfl
end
theorem SJ {S:Type} (o:Obj) (ho:af o) (hd:dX S) (Hd:Tl o 22 (vY hd)) (k:Nat):Tl o 61 (Ig hd k:Rw S):=ai (xy hd k) ⟨Hd,trivial⟩ Tryz.func61 (by kernel_rfl) fun a b κ x h=>Eq.trans (b:=CF hd k (aq κ) (fun i5=>(xy hd k).lp κ 4 [] k (Gj a b i5)) a b) (by kernel_rfl) (Eq.trans (by simp only [Qa];rfl) (aj h))
def xw {S:Type} (hd:dX S) (k:Nat):Fx S:=fp 87 [(24,vR k),(61,Ig hd k)] [(4,aN [2,3,5] [(2,6),(3,6)],ao 5 11)] k Tryz.f22 0
def Gi (a b:Tm) (i5:Int):St UU:=⟨[(2,(pt 2)),(3,(pt 3)),(5,(iI i5))],[(2,bT a),(3,bT b)],[],[]⟩
section
variable {S:Type} (hd:dX S) (k:Nat) (a b:Tm) (κ:Out UU→Option S)
theorem P_: ∀n i5,(xw hd k).lp κ 4 [] n (Gi a b i5)=k_ hd k (aq κ) a b n i5:=bY (tl hd k (aq κ) a b) rfl (fun _=>rfl) fun r i5=>by kernel_rfl
end
theorem EF {S:Type} (o:Obj) (ho:af o): ∀k:Nat,Tl o 22 (vY (eb k:dX S))
 |0=>eX fun a b κ x h=>by cases h
 |k+1=>ai (xw (eb k) k) ⟨yT o ho k,SJ o ho (eb k) (EF o ho k) k,trivial⟩ Tryz.func22 (by kernel_rfl) fun a b κ x h=>Eq.trans (b:=CD (eb k) k (aq κ) (fun i5=>(xw (eb k) k).lp κ 4 [] k (Gi a b i5)) a b) (by kernel_rfl) (Eq.trans (by simp only [P_];rfl) h)
def Ih {S:Type} (k:Nat):Rw S:=ag UY xn fun a a_e b a_bad κ=>aa k (pD k a a_e b a_bad) (aq κ)
def NU {S:Type} (k:Nat):Fx S:=fp 17 [(22,vY (eb k))] [] k Tryz.f15 0
theorem SK {S:Type} (o:Obj) (ho:af o) (k:Nat):Tl o 15 (Ih k:Rw S):=ai (NU k) ⟨EF o ho k,trivial⟩ Tryz.func15 (by kernel_rfl) fun a a_e b a_bad κ x h=>Eq.trans (by kernel_rfl) (aj h)
def Ii {S:Type} (k:Nat):Rw S:=ag kL xn fun line phi t κ=>aa k (yC k line phi t) (aq κ)
def NV {S:Type} (k:Nat):Fx S:=fp 67 [(9,Hl k),(10,HA k),(11,Az k),(12,Ib k),(13,Ic k),(14,Ie k),(15,Ih k)] [] k Tryz.f3 0
theorem SL {S:Type} (o:Obj) (ho:af o) (k:Nat):Tl o 3 (Ii k:Rw S):=ai (NV k) ⟨RN o ho k,R2 o ho k,DO o ho k,SE o ho k,SF o ho k,SH o ho k,SK o ho k,trivial⟩ Tryz.func3 (by kernel_rfl) fun line phi t κ x h=>Eq.trans (by kernel_rfl) (aj h)
theorem aaC {S:Type} (o:Obj) (ho:af o) (k:Nat):Tl o 3 (Ii k:Rw S):=SL o ho k
end
end Go.Proofs.YtapmagaejigpnaaGreatDoor
namespace Go.Proofs.YtapmagaejigpnaaGreatDoor
open Go PI
set_option linter.unusedVariables false
set_option linter.unusedSimpArgs false
variable {S:Type} {k:Nat}
def bE {α β:Type} (x:Except Int α) (f:α→Except Int β):Except Int β:=match x with
 | .error e=> .error e
 | .ok a=>f a
theorem aw {α β:Type} (a:α) (f:α→Except Int β):bE (.ok a) f=f a:=rfl
theorem xW {α β:Type} (e:Int) (f:α→Except Int β):bE (.error e) f= .error e:=rfl
theorem bj {α β:Type} {x:Except Int α} {f:α→Except Int β} {b:β} (h:bE x f= .ok b): ∃a,x= .ok a∧f a= .ok b:=by
 cases x with
 |error e=>cases h
 |ok a=>exact ⟨a,rfl,h⟩
theorem bv {α β:Type} {x:Except Int α} {f:α→Except Int β} {e:Int} (h:bE x f= .error e):x= .error e∨ ∃a,x= .ok a∧f a= .error e:=by
 cases x with
 |error e=>injection h with h;subst h;exact .inl rfl
 |ok a=>exact .inr ⟨a,rfl,h⟩
def ce (x:List Cl×Int):Except Int (List Cl):=if x.2=0 then .ok x.1 else .error x.2
theorem eY {x:List Cl×Int} (h:x.2=0):ce x= .ok x.1:=if_pos h
theorem d8 {x:List Cl×Int} (h:x.2≠0):ce x= .error x.2:=if_neg h
theorem lK {x:List Cl×Int} {l:List Cl} (h:ce x= .ok l):x.2=0∧x.1=l:=by
 unfold ce at h
 split at h
 ·next h0=>injection h with h;exact ⟨h0,h⟩
 ·cases h
theorem rW {x:List Cl×Int} {e:Int} (h:ce x= .error e):x.2≠0∧x.2=e:=by
 unfold ce at h
 split at h
 ·cases h
 ·next h0=>injection h with h;exact ⟨h0,h⟩
def EN (e:Int):Prop:=0≤e∧e≤1000
theorem kG:EN 0:=by unfold EN;omega
theorem h_:EN 2:=by unfold EN;omega
theorem TJ:EN 3:=by unfold EN;omega
theorem Ek:EN 10:=by unfold EN;omega
theorem nu (l:List Cl):EN (aX l).2:=by
 unfold aX
 split
 ·split
  ·exact TJ
  ·exact kG
 ·exact h_
theorem u5 {step:List Cl→Cl→List Cl×Int} (hs: ∀h c,EN (step h c).2): ∀ {r h:List Cl},EN (aM step h r).2:=by
 intro r
 induction r with
 |nil=>intro h;exact kG
 |cons c r ih=>
  intro h
  unfold aM
  split
  ·exact ih
  ·exact hs h c
theorem Fo (s i b:Int):EN (bV s i b).2:=by
 unfold bV
 split
 ·exact h_
 ·unfold dz
  split
  ·exact kG
  ·split
   ·exact Ek
   ·split
    ·exact Ek
    ·exact kG
theorem Wz (c:Cl) (i b:Int):EN (cq c i b).2:=by
 unfold cq
 split
 ·split
  ·split
   ·exact kG
   ·exact Fo _ _ _
  ·exact Fo _ _ _
 ·exact h_
theorem nA (f:List Cl) (i b:Int):EN (aZ f i b).2:=by
 unfold aZ
 split
 ·split
  ·exact nu _
  ·exact u5 fun h c=>Wz c i b
 ·exact h_
theorem Mr {n b x y:Nat} (h:cv n b x=cv n b y):x=y:=by
 unfold cv at h;split at h<;>split at h<;>omega
theorem aaM (n b:Nat) {l:List Nat} (h:l.Nodup):(l.map (cv n b)).Nodup:=
 List.Pairwise.map (S:=fun a b=>a≠b) (R:=fun a b=>a≠b) _ (fun x y hxy h=>hxy (Mr h)) h
theorem WH {m n b:Nat} (h:(dz m n b).2=0) (j:Nat):(dz m n b).1.testBit j=true↔ ∃x,x<24∧m.testBit x=true∧cv n b x=j:=by
 rw [zJ] at h ⊢
 split
 ·next he=>rw [if_pos he] at h;cases h
 ·rw [lH _ (aaM n b (lR m)),decide_eq_true_eq,List.mem_map]
  constructor
  ·rintro ⟨x,hx,e⟩;have:=mem_bitsN.1 hx;exact ⟨x,this.1,this.2,e⟩
  ·rintro ⟨x,h1,h2,e⟩;exact ⟨x,mem_bitsN.2 ⟨h1,h2⟩,e⟩
theorem Q3 {m:Nat} (h:m<16777216):m&&&M24=m:=by
 apply Nat.eq_of_testBit_eq
 intro j
 rw [Nat.testBit_and,e9]
 cases hb:m.testBit j with
 |false=>rfl
 |true=>rw [decide_eq_true (lS h hb)];rfl
theorem WF {m n b:Nat} (hm:m<16777216) (h:b=0∨24≤n):dz m n b=(m,0):=by
 rw [zJ,if_neg]
 ·have:(bz m).map (cv n b)=bz m:=by
   refine (List.map_congr_left fun x hx=> ?_).trans (List.map_id _)
   have:=(mem_bitsN.1 hx).1
   show cv n b x=x
   unfold cv;split<;>omega
  rw [this,BB,Q3 hm]
 ·rintro ⟨x,hx,h1,h2⟩
  have:=(mem_bitsN.1 hx).1
  omega
theorem WA {c:Cl} {i b:Int} (hc:RC c) (hi:0≤i) (hb:0≤b) (h:b=0∨24≤i):cq c i b=(c,0):=by
 have h1:c.pos.toNat<16777216:=by have:=hc.1;omega
 have h2:c.neg.toNat<16777216:=by have:=hc.2;omega
 have hs: ∀s:Int,0≤s→s.toNat<16777216→bV s i b=(s,0):=fun s h0 hs=>by
  unfold bV
  rw [if_neg (by omega),WF hs (by omega)]
  have:((s.toNat:Nat):Int)=s:=by omega
  rw [this];rfl
 unfold cq
 rw [if_pos ((wj hc.ok).2 hc),hs _ hc.1.1 h1,hs _ hc.2.1 h2];rfl
theorem TU {i b:Int}: ∀ {r h:List Cl},(aM (ci i b) h r).2=0→(∀c∈r,(cq c i b).2=0)∧(aM (ci i b) h r).1=h++r.map fun c=>(cq c i b).1:=by
 intro r
 induction r with
 |nil=>intro h _;exact ⟨fun c hc=>(by cases hc),by simp [aM]⟩
 |cons c r ih=>
  intro h h0
  unfold aM at h0 ⊢
  split at h0
  ·next h1=>
   have:=ih h0
   rw [if_pos h1]
   refine ⟨fun d hd=> ?_, ?_⟩
   ·rcases List.mem_cons.1 hd with rfl|hd
    ·exact h1
    ·exact this.1 d hd
   ·rw [this.2];simp [ci]
  ·next h1=>exact absurd h0 h1
theorem TV {i b:Int}: ∀ {r h:List Cl},(∀c∈r,cq c i b=(c,0))→aM (ci i b) h r=(h++r,0):=by
 intro r
 induction r with
 |nil=>intro h _;simp [aM]
 |cons c r ih=>
  intro h hr
  have hc:=hr c (by simp)
  unfold aM
  rw [if_pos (by show (cq c i b).2=0;rw [hc]),ih fun d hd=>hr d (by simp [hd])]
  simp [ci,hc]
theorem WB {f:List Cl} {i b:Int} (hf:RF f) (hi:0≤i) (hb:0≤b) (h:b=0∨24≤i):aZ f i b=(f,0):=by
 unfold aZ
 rw [if_pos hf.right,TV fun c hc=>WA (hf.rc hc) hi hb h,if_pos rfl]
 exact hf.1
theorem WC {f:List Cl} {i b:Int} (h:(aZ f i b).2=0): ∀c∈(aZ f i b).1,∃d∈f,(cq d i b).2=0∧c=(cq d i b).1:=by
 unfold aZ at h ⊢
 split
 ·next hr=>
  rw [if_pos hr] at h
  split
  ·next h0=>
   rw [if_pos h0] at h
   obtain ⟨ha,hb⟩:=TU h0
   intro c hc
   have h':aX (aM (ci i b) [] f).1=((aX (aM (ci i b) [] f).1).1,0):=Prod.ext rfl h
   rw [(nw h').1] at hc
   have:=(mem_mins.1 hc).1
   rw [hb,List.nil_append,List.mem_map] at this
   obtain ⟨d,hd,rfl⟩:=this
   exact ⟨d,hd,ha d hd,rfl⟩
  ·next h0=>rw [if_neg h0] at h;exact absurd h h0
 ·next hr=>rw [if_neg hr] at h;exact absurd h (by decide)
theorem Ro {c:Cl}:bn c=false↔ ∀j,¬ (c.pos.toNat.testBit j=true∧c.neg.toNat.testBit j=true):=by
 unfold bn
 rw [Bool.not_eq_false',decide_eq_true_eq]
 constructor
 ·intro h j ⟨h1,h2⟩
  have:(c.pos.toNat&&&c.neg.toNat).testBit j=true:=by rw [Nat.testBit_and,h1,h2];rfl
  rw [h,Nat.zero_testBit] at this;cases this
 ·intro h
  apply Nat.eq_of_testBit_eq
  intro j
  rw [Nat.zero_testBit,Nat.testBit_and]
  cases h1:c.pos.toNat.testBit j with
  |false=>rfl
  |true=>
   cases h2:c.neg.toNat.testBit j with
   |false=>rfl
   |true=>exact absurd ⟨h1,h2⟩ (h j)
theorem Fl {s i b:Int} (h:(bV s i b).2=0) {j:Nat} (hj:(bV s i b).1.toNat.testBit j=true): ∃x,s.toNat.testBit x=true∧cv i.toNat b.toNat x=j:=by
 unfold bV at h hj
 split at h
 ·cases h
 ·next hn=>
  rw [if_neg hn] at hj
  have h':(dz s.toNat i.toNat b.toNat).2=0:=by
   have:((dz s.toNat i.toNat b.toNat).2:Int)=0:=h
   omega
  obtain ⟨x,_,h2,h3⟩:=(WH h' j).1 hj
  exact ⟨x,h2,h3⟩
theorem Wy {c:Cl} {i b:Int} (h:(cq c i b).2=0) (hc:bn c=false):bn (cq c i b).1=false:=by
 rw [Ro] at hc ⊢
 unfold cq at h ⊢
 split at h
 ·next hr=>
  split at h
  ·next h1=>
   split at h
   ·next h2=>
    rw [if_pos hr,if_pos h1,if_pos h2]
    rintro j ⟨ha,hb⟩
    obtain ⟨x,hx,ex⟩:=Fl h1 ha
    obtain ⟨y,hy,ey⟩:=Fl h2 hb
    have:=Mr (ex.trans ey.symm)
    subst this
    exact hc x ⟨hx,hy⟩
   ·next h2=>exact absurd h h2
  ·next h1=>exact absurd h h1
 ·cases h
def cm (d b:Int) (f:List Cl):Except Int (List Cl):=if b=0∨d≥24 then .ok f else ce (aZ f d b)
theorem Bb {d b:Int} {f g:List Cl} (hf:RF f) (h:cm d b f= .ok g):RF g:=by
 unfold cm at h
 split at h
 ·injection h with h;subst h;exact hf
 ·obtain ⟨h1,rfl⟩:=lK h;exact fX h1
theorem wk {d b:Int} {f:List Cl} {e:Int} (h:cm d b f= .error e):0<e∧e≤1000:=by
 unfold cm at h
 split at h
 ·cases h
 ·obtain ⟨h1,rfl⟩:=rW h
  have:=nA f d b
  unfold EN at this;omega
theorem Yx {d b:Int} {f g:List Cl} (hf:f.all (fun c=> !bn c)=true) (h:cm d b f= .ok g):g.all (fun c=> !bn c)=true:=by
 unfold cm at h
 split at h
 ·injection h with h;subst h;exact hf
 ·obtain ⟨h1,rfl⟩:=lK h
  rw [List.all_eq_true] at hf ⊢
  intro c hc
  obtain ⟨e,he,h2,rfl⟩:=WC h1 c hc
  have:=hf e he
  rw [Bool.not_eq_true'] at this ⊢
  exact Wy h2 this
theorem wl (d b:Int):cm d b []= .ok []:=by
 unfold cm
 split
 ·rfl
 ·rfl
mutual
def bo (vb db v d:Int):Tm→Except Int Tm
 | .mk kd n nm r ks sys=>
  if kd=1∧n≥v∧n>1000000000-vb then .error 100
  else bE (cm d db r) fun r'=>bE (dR vb db v d kd 0 ks) fun ks'=>bE (dA vb db v d kd sys) fun sys'=> .ok (.mk kd (if kd=1∧n≥v then n+vb else n) nm r' ks' sys')
def dR (vb db v d kd:Int) (i:Nat):List Tm→Except Int (List Tm)
 |[]=> .ok []
 |t::l=>bE (bo vb db (v+dw kd i) (d+bM kd i) t) fun t'=>bE (dR vb db v d kd (i+1) l) fun l'=> .ok (t'::l')
def dA (vb db v d kd:Int):List (Br Tm)→Except Int (List (Br Tm))
 |[]=> .ok []
 |b::l=>bE (lf vb db v d kd b) fun b'=>bE (dA vb db v d kd l) fun l'=> .ok (b'::l')
def lf (vb db v d kd:Int):Br Tm→Except Int (Br Tm)
 | .mk f ks=>bE (cm d db f) fun f'=>bE (dv vb db v d kd ks) fun ks'=> .ok (.mk f' ks')
def dv (vb db v d kd:Int):List Tm→Except Int (List Tm)
 |[]=> .ok []
 |t::l=>bE (bo vb db v (d+ar kd) t) fun t'=>bE (dv vb db v d kd l) fun l'=> .ok (t'::l')
end
mutual
def RowsT:Tm→Prop
 | .mk kd n nm r ks sys=>(RF r∧(kd=1→r=[])∧0≤kd)∧cS ks∧dD sys
def cS:List Tm→Prop
 |[]=>True
 |t::l=>RowsT t∧cS l
def dD:List (Br Tm)→Prop
 |[]=>True
 |b::l=>km b∧dD l
def km:Br Tm→Prop
 | .mk f ks=>RF f∧cS ks
end
theorem rowsK_iff: ∀ {l:List Tm},cS l↔ ∀t∈l,RowsT t:=by
 intro l
 induction l with
 |nil=>rw [cS];simp
 |cons t l ih=>rw [cS,ih];simp
theorem Bd {b:Br Tm}:km b↔RF b.face∧ ∀t∈b.kids,RowsT t:=by cases b;rw [km,rowsK_iff]
theorem rowsS_iff: ∀ {l:List (Br Tm)},dD l↔ ∀b∈l,RF b.face∧ ∀t∈b.kids,RowsT t:=by
 intro l
 induction l with
 |nil=>rw [dD];simp
 |cons t l ih=>rw [dD,ih,Bd];simp
end Go.Proofs.YtapmagaejigpnaaGreatDoor
namespace Go.Proofs.YtapmagaejigpnaaGreatDoor
open Go PI
set_option linter.unusedVariables false
set_option linter.unusedSimpArgs false
variable {S:Type} {k:Nat}
inductive F2 {α β:Type} (R:α→β→Prop):List α→List β→Prop
 |nil:F2 R [] []
 |cons {a:α} {b:β} {l:List α} {m:List β}:R a b→F2 R l m→F2 R (a::l) (b::m)
theorem F2.len {α β:Type} {R:α→β→Prop} {l:List α} {m:List β} (h:F2 R l m):m.length=l.length:=by
 induction h with
 |nil=>rfl
 |cons _ _ ih=>simp [ih]
theorem F2.imp {α β:Type} {R Q:α→β→Prop} {l:List α} {m:List β} (h:F2 R l m) (hq: ∀a b,R a b→Q a b):F2 Q l m:=by
 induction h with
 |nil=>exact .nil
 |cons h1 _ ih=>exact .cons (hq _ _ h1) ih
theorem WD {vb db v d kd:Int} {R:Tm→Tm→Prop}: ∀ {l:List Tm} {i:Nat} {l':List Tm},(∀x∈l,∀v d x',bo vb db v d x= .ok x'→R x x')→dR vb db v d kd i l= .ok l'→F2 R l l':=by
 intro l
 induction l with
 |nil=>intro i l' _ h;rw [dR] at h;injection h with h;subst h;exact .nil
 |cons t l ih=>
  intro i l' hr h
  rw [dR] at h
  obtain ⟨t',h1,h⟩:=bj h
  obtain ⟨m,h2,h⟩:=bj h
  injection h with h;subst h
  exact .cons (hr t (by simp) _ _ _ h1) (ih (fun x hx=>hr x (by simp [hx])) h2)
theorem WE {vb db v d kd:Int} {R:Tm→Tm→Prop}: ∀ {l:List Tm} {l':List Tm},(∀x∈l,∀v d x',bo vb db v d x= .ok x'→R x x')→dv vb db v d kd l= .ok l'→F2 R l l':=by
 intro l
 induction l with
 |nil=>intro l' _ h;rw [dv] at h;injection h with h;subst h;exact .nil
 |cons t l ih=>
  intro l' hr h
  rw [dv] at h
  obtain ⟨t',h1,h⟩:=bj h
  obtain ⟨m,h2,h⟩:=bj h
  injection h with h;subst h
  exact .cons (hr t (by simp) _ _ _ h1) (ih (fun x hx=>hr x (by simp [hx])) h2)
theorem WI {vb db v d kd:Int} {R:Tm→Tm→Prop}: ∀ {l l':List (Br Tm)},(∀b∈l,∀x∈b.kids,∀v d x',bo vb db v d x= .ok x'→R x x')→dA vb db v d kd l= .ok l'→
  F2 (fun b b'=>cm d db b.face= .ok b'.face∧F2 R b.kids b'.kids) l l':=by
 intro l
 induction l with
 |nil=>intro l' _ h;rw [dA] at h;injection h with h;subst h;exact .nil
 |cons b l ih=>
  intro l' hr h
  rw [dA] at h
  obtain ⟨b',h1,h⟩:=bj h
  obtain ⟨m,h2,h⟩:=bj h
  injection h with h;subst h
  cases b with
  |mk f ks=>
   rw [lf] at h1
   obtain ⟨f',h3,h1⟩:=bj h1
   obtain ⟨ks',h4,h1⟩:=bj h1
   injection h1 with h1;subst h1
   exact .cons ⟨h3,WE (hr ⟨f,ks⟩ (by simp)) h4⟩ (ih (fun b hb=>hr b (by simp [hb])) h2)
theorem zM {f:List Cl} {d:Int} (h:24≤d):cj f d=true:=by
 unfold cj
 rw [decide_eq_true_eq]
 intro i hi
 have:=(mem_bitsN.1 hi).1
 omega
def Up (x x':Tm):Prop:=av x'=av x∧aF x'=aF x∧x'.kind=x.kind∧(OkT x→OkT x'∧(RowsT x→RowsT x')∧ ∀dd dd',24≤dd→24≤dd'→bH false (-1) dd x=true→bH false (-1) dd' x'=true)
theorem Mt {l l':List Tm} (h:F2 Up l l'):bk l'=bk l:=by
 induction h with
 |nil=>rfl
 |cons h1 _ ih=>rw [bk,bk,h1.1,ih]
theorem Mw {l l':List Tm} (h:F2 Up l l'):aR l'=aR l:=by
 induction h with
 |nil=>rfl
 |cons h1 _ ih=>rw [aR,aR,h1.2.1,ih]
theorem aaV {l l':List (Br Tm)} (h:F2 (fun b b':Br Tm=>F2 Up b.kids b'.kids) l l'):bK l'=bK l:=by
 induction h with
 |nil=>rfl
 |cons h1 _ ih=>rw [bK,bK,mq,mq,Mt h1,ih]
theorem aaW {l l':List (Br Tm)} (h:F2 (fun b b':Br Tm=>F2 Up b.kids b'.kids) l l'):a8 l'=a8 l:=by
 induction h with
 |nil=>rfl
 |cons h1 _ ih=>rw [a8,a8,nY,nY,Mw h1,ih]
theorem Mu {l l':List Tm} (h:F2 Up l l'):b_ l→b_ l':=by
 induction h with
 |nil=>exact id
 |cons h1 _ ih=>rw [b_,b_];exact fun h=>⟨(h1.2.2.2 h.1).1,ih h.2⟩
theorem Mv {l l':List Tm} (h:F2 Up l l'):b_ l→cS l→cS l':=by
 induction h with
 |nil=>exact fun _ h=>h
 |cons h1 _ ih=>rw [b_,cS,cS];exact fun h g=>⟨(h1.2.2.2 h.1).2.1 g.1,ih h.2 g.2⟩
theorem aaX (v:Int):dn (-1) v= -1:=by unfold dn;rw [if_pos (by decide)]
theorem aaT {kd dd dd':Int} (h1:24≤dd) (h2:24≤dd') {l l':List Tm} (h:F2 Up l l'): ∀ {i:Nat},b_ l→c_ false (-1) dd kd i l=true→c_ false (-1) dd' kd i l'=true:=by
 induction h with
 |nil=>exact fun _ h=>h
 |cons h3 _ ih=>
  intro i
  rw [b_,c_,c_,Bool.and_eq_true,Bool.and_eq_true,aaX]
  have:=i_ kd i
  exact fun h g=>⟨(h3.2.2.2 h.1).2.2 _ _ (by omega) (by omega) g.1,ih h.2 g.2⟩
theorem aaU {kd dd dd':Int} (h1:24≤dd) (h2:24≤dd') {l l':List Tm} (h:F2 Up l l'):b_ l→da false (-1) dd kd l=true→da false (-1) dd' kd l'=true:=by
 induction h with
 |nil=>exact fun _ h=>h
 |cons h3 _ ih=>
  rw [b_,da,da,Bool.and_eq_true,Bool.and_eq_true]
  have:=d4 kd
  exact fun h g=>⟨(h3.2.2.2 h.1).2.2 _ _ (by omega) (by omega) g.1,ih h.2 g.2⟩
def lO (d db:Int) (b b':Br Tm):Prop:=cm d db b.face= .ok b'.face∧F2 Up b.kids b'.kids
theorem Jl {d db:Int} {f g:List Cl} (h:cm d db f= .ok g) (hf:am f) (hl:f.length<1073741824):am g∧g.length<1073741824:=by
 unfold cm at h
 split at h
 ·injection h with h;subst h;exact ⟨hf,hl⟩
 ·obtain ⟨h1,rfl⟩:=lK h
  have:=fX h1
  exact ⟨this.2,by have:=this.len;omega⟩
theorem Jm {d db:Int} {f g:List Cl} (h:cm d db f= .ok g) (hf:am f) (hr:a6 f=true):a6 g=true:=(Bb ((eU hf).1 hr) h).right
theorem Jk {d db:Int} {f g:List Cl} (h:cm d db f= .ok g) (hf:am f) (hr:be f=true):be g=true:=by
 unfold be at hr ⊢
 rw [Bool.and_eq_true] at hr ⊢
 exact ⟨Jm h hf hr.1,Yx hr.2 h⟩
theorem Ba {d db:Int} {f g:List Cl} (h:cm d db f= .ok g) (hf:f.length=0):g.length=0:=by
 have:=List.length_eq_zero_iff.1 hf
 subst this
 rw [wl] at h;injection h with h;subst h;rfl
theorem aaQ {d db:Int} {l l':List (Br Tm)} (h:F2 (lO d db) l l'):bW l→bW l':=by
 induction h with
 |nil=>exact id
 |cons h1 _ ih=>
  rw [bW,bW,ln,ln]
  intro h
  have h3:=Jl h1.1 h.1.1.1 h.1.1.2.1
  exact ⟨⟨⟨h3.1,h3.2,by have:=h1.2.len;have:=h.1.1.2.2;omega⟩,okK_iff.1 (Mu h1.2 (okK_iff.2 h.1.2))⟩,ih h.2⟩
theorem aaS {d db:Int} {l l':List (Br Tm)} (h:F2 (lO d db) l l'):bW l→dD l→dD l':=by
 induction h with
 |nil=>exact fun _ h=>h
 |cons h1 _ ih=>
  rw [bW,ln,dD,dD,Bd,Bd]
  intro h g
  exact ⟨⟨Bb g.1.1 h1.1,rowsK_iff.1 (Mv h1.2 (okK_iff.2 h.1.2) (rowsK_iff.2 g.1.2))⟩,ih h.2 g.2⟩
theorem aaP {d db kd dd dd':Int} (h1:24≤dd) (h2:24≤dd') {l l':List (Br Tm)} (h:F2 (lO d db) l l'):bW l→cV false (-1) dd kd l=true→cV false (-1) dd' kd l'=true:=by
 induction h with
 |nil=>exact fun _ h=>h
 | @cons a b _ _ h3 _ ih=>
  rw [bW,ln,cV,cV,Bool.and_eq_true,Bool.and_eq_true]
  intro h g
  refine ⟨?_,ih h.2 g.2⟩
  cases a;cases b
  have g1:=g.1
  rw [ou] at g1 ⊢
  exact aaU h1 h2 h3.2 (okK_iff.2 h.1.2) g1
theorem aaR {d db kd dd dd':Int} (h1:24≤dd) (h2:24≤dd') {l l':List (Br Tm)} (h:F2 (lO d db) l l'):bW l→l.all (de kd dd)=true→l'.all (de kd dd')=true:=by
 induction h with
 |nil=>exact fun _ h=>h
 | @cons a b _ _ h3 _ ih=>
  rw [bW,ln,List.all_cons,List.all_cons,Bool.and_eq_true,Bool.and_eq_true]
  intro h g
  refine ⟨?_,ih h.2 g.2⟩
  have g1:=g.1
  unfold de at g1 ⊢
  rw [Bool.and_eq_true,Bool.and_eq_true,decide_eq_true_eq] at g1 ⊢
  rw [h3.2.len]
  exact ⟨g1.1,Jk h3.1 h.1.1.1 g1.2.1,zM h2⟩
theorem Ms {d db:Int} {l l':List (Br Tm)} (h:F2 (lO d db) l l'):F2 (fun b b':Br Tm=>F2 Up b.kids b'.kids) l l':=h.imp fun _ _ h=>h.2
theorem WJ {vb db:Int} (hvb:0≤vb) (hvb':vb≤1000000000) (t:Tm): ∀v d t',bo vb db v d t= .ok t'→Up t t':=by
 induction t using j6 with
 |h kd n nm r ks sys ih1 ih2=>
  intro v d t' h
  rw [bo] at h
  split at h
  ·cases h
  next hv=>
  obtain ⟨r',hr,h⟩:=bj h
  obtain ⟨ks',hk,h⟩:=bj h
  obtain ⟨sys',hs,h⟩:=bj h
  injection h with h;subst h
  have fk:F2 Up ks ks':=WD (fun x hx v d x'=>ih1 x hx v d x') hk
  have fs:F2 (lO d db) sys sys':=WI (fun b hb x hx v d x'=>ih2 b hb x hx v d x') hs
  refine ⟨?_, ?_,rfl,fun hok=> ?_⟩
  ·rw [av,av,Mt fk,aaV (Ms fs)]
  ·rw [aF,aF,Mw fk,aaW (Ms fs)]
  ·obtain ⟨o1,o2,o3,o4,o5,o6,o7⟩:=hok.node
   have hok':=hok
   rw [OkT] at hok'
   obtain ⟨_,ok,os⟩:=hok'
   have hr':=Jl hr o4 o5
   have o2':=o2
   unfold aD at o2'
   refine ⟨?_, ?_, ?_⟩
   ·rw [OkT]
    refine ⟨⟨o1, ?_,o3,hr'.1,hr'.2,by rw [fk.len];exact o6,by rw [fs.len];exact o7⟩,Mu fk ok,aaQ fs os⟩
    unfold aD
    split
    ·next hc=>constructor<;>omega
    ·exact o2
   ·rw [RowsT,RowsT]
    rintro ⟨⟨a,b,z⟩,c,e⟩
    refine ⟨⟨Bb a hr,fun h1=> ?_,z⟩,Mv fk ok c,aaS fs os e⟩
    have:=b h1
    subst this
    rw [wl] at hr;injection hr with hr;exact hr.symm
   ·intro dd dd' h1 h2
    rw [bH,bH]
    simp only [Bool.false_and,Bool.not_false,Bool.true_and,Bool.and_eq_true]
    rintro ⟨a,b,c⟩
    refine ⟨?_,aaT h1 h2 fk ok b,aaP h1 h2 fs os c⟩
    unfold iG at a ⊢
    simp only [Bool.and_eq_true,decide_eq_true_eq,fk.len,fs.len] at a ⊢
    obtain ⟨⟨a1,a2,a3,a4⟩,a5⟩:=a
    refine ⟨⟨a1, ?_,a3,a4⟩, ?_⟩
    ·rcases a2 with a2|a2
     ·exact .inl a2
     ·by_cases h1:kd=1
      ·exact .inl h1
      ·right;rw [if_neg (fun h=>h1 h.1)];exact a2
    ·by_cases c1:kd=1
     ·rw [if_pos c1] at a5 ⊢
      simp only [Bool.and_eq_true,decide_eq_true_eq] at a5 ⊢
      refine ⟨Ba hr a5.1, ?_,.inl (by decide)⟩
      have:=a5.2.1
      split<;>omega
     ·rw [if_neg c1] at a5 ⊢
      by_cases c2:kd=2
      ·rw [if_pos c2] at a5 ⊢
       simp only [Bool.and_eq_true,decide_eq_true_eq] at a5 ⊢
       exact ⟨Ba hr a5.1,a5.2⟩
      ·rw [if_neg c2] at a5 ⊢
       by_cases c3:kd=13∨kd=21∨kd=26
       ·rw [if_pos c3] at a5 ⊢
        rw [Bool.and_eq_true] at a5 ⊢
        exact ⟨Jm hr o4 a5.1,zM h2⟩
       ·rw [if_neg c3] at a5 ⊢
        by_cases c4:kd=14
        ·rw [if_pos c4] at a5 ⊢
         rw [Bool.and_eq_true] at a5 ⊢
         exact ⟨Jk hr o4 a5.1,zM h2⟩
        ·rw [if_neg c4] at a5 ⊢
         simp only [Bool.and_eq_true,decide_eq_true_eq] at a5 ⊢
         exact ⟨aaR h1 h2 fs os a5.1,Ba hr a5.2⟩
theorem U1 {kd:Int} {n:Nat} (h:dQ kd=n):0≤kd:=by
 apply Classical.byContradiction
 intro h0
 unfold dQ at h
 rw [if_pos (.inl (by omega))] at h
 omega
theorem Q2 {bd:Bool} (t:Tm): ∀ {vars dims:Int},OkT t→bH bd vars dims t=true→RowsT t:=by
 induction t using j6 with
 |h kd n nm r ks sys ih1 ih2=>
  intro vars dims hok h
  rw [bH,Bool.and_eq_true,Bool.and_eq_true,Bool.and_eq_true] at h
  obtain ⟨_,a,b,c⟩:=h
  obtain ⟨o1,o2,o3,o4,o5,o6,o7⟩:=hok.node
  have hok':=hok
  rw [OkT] at hok'
  obtain ⟨_,ok,os⟩:=hok'
  have hkids: ∀ {l:List Tm} {i:Nat},(∀x∈l,∀ {vars dims:Int},OkT x→bH bd vars dims x=true→RowsT x)→b_ l→c_ bd vars dims kd i l=true→cS l:=by
   intro l
   induction l with
   |nil=>intro i _ _ _;rw [cS];trivial
   |cons t l ih=>
    intro i hl ho ha
    rw [c_,Bool.and_eq_true] at ha
    rw [b_] at ho
    rw [cS]
    exact ⟨hl t (by simp) ho.1 ha.1,ih (fun x hx=>hl x (by simp [hx])) ho.2 ha.2⟩
  rw [QZ,List.all_eq_true] at c
  unfold iG at a
  simp only [Bool.and_eq_true,decide_eq_true_eq] at a
  obtain ⟨⟨a1,a2,a3,a4⟩,a5⟩:=a
  have r0: ∀ {l:List Cl},l.length=0→RF l:=fun h=>by
   have:=List.length_eq_zero_iff.1 h;subst this;exact rD
  rw [RowsT]
  have hfaces:(sys=[]∨sys.all (de kd dims)=true)∧RF r∧(kd=1→r=[]):=by
   have nosys:bU kd=0→sys=[]:=fun h=>List.length_eq_zero_iff.1 (a4 h)
   by_cases c1:kd=1
   ·rw [if_pos c1] at a5
    simp only [Bool.and_eq_true,decide_eq_true_eq] at a5
    exact ⟨.inl (nosys (by subst c1;decide)),r0 a5.1,fun _=>List.length_eq_zero_iff.1 a5.1⟩
   ·rw [if_neg c1] at a5
    by_cases c2:kd=2
    ·rw [if_pos c2] at a5
     simp only [Bool.and_eq_true,decide_eq_true_eq] at a5
     exact ⟨.inl (nosys (by subst c2;decide)),r0 a5.1,fun h=>absurd h c1⟩
    ·rw [if_neg c2] at a5
     by_cases c3:kd=13∨kd=21∨kd=26
     ·rw [if_pos c3,Bool.and_eq_true] at a5
      exact ⟨.inl (nosys (by rcases c3 with rfl|rfl|rfl<;>decide)),(eU o4).1 a5.1,fun h=>absurd h c1⟩
     ·rw [if_neg c3] at a5
      by_cases c4:kd=14
      ·rw [if_pos c4,Bool.and_eq_true] at a5
       unfold be at a5
       rw [Bool.and_eq_true] at a5
       exact ⟨.inl (nosys (by subst c4;decide)),(eU o4).1 a5.1.1,fun h=>absurd h c1⟩
      ·rw [if_neg c4] at a5
       simp only [Bool.and_eq_true,decide_eq_true_eq] at a5
       exact ⟨.inr a5.1,r0 a5.2,fun h=>absurd h c1⟩
  refine ⟨⟨hfaces.2.1,hfaces.2.2,U1 a1⟩,hkids (fun x hx=>ih1 x hx) ok b, ?_⟩
  rw [rowsS_iff]
  intro br hbr
  have hc:=c br hbr
  rw [List.all_eq_true] at hc
  have hob:=hok.br hbr
  refine ⟨?_,fun x hx=>ih2 br hbr x hx (hob.2 x hx) (hc x hx)⟩
  rcases hfaces.1 with h|h
  ·subst h;cases hbr
  ·have:=List.all_eq_true.1 h br hbr
   unfold de be at this
   simp only [Bool.and_eq_true] at this
   exact (eU hob.1.1).1 this.2.1.1
theorem iz {vb db:Int} (t:Tm): ∀ {v d e},bo vb db v d t= .error e→0<e∧e≤1000:=by
 induction t using j6 with
 |h kd n nm r ks sys ih1 ih2=>
  intro v d e h
  rw [bo] at h
  split at h
  ·injection h with h;omega
  rcases bv h with h|⟨_,_,h⟩
  ·exact wk h
  have hkids: ∀ {l:List Tm} {i:Nat},(∀x∈l,∀ {v d e},bo vb db v d x= .error e→0<e∧e≤1000)→dR vb db v d kd i l= .error e→0<e∧e≤1000:=by
   intro l
   induction l with
   |nil=>intro i _ h;rw [dR] at h;cases h
   |cons t l ih=>
    intro i hl h
    rw [dR] at h
    rcases bv h with h|⟨_,_,h⟩
    ·exact hl t (by simp) h
    ·rcases bv h with h|⟨_,_,h⟩
     ·exact ih (fun x hx=>hl x (by simp [hx])) h
     ·cases h
  have hmore: ∀ {l:List Tm},(∀x∈l,∀ {v d e},bo vb db v d x= .error e→0<e∧e≤1000)→ ∀ {e},dv vb db v d kd l= .error e→0<e∧e≤1000:=by
   intro l
   induction l with
   |nil=>intro _ e h;rw [dv] at h;cases h
   |cons t l ih=>
    intro hl e h
    rw [dv] at h
    rcases bv h with h|⟨_,_,h⟩
    ·exact hl t (by simp) h
    ·rcases bv h with h|⟨_,_,h⟩
     ·exact ih (fun x hx=>hl x (by simp [hx])) h
     ·cases h
  have hsys: ∀ {l:List (Br Tm)},(∀b∈l,∀x∈b.kids,∀ {v d e},bo vb db v d x= .error e→0<e∧e≤1000)→dA vb db v d kd l= .error e→0<e∧e≤1000:=by
   intro l
   induction l with
   |nil=>intro _ h;rw [dA] at h;cases h
   |cons b l ih=>
    intro hl h
    rw [dA] at h
    rcases bv h with h|⟨_,_,h⟩
    ·cases b with
     |mk f ks'=>
      rw [lf] at h
      rcases bv h with h|⟨_,_,h⟩
      ·exact wk h
      ·rcases bv h with h|⟨_,_,h⟩
       ·exact hmore (hl (Br.mk f ks') (by simp)) h
       ·cases h
    ·rcases bv h with h|⟨_,_,h⟩
     ·exact ih (fun b hb=>hl b (by simp [hb])) h
     ·cases h
  rcases bv h with h|⟨_,_,h⟩
  ·exact hkids (fun x hx=>ih1 x hx) h
  ·rcases bv h with h|⟨_,_,h⟩
   ·exact hsys ih2 h
   ·cases h
end Go.Proofs.YtapmagaejigpnaaGreatDoor
namespace Go.Proofs.YtapmagaejigpnaaGreatDoor
open Go PI
set_option linter.unusedVariables false
set_option linter.unusedSimpArgs false
variable {S:Type} {k:Nat}
abbrev dq:=Int→List Cl→Except Int (List Cl)
mutual
def aK (fo fa:dq) (d:Int):Tm→Except Int Tm
 | .mk kd n nm r ks sys=>bE (if kd=14 then fa d r else fo d r) fun r'=>bE (a_ fo fa d kd 0 ks) fun ks'=>bE (aL fo fa d kd sys) fun sys'=> .ok (.mk kd n nm r' ks' sys')
def a_ (fo fa:dq) (d kd:Int) (i:Nat):List Tm→Except Int (List Tm)
 |[]=> .ok []
 |t::l=>bE (aK fo fa (d+bM kd i) t) fun t'=>bE (a_ fo fa d kd (i+1) l) fun l'=> .ok (t'::l')
def aL (fo fa:dq) (d kd:Int):List (Br Tm)→Except Int (List (Br Tm))
 |[]=> .ok []
 |b::l=>bE (d9 fo fa d kd b) fun o=>bE (aL fo fa d kd l) fun l'=> .ok (o++l')
def d9 (fo fa:dq) (d kd:Int):Br Tm→Except Int (List (Br Tm))
 | .mk f ks=>bE (fa d f) fun f'=>if f'.length=0 then .ok [] else bE (bg fo fa d kd ks) fun ks'=> .ok [.mk f' ks']
def bg (fo fa:dq) (d kd:Int):List Tm→Except Int (List Tm)
 |[]=> .ok []
 |t::l=>bE (aK fo fa (d+ar kd) t) fun t'=>bE (bg fo fa d kd l) fun l'=> .ok (t'::l')
end
theorem aaZ {fo fa:dq} {d kd:Int} {R:Tm→Tm→Prop}: ∀ {l:List Tm} {i:Nat} {l':List Tm},(∀x∈l,∀d x',aK fo fa d x= .ok x'→R x x')→a_ fo fa d kd i l= .ok l'→F2 R l l':=by
 intro l
 induction l with
 |nil=>intro i l' _ h;rw [a_] at h;injection h with h;subst h;exact .nil
 |cons t l ih=>
  intro i l' hr h
  rw [a_] at h
  obtain ⟨t',h1,h⟩:=bj h
  obtain ⟨m,h2,h⟩:=bj h
  injection h with h;subst h
  exact .cons (hr t (by simp) _ _ h1) (ih (fun x hx=>hr x (by simp [hx])) h2)
theorem aa1 {fo fa:dq} {d kd:Int} {R:Tm→Tm→Prop}: ∀ {l:List Tm} {l':List Tm},(∀x∈l,∀d x',aK fo fa d x= .ok x'→R x x')→bg fo fa d kd l= .ok l'→F2 R l l':=by
 intro l
 induction l with
 |nil=>intro l' _ h;rw [bg] at h;injection h with h;subst h;exact .nil
 |cons t l ih=>
  intro l' hr h
  rw [bg] at h
  obtain ⟨t',h1,h⟩:=bj h
  obtain ⟨m,h2,h⟩:=bj h
  injection h with h;subst h
  exact .cons (hr t (by simp) _ _ h1) (ih (fun x hx=>hr x (by simp [hx])) h2)
def Wk (x x':Tm):Prop:=av x'≤av x∧aF x'≤aF x∧x'.kind=x.kind∧(OkT x→RowsT x→OkT x'∧RowsT x')
theorem MF {l l':List Tm} (h:F2 Wk l l'):bk l'≤bk l:=by
 induction h with
 |nil=>exact Nat.le_refl _
 |cons h1 _ ih=>rw [bk,bk];have:=h1.1;omega
theorem MH {l l':List Tm} (h:F2 Wk l l'):aR l'≤aR l:=by
 induction h with
 |nil=>exact Nat.le_refl _
 |cons h1 _ ih=>rw [aR,aR];have:=h1.2.1;omega
theorem MG {l l':List Tm} (h:F2 Wk l l'):b_ l→cS l→b_ l'∧cS l':=by
 induction h with
 |nil=>exact fun h g=>⟨h,g⟩
 |cons h1 _ ih=>
  rw [b_,b_,cS,cS]
  intro h g
  have a:=h1.2.2.2 h.1 g.1
  have b:=ih h.2 g.2
  exact ⟨⟨a.1,b.1⟩,a.2,b.2⟩
theorem aa4 {fo fa:dq} {d kd:Int} (hfa: ∀d f g,RF f→fa d f= .ok g→RF g): ∀ {l l':List (Br Tm)},(∀b∈l,∀x∈b.kids,∀d x',aK fo fa d x= .ok x'→Wk x x')→aL fo fa d kd l= .ok l'→
  bK l'≤bK l∧a8 l'≤a8 l∧l'.length≤l.length∧(bW l→dD l→bW l'∧dD l'):=by
 intro l
 induction l with
 |nil=>intro l' _ h;rw [aL] at h;injection h with h;subst h;exact ⟨Nat.le_refl _,Nat.le_refl _,Nat.le_refl _,fun h g=>⟨h,g⟩⟩
 |cons b l ih=>
  intro l' hr h
  rw [aL] at h
  obtain ⟨o,h1,h⟩:=bj h
  obtain ⟨m,h2,h⟩:=bj h
  injection h with h;subst h
  obtain ⟨i1,i2,i3,i4⟩:=ih (fun b hb=>hr b (by simp [hb])) h2
  cases b with
  |mk f ks=>
   rw [d9] at h1
   obtain ⟨f',h3,h1⟩:=bj h1
   split at h1
   ·injection h1 with h1;subst h1
    refine ⟨?_, ?_, ?_,fun ho hg=> ?_⟩
    ·rw [List.nil_append,bK];omega
    ·rw [List.nil_append,a8];omega
    ·rw [List.nil_append,List.length_cons];omega
    ·rw [bW] at ho;rw [dD] at hg
     exact i4 ho.2 hg.2
   ·obtain ⟨ks',h4,h1⟩:=bj h1
    injection h1 with h1;subst h1
    have f2:F2 Wk ks ks':=aa1 (hr ⟨f,ks⟩ (by simp)) h4
    have hd:=MF f2
    have hs:=MH f2
    refine ⟨?_, ?_, ?_,fun ho hg=> ?_⟩
    ·show bK (Br.mk f' ks'::m)≤_
     rw [bK,bK,p9,p9];omega
    ·show a8 (Br.mk f' ks'::m)≤_
     rw [a8,a8,jY,jY];omega
    ·simp only [List.length_append,List.length_cons,List.length_nil];omega
    ·rw [bW,ot] at ho;rw [dD,km] at hg
     have a:=MG f2 ho.1.2 hg.1.2
     have b:=i4 ho.2 hg.2
     have c:=hfa d f f' hg.1.1 h3
     show bW (Br.mk f' ks'::m)∧dD (Br.mk f' ks'::m)
     rw [bW,ot,dD,km]
     exact ⟨⟨⟨⟨c.2,by have:=c.len;omega,by rw [f2.len];exact ho.1.1.2.2⟩,a.1⟩,b.1⟩,⟨c,a.2⟩,b.2⟩
theorem MB {fo fa:dq} (hfo: ∀d f g,RF f→fo d f= .ok g→RF g) (hfa: ∀d f g,RF f→fa d f= .ok g→RF g) (h0: ∀d,fo d []= .ok []) (t:Tm): ∀d t',aK fo fa d t= .ok t'→Wk t t':=by
 induction t using j6 with
 |h kd n nm r ks sys ih1 ih2=>
  intro d t' h
  rw [aK] at h
  obtain ⟨r',hr,h⟩:=bj h
  obtain ⟨ks',hk,h⟩:=bj h
  obtain ⟨sys',hs,h⟩:=bj h
  injection h with h;subst h
  have fk:F2 Wk ks ks':=aaZ ih1 hk
  obtain ⟨s1,s2,s3,s4⟩:=aa4 hfa ih2 hs
  refine ⟨?_, ?_,rfl,fun hok hro=> ?_⟩
  ·rw [av,av];have:=MF fk;omega
  ·rw [aF,aF];have:=MH fk;omega
  ·rw [OkT] at hok;rw [RowsT] at hro
   obtain ⟨⟨o1,o2,o3,o4,o5,o6,o7⟩,ok,os⟩:=hok
   obtain ⟨⟨a,b,z⟩,c,e⟩:=hro
   have hk:=MG fk ok c
   have hs:=s4 os e
   have hrf:RF r':=by
    split at hr
    ·exact hfa d r r' a hr
    ·exact hfo d r r' a hr
   rw [OkT,RowsT]
   refine ⟨⟨⟨o1,o2,o3,hrf.2,by have:=hrf.len;omega,by rw [fk.len];exact o6,by omega⟩,hk.1,hs.1⟩,⟨hrf,fun h1=> ?_,z⟩,hk.2,hs.2⟩
   rw [if_neg (by omega),b h1,h0] at hr
   injection hr with hr;exact hr.symm
section
variable {fo fa:dq} {G:Int→List Cl→List Cl}
def cA (f:dq) (G:Int→List Cl→List Cl):dq:=fun d l=>bE (f d l) fun m=> .ok (G d m)
def au (G:Int→List Cl→List Cl):dq:=fun d l=> .ok (G d l)
theorem wN (t:Tm): ∀d,∃t',aK (au G) (au G) d t= .ok t':=by
 induction t using j6 with
 |h kd n nm r ks sys ih1 ih2=>
  intro d
  have hk: ∀ {l:List Tm} {i:Nat},(∀x∈l,∀d,∃t',aK (au G) (au G) d x= .ok t')→ ∃l',a_ (au G) (au G) d kd i l= .ok l':=by
   intro l
   induction l with
   |nil=>intro i _;exact ⟨[],by rw [a_]⟩
   |cons t l ih=>
    intro i h
    obtain ⟨t',e⟩:=h t (by simp) (d+bM kd i)
    obtain ⟨l',e'⟩:=ih (i:=i+1) fun x hx=>h x (by simp [hx])
    exact ⟨t'::l',by rw [a_,e,aw,e',aw]⟩
  have hm: ∀ {l:List Tm},(∀x∈l,∀d,∃t',aK (au G) (au G) d x= .ok t')→ ∃l',bg (au G) (au G) d kd l= .ok l':=by
   intro l
   induction l with
   |nil=>intro _;exact ⟨[],by rw [bg]⟩
   |cons t l ih=>
    intro h
    obtain ⟨t',e⟩:=h t (by simp) (d+ar kd)
    obtain ⟨l',e'⟩:=ih fun x hx=>h x (by simp [hx])
    exact ⟨t'::l',by rw [bg,e,aw,e',aw]⟩
  have hs: ∀ {l:List (Br Tm)},(∀b∈l,∀x∈b.kids,∀d,∃t',aK (au G) (au G) d x= .ok t')→ ∃l',aL (au G) (au G) d kd l= .ok l':=by
   intro l
   induction l with
   |nil=>intro _;exact ⟨[],by rw [aL]⟩
   |cons b l ih=>
    intro h
    obtain ⟨l',e'⟩:=ih fun b hb=>h b (by simp [hb])
    cases b with
    |mk f ks=>
     obtain ⟨ks',e⟩:=hm (h ⟨f,ks⟩ (by simp))
     have: ∃o,d9 (au G) (au G) d kd (.mk f ks)= .ok o:=by
      rw [d9,au,aw]
      split
      ·exact ⟨_,rfl⟩
      ·exact ⟨_,by rw [e,aw]⟩
     obtain ⟨o,e3⟩:=this
     exact ⟨o++l',by rw [aL,e3,aw,e',aw]⟩
  obtain ⟨ks',ek⟩:=hk (i:=0) ih1
  obtain ⟨sys',es⟩:=hs ih2
  refine ⟨.mk kd n nm (G d r) ks' sys', ?_⟩
  have:(if kd=14 then au G d r else au G d r)= .ok (G d r):=by split<;>rfl
  rw [aK,this,aw,ek,aw,es,aw]
theorem aa0 (d kd:Int): ∀ (l:List Tm) (i:Nat),∃l',a_ (au G) (au G) d kd i l= .ok l':=by
 intro l
 induction l with
 |nil=>intro i;exact ⟨[],by rw [a_]⟩
 |cons t l ih=>
  intro i
  obtain ⟨t',e⟩:=wN (G:=G) t (d+bM kd i)
  obtain ⟨l',e'⟩:=ih (i+1)
  exact ⟨t'::l',by rw [a_,e,aw,e',aw]⟩
theorem MA (d kd:Int): ∀ (l:List Tm),∃l',bg (au G) (au G) d kd l= .ok l':=by
 intro l
 induction l with
 |nil=>exact ⟨[],by rw [bg]⟩
 |cons t l ih=>
  obtain ⟨t',e⟩:=wN (G:=G) t (d+ar kd)
  obtain ⟨l',e'⟩:=ih
  exact ⟨t'::l',by rw [bg,e,aw,e',aw]⟩
theorem aaY (d kd:Int) (b:Br Tm): ∃o,d9 (au G) (au G) d kd b= .ok o:=by
 cases b with
 |mk f ks=>
  obtain ⟨ks',e⟩:=MA (G:=G) d kd ks
  rw [d9,au,aw]
  split
  ·exact ⟨_,rfl⟩
  ·exact ⟨_,by rw [e,aw]⟩
theorem aa3 (d kd:Int): ∀ (l:List (Br Tm)),∃l',aL (au G) (au G) d kd l= .ok l':=by
 intro l
 induction l with
 |nil=>exact ⟨[],by rw [aL]⟩
 |cons b l ih=>
  obtain ⟨l',e'⟩:=ih
  obtain ⟨o,e⟩:=aaY (G:=G) d kd b
  exact ⟨o++l',by rw [aL,e,aw,e',aw]⟩
theorem aa2 (d kd:Int): ∀ (a b:List (Br Tm)),aL fo fa d kd (a++b)=bE (aL fo fa d kd a) fun a'=>bE (aL fo fa d kd b) fun b'=> .ok (a'++b'):=by
 intro a
 induction a with
 |nil=>intro b;rw [List.nil_append,aL,aw];cases aL fo fa d kd b<;>rfl
 |cons x a ih=>
  intro b
  rw [List.cons_append,aL,aL,ih]
  cases d9 fo fa d kd x with
  |error e=>rfl
  |ok o=>
   rw [aw,aw]
   cases aL fo fa d kd a with
   |error e=>rfl
   |ok a'=>
    rw [aw,aw]
    cases aL fo fa d kd b with
    |error e=>rfl
    |ok b'=>simp only [aw,List.append_assoc]
theorem aa5 (hfa: ∀d f g,RF f→fa d f= .ok g→RF g) (hG: ∀d f,RF f→((G d f).length=0↔f.length=0)) (t:Tm): ∀d,RowsT t→bE (aK fo fa d t) (aK (au G) (au G) d)=aK (cA fo G) (cA fa G) d t:=by
 induction t using j6 with
 |h kd n nm r ks sys ih1 ih2=>
  intro d hrows
  rw [RowsT] at hrows
  obtain ⟨_,hrk,hrs⟩:=hrows
  have hk: ∀ {l:List Tm} {i:Nat},(∀x∈l,∀d,RowsT x→bE (aK fo fa d x) (aK (au G) (au G) d)=aK (cA fo G) (cA fa G) d x)→cS l→bE (a_ fo fa d kd i l) (a_ (au G) (au G) d kd i)=a_ (cA fo G) (cA fa G) d kd i l:=by
   intro l
   induction l with
   |nil=>intro i _ _;rw [a_,a_,aw,a_]
   |cons t l ih=>
    intro i h hr
    rw [cS] at hr
    have h1:=h t (by simp) (d+bM kd i) hr.1
    have h2:=ih (i:=i+1) (fun x hx=>h x (by simp [hx])) hr.2
    rw [a_,a_,←h1,←h2]
    cases aK fo fa (d+bM kd i) t with
    |error e=>rfl
    |ok t'=>
     rw [aw,aw]
     obtain ⟨t'',e⟩:=wN (G:=G) t' (d+bM kd i)
     rw [e,aw]
     cases a_ fo fa d kd (i+1) l with
     |error e=>rfl
     |ok l'=>
      rw [aw,aw,aw,a_,e,aw]
  have hm: ∀ {l:List Tm},(∀x∈l,∀d,RowsT x→bE (aK fo fa d x) (aK (au G) (au G) d)=aK (cA fo G) (cA fa G) d x)→cS l→bE (bg fo fa d kd l) (bg (au G) (au G) d kd)=bg (cA fo G) (cA fa G) d kd l:=by
   intro l
   induction l with
   |nil=>intro _ _;rw [bg,bg,aw,bg]
   |cons t l ih=>
    intro h hr
    rw [cS] at hr
    have h1:=h t (by simp) (d+ar kd) hr.1
    have h2:=ih (fun x hx=>h x (by simp [hx])) hr.2
    rw [bg,bg,←h1,←h2]
    cases aK fo fa (d+ar kd) t with
    |error e=>rfl
    |ok t'=>
     rw [aw,aw]
     obtain ⟨t'',e⟩:=wN (G:=G) t' (d+ar kd)
     rw [e,aw]
     cases bg fo fa d kd l with
     |error e=>rfl
     |ok l'=>
      rw [aw,aw,aw,bg,e,aw]
  have hb: ∀ {b:Br Tm},(∀x∈b.kids,∀d,RowsT x→bE (aK fo fa d x) (aK (au G) (au G) d)=aK (cA fo G) (cA fa G) d x)→km b→bE (d9 fo fa d kd b) (aL (au G) (au G) d kd)=d9 (cA fo G) (cA fa G) d kd b:=by
   intro b h hr
   cases b with
   |mk f ks'=>
    rw [km] at hr
    have h2:=hm h hr.2
    rw [d9,d9]
    show _=bE (bE (fa d f) fun m=> .ok (G d m)) _
    cases hf:fa d f with
    |error e=>rfl
    |ok f'=>
     rw [aw,aw,aw]
     have hg:=hG d f' (hfa d f f' hr.1 hf)
     by_cases h0:f'.length=0
     ·rw [if_pos h0,if_pos (hg.2 h0),aw,aL]
     ·rw [if_neg h0,if_neg (fun h=>h0 (hg.1 h)),←h2]
      cases bg fo fa d kd ks' with
      |error e=>rfl
      |ok l'=>
       rw [aw,aw,aw,aL,d9]
       show bE (bE (.ok (G d f')) _) _=_
       rw [aw,if_neg (fun h=>h0 (hg.1 h))]
       obtain ⟨l'',e⟩:=MA (G:=G) d kd l'
       rw [e,aw,aw,aL,aw];rfl
  have hs: ∀ {l:List (Br Tm)},(∀b∈l,∀x∈b.kids,∀d,RowsT x→bE (aK fo fa d x) (aK (au G) (au G) d)=aK (cA fo G) (cA fa G) d x)→dD l→bE (aL fo fa d kd l) (aL (au G) (au G) d kd)=aL (cA fo G) (cA fa G) d kd l:=by
   intro l
   induction l with
   |nil=>intro _ _;rw [aL,aL,aw,aL]
   |cons b l ih=>
    intro h hr
    rw [dD] at hr
    have h1:=hb (h b (by simp)) hr.1
    have h2:=ih (fun b hb=>h b (by simp [hb])) hr.2
    rw [aL,aL,←h1,←h2]
    cases d9 fo fa d kd b with
    |error e=>rfl
    |ok o=>
     rw [aw,aw]
     obtain ⟨o',e⟩:=aa3 (G:=G) d kd o
     rw [e,aw]
     cases aL fo fa d kd l with
     |error e=>rfl
     |ok l'=>
      rw [aw,aw,aw,aa2,e,aw]
  rw [aK,aK,←hk (i:=0) ih1 hrk,←hs ih2 hrs]
  have hrow:(if kd=14 then cA fa G d r else cA fo G d r)=bE (if kd=14 then fa d r else fo d r) fun m=> .ok (G d m):=by split<;>rfl
  rw [hrow]
  cases (if kd=14 then fa d r else fo d r) with
  |error e=>rfl
  |ok r'=>
   rw [aw,aw,aw]
   cases a_ fo fa d kd 0 ks with
   |error e=>rfl
   |ok ks'=>
    rw [aw,aw]
    obtain ⟨ks'',ek⟩:=aa0 (G:=G) d kd ks' 0
    rw [ek,aw]
    cases aL fo fa d kd sys with
    |error e=>rfl
    |ok sys'=>
     rw [aw,aw,aw,aK]
     have:(if kd=14 then au G d r' else au G d r')= .ok (G d r'):=by split<;>rfl
     rw [this,aw,ek,aw]
end
end Go.Proofs.YtapmagaejigpnaaGreatDoor
namespace Go.Proofs.YtapmagaejigpnaaGreatDoor
open Go PI
set_option linter.unusedVariables false
set_option linter.unusedSimpArgs false
set_option maxRecDepth 20000
variable {S:Type} {k:Nat}
theorem Fc (kd:Int):(kd<0∨kd>28)∨(∃n:Nat,n<29∧kd=n):=by
 by_cases h:kd<0∨kd>28
 ·exact .inl h
 ·exact .inr ⟨kd.toNat,by omega,by omega⟩
theorem YR (kd:Int) (ret:Int→Option S):uF k kd ret=ret (dQ kd):=by
 simp only [uF,Mc]
 rcases Fc kd with h|⟨n,hn,rfl⟩
 ·simp only [b8,beq_iff_eq]
  unfold dQ
  rw [if_pos h]
  repeat rw [if_neg (by omega)]
 ·unfold dQ
  rw [if_neg (by omega),Int.toNat_natCast]
  match n,hn with
  |0,_=>rfl
  |1,_=>rfl
  |2,_=>rfl
  |3,_=>rfl
  |4,_=>rfl
  |5,_=>rfl
  |6,_=>rfl
  |7,_=>rfl
  |8,_=>rfl
  |9,_=>rfl
  |10,_=>rfl
  |11,_=>rfl
  |12,_=>rfl
  |13,_=>rfl
  |14,_=>rfl
  |15,_=>rfl
  |16,_=>rfl
  |17,_=>rfl
  |18,_=>rfl
  |19,_=>rfl
  |20,_=>rfl
  |21,_=>rfl
  |22,_=>rfl
  |23,_=>rfl
  |24,_=>rfl
  |25,_=>rfl
  |26,_=>rfl
  |27,_=>rfl
  |28,_=>rfl
  |n+29,h=>exact absurd h (by omega)
theorem ZF (kd:Int) (ret:Int→Option S):pN k kd ret=ret (dQ kd):=by
 simp only [pN,LN,aG]
 unfold dQ
 rcases Fc kd with h|⟨n,hn,rfl⟩
 ·rw [if_pos h]
  by_cases h0:kd<0
  ·rw [if_pos h0]
  ·rw [if_neg h0,if_pos (by omega)]
 ·rw [if_neg (by omega),if_neg (by omega),if_neg (by omega),lW (by omega),u_,Int.toNat_natCast]
  have h2: ∀l:List Int,n<l.length→l[n]? =some (l.getD n 0):=fun l h=>by
   rw [List.getElem?_eq_getElem h,List.getD_eq_getElem?_getD,List.getElem?_eq_getElem h];rfl
  show Option.bind (kidsT[n]?) _=_
  rw [h2 kidsT (by show n<29;exact hn)];rfl
theorem nV (kd i:Int) (ret:Int×Int→Option S):ji k kd i ret=ret (dw kd i,bM kd i):=by
 simp only [ji,Ma,b8,beq_iff_eq]
 unfold dw bM
 repeat' split
 all_goals first|rfl|(exfalso;omega)
theorem Bu (hk:Fu k) (kd i:Int) (ret:Int×Int→Option S):mh k kd i ret=ret (dw kd i,bM kd i):=by
 obtain ⟨q,rfl⟩: ∃q,k=q+1:=⟨k-1,by have:4294967296≤k:=hk;omega⟩
 simp only [mh,CA,zD,ti,vg,xY,b8,beq_iff_eq]
 unfold dw bM
 repeat' split
 all_goals first|rfl|(exfalso;omega)
theorem JI (kd:Int) (ret:Int→Option S):jk k kd ret=ret (bU kd):=by
 simp only [jk,Md,b8,beq_iff_eq]
 unfold bU
 repeat' split
 all_goals first|rfl|(exfalso;omega)
theorem Kg (kd:Int) (ret:Int→Option S):ml k kd ret=ret (bU kd):=by
 simp only [ml,LP,b8,beq_iff_eq]
 unfold bU
 repeat' split
 all_goals first|rfl|(exfalso;omega)
theorem Bx (kd:Int) (ret:Int→Option S):mj k kd ret=ret (ar kd):=by
 simp only [mj,LO,b8,beq_iff_eq]
 unfold ar
 split<;>rfl
theorem Di (s t:ByteArray):(s==t)=decide (s=t):=by
 obtain ⟨a⟩:=s;obtain ⟨b⟩:=t
 show (a==b)=_
 rw [Bool.eq_iff_iff,beq_iff_eq,decide_eq_true_eq]
 constructor
 ·rintro rfl;rfl
 ·intro h;injection h
theorem Af (s:ByteArray):(s==ByteArray.empty)=decide (s.size=0):=by
 rw [Di,Bool.eq_iff_iff,decide_eq_true_eq,decide_eq_true_eq]
 constructor
 ·rintro rfl;rfl
 ·intro h
  obtain ⟨⟨l⟩⟩:=s
  have:l.length=0:=h
  rw [List.length_eq_zero_iff] at this
  subst this;rfl
theorem iR (s:ByteArray):(s.size:Int)=(s.data.toList.length:Int):=by
 obtain ⟨⟨l⟩⟩:=s;rfl
theorem abU {p r:List UInt8} {x:UInt8}:iD (p++x::r)=match p with
 |[]=>dJ x&&r.all fun d=>dJ d||gE d
 |c::l=>(dJ c&&l.all fun d=>dJ d||gE d)&&((dJ x||gE x)&&r.all fun d=>dJ d||gE d):=by
 cases p with
 |nil=>rfl
 |cons c l=>simp [iD,Bool.and_assoc]
def fl (p:List UInt8) (r:List UInt8):Bool:=match p with
 |[]=>iD r
 |_::_=>r.all fun d=>dJ d||gE d
theorem GV (p:List UInt8) (x:UInt8) (r:List UInt8):fl p (x::r)=((dJ x||(decide (p≠[])&&gE x))&&fl (p++[x]) r):=by
 cases p with
 |nil=>simp [fl,iD]
 |cons c l=>simp [fl]
theorem GW {p:List UInt8}:fl p []=decide (p.length≠0):=by
 cases p with
 |nil=>rfl
 |cons c l=>simp [fl]
theorem VK (hk:Fu k) (ret:Bool→Option S) {s:ByteArray} (hs:s.size<2147483648):
  ∀ (r p:List UInt8) (m:Nat),s.data.toList=p++r→r.length<m→ld k ret s m (p.length:Int)=ret (fl p r):=by
 obtain ⟨q,rfl⟩: ∃q,k=q+1:=⟨k-1,by have:4294967296≤k:=hk;omega⟩
 have hs':s.data.toList.length<2147483648:=by have:=iR s;omega
 intro r
 induction r with
 |nil=>
  intro p m h hm
  obtain ⟨m,rfl,hm'⟩:=ak hm
  simp only [ld,pg,iR,az h,ac,Af,GW]
  have:s.size=p.length:=by have:=iR s;rw [h,List.append_nil] at this;omega
  rw [this]
  by_cases h0:p.length=0<;>simp [h0]
 |cons x r ih=>
  intro p m h hm
  obtain ⟨m,rfl,hm'⟩:=ak hm
  obtain ⟨e1,e2,e3,e4⟩:=ay h (by omega)
  have hi:=ih (p++[x]) m e4 hm'
  rw [GV]
  simp only [ld,pg,iR,e1,ad,e2,Option.bind_some,aG,vl,x_,e3,hi]
  have hl: ∀b:Bool,b=dJ x→ab (!b) (ab (((p.length:Nat):Int)==0) (ret false) (if ((x.toNat:Nat):Int)<48 then ret false else if ((x.toNat:Nat):Int)>57 then ret false else ret (fl (p++[x]) r))) (ret (fl (p++[x]) r))=ret ((dJ x||(decide (p≠[])&&gE x))&&fl (p++[x]) r):=by
   rintro b rfl
   cases dJ x with
   |true=>rw [Bool.not_true,ac];simp
   |false=>
    rw [Bool.not_false,ad,b8]
    by_cases hp:p=[]
    ·subst hp;simp
    ·have h0: ¬ (((p.length:Nat):Int)==0)=true:=by
      have:0<p.length:=List.length_pos_iff.2 hp
      simp;exact hp
     rw [if_neg h0,decide_eq_true hp]
     unfold gE
     by_cases c1:x.toNat<48
     ·rw [if_pos (by omega),decide_eq_false (by omega)];simp
     ·rw [if_neg (by omega),decide_eq_true (by omega)]
      by_cases c2:x.toNat>57
      ·rw [if_pos (by omega),decide_eq_false (by omega)];simp
      ·rw [if_neg (by omega),decide_eq_true (by omega)];simp
  have hb: ∀n:Nat,(((n:Nat):Int)==95)=decide (n=95):=fun n=>by
   rw [Bool.eq_iff_iff];simp;omega
  have hlt:dJ x=(decide (97≤x.toNat)&&decide (x.toNat≤122)||decide (65≤x.toNat)&&decide (x.toNat≤90)||decide (x.toNat=95)):=rfl
  by_cases c1:97≤x.toNat
  ·rw [if_pos (show ((x.toNat:Nat):Int)≥97 by omega)]
   by_cases c2:x.toNat≤122
   ·rw [if_pos (by omega)]
    exact hl true (by rw [hlt,decide_eq_true c1,decide_eq_true c2];rfl)
   ·rw [if_neg (by omega),if_pos (by omega),if_neg (by omega),hb]
    exact hl _ (by rw [hlt,decide_eq_false c2,decide_eq_false (show ¬x.toNat≤90 by omega)];simp)
  ·rw [if_neg (show ¬ ((x.toNat:Nat):Int)≥97 by omega)]
   by_cases c3:65≤x.toNat
   ·rw [if_pos (show ((x.toNat:Nat):Int)≥65 by omega)]
    by_cases c4:x.toNat≤90
    ·rw [if_pos (by omega)]
     exact hl true (by rw [hlt,decide_eq_true c3,decide_eq_true c4];simp)
    ·rw [if_neg (by omega),hb]
     exact hl _ (by rw [hlt,decide_eq_false c1,decide_eq_false c4];simp)
   ·rw [if_neg (show ¬ ((x.toNat:Nat):Int)≥65 by omega),hb]
    exact hl _ (by rw [hlt,decide_eq_false c1,decide_eq_false c3];simp)
theorem Zk (hk:Fu k) {s:ByteArray} (hs:s.size<2147483648) (ret:Bool→Option S):uH k s ret=ret (iD s.data.toList):=by
 simp only [uH,CV]
 have:=VK hk ret hs s.data.toList [] k rfl (by have:=iR s;have:4294967296≤k:=hk;omega)
 exact this
theorem Wf (hk:Fu k) (ret:Bool→Option S) {s:ByteArray} (hs:s.size<2147483648):
  ∀ (r p:List UInt8) (m:Nat),s.data.toList=p++r→r.length<m→la k ret s m (p.length:Int)=ret (fl p r):=by
 obtain ⟨q,rfl⟩: ∃q,k=q+1:=⟨k-1,by have:4294967296≤k:=hk;omega⟩
 have hs':s.data.toList.length<2147483648:=by have:=iR s;omega
 intro r
 induction r with
 |nil=>
  intro p m h hm
  obtain ⟨m,rfl,hm'⟩:=ak hm
  simp only [la,oW,iR,az h,ac,GW]
  rw [h,List.append_nil]
  congr 1
  rw [Bool.eq_iff_iff,decide_eq_true_eq,decide_eq_true_eq];omega
 |cons x r ih=>
  intro p m h hm
  obtain ⟨m,rfl,hm'⟩:=ak hm
  obtain ⟨e1,e2,e3,e4⟩:=ay h (by omega)
  have hi:=ih (p++[x]) m e4 hm'
  rw [GV]
  have hb: ∀n:Nat,(((n:Nat):Int)==95)=decide (n=95):=fun n=>by
   rw [Bool.eq_iff_iff];simp;omega
  simp only [la,oW,iR,e1,ad,e2,Option.bind_some,aG,vh,xZ,e3,hi,hb]
  have hlt:dJ x=(decide (97≤x.toNat)&&decide (x.toNat≤122)||decide (65≤x.toNat)&&decide (x.toNat≤90)||decide (x.toNat=95)):=rfl
  have hdt:gE x=(decide (48≤x.toNat)&&decide (x.toNat≤57)):=rfl
  generalize fl (p++[x]) r=z
  have hj:(ab (!decide (x.toNat=95)) (if ((x.toNat:Nat):Int)<97 then if ((x.toNat:Nat):Int)<65 then ret false else if ((x.toNat:Nat):Int)>90 then ret false else ret z
    else if ((x.toNat:Nat):Int)>122 then if ((x.toNat:Nat):Int)<65 then ret false else if ((x.toNat:Nat):Int)>90 then ret false else ret z else ret z) (ret z))=ret (dJ x&&z):=by
   rw [hlt]
   by_cases c0:x.toNat=95
   ·rw [decide_eq_true c0,Bool.not_true,ac,Bool.or_true,Bool.true_and]
   ·rw [decide_eq_false c0,Bool.not_false,ad,Bool.or_false]
    by_cases c1:97≤x.toNat
    ·rw [if_neg (by omega),decide_eq_true c1,decide_eq_false (show ¬x.toNat≤90 by omega),Bool.and_false,Bool.or_false]
     by_cases c2:x.toNat≤122
     ·rw [if_neg (by omega),decide_eq_true c2];rfl
     ·rw [if_pos (by omega),if_neg (by omega),if_pos (by omega),decide_eq_false c2];rfl
    ·rw [if_pos (by omega),decide_eq_false c1,Bool.false_and,Bool.false_or]
     by_cases c2:65≤x.toNat
     ·rw [if_neg (by omega),decide_eq_true c2]
      by_cases c3:x.toNat≤90
      ·rw [if_neg (by omega),decide_eq_true c3];rfl
      ·rw [if_pos (by omega),decide_eq_false c3];rfl
     ·rw [if_pos (by omega),decide_eq_false c2];rfl
  rw [hj]
  have hd:decide (p≠[])=decide (0<p.length):=by rw [decide_eq_decide];exact List.length_pos_iff.symm
  rw [hd,hdt]
  have hdl:48≤x.toNat∧x.toNat≤57→dJ x=false:=fun h=>by
   rw [hlt,decide_eq_false (show ¬97≤x.toNat by omega),decide_eq_false (show ¬65≤x.toNat by omega),decide_eq_false (show ¬x.toNat=95 by omega)];rfl
  by_cases c1:48≤x.toNat
  ·rw [if_pos (by omega),decide_eq_true c1]
   by_cases c2:x.toNat≤57
   ·rw [if_pos (by omega),decide_eq_true c2,hdl ⟨c1,c2⟩]
    by_cases c3:0<p.length
    ·rw [if_pos (by omega),decide_eq_true c3];rfl
    ·rw [if_neg (by omega),decide_eq_false c3];rfl
   ·rw [if_neg (by omega),decide_eq_false c2,Bool.true_and,Bool.and_false,Bool.or_false]
  ·rw [if_neg (by omega),decide_eq_false c1,Bool.false_and,Bool.and_false,Bool.or_false]
theorem ZN (hk:Fu k) {s:ByteArray} (hs:s.size<2147483648) (ret:Bool→Option S):uy k s ret=ret (iD s.data.toList):=by
 simp only [uy,CG]
 have:=Wf hk ret hs s.data.toList [] k rfl (by have:=iR s;have:4294967296≤k:=hk;omega)
 exact this
end Go.Proofs.YtapmagaejigpnaaGreatDoor
namespace Go.Proofs.YtapmagaejigpnaaGreatDoor
open Go PI
set_option linter.unusedVariables false
set_option linter.unusedSimpArgs false
set_option maxRecDepth 20000
variable {S:Type} {k:Nat}
theorem ny (n:Nat):(((n:Nat):Int)==0)=decide (n=0):=by rw [Bool.eq_iff_iff];simp
theorem VO (hk:Fu k) (ret:Bool→Option S) {t:Tm} {dims:Int} (hd:0≤dims) (hd':dims<9223372036854775808) (hs: ∀b∈t.sys,am b.face∧b.face.length<1073741824) (hlen:t.sys.length<1073741824):
  ∀ (r p:List (Br Tm)) (m:Nat),t.sys=p++r→r.length<m→iy k ret t dims m (p.length:Int)=ret (r.all (de t.kind dims)&&decide (t.r.length=0)):=by
 intro r
 induction r with
 |nil=>
  intro p m h hm
  obtain ⟨m,rfl,hm'⟩:=ak hm
  simp only [iy,tD,az h,ac,ny,List.all_nil,Bool.true_and]
 |cons x r ih=>
  intro p m h hm
  obtain ⟨m,rfl,hm'⟩:=ak hm
  obtain ⟨e1,e2,e3,e4⟩:=ay h (by omega)
  have hx:=hs x (by rw [h];simp)
  have hb:((x.kids.length:Int)==bU t.kind)=decide ((x.kids.length:Int)=bU t.kind):=by rw [Bool.eq_iff_iff];simp
  simp only [iy,tD,e1,ad,e2,Option.bind_some,ah hk,JI,rN hk hx.1 (show x.face.length<2147483648 by omega),Kl hk hx.1 (show x.face.length<4294967296 by omega) hd hd',e3,ih (p++[x]) m e4 hm',List.all_cons,hb]
  have:de t.kind dims x=(decide ((x.kids.length:Int)=bU t.kind)&&(be x.face&&cj x.face dims)):=rfl
  rw [this]
  cases decide ((x.kids.length:Int)=bU t.kind) with
  |false=>rw [Bool.not_false,ad];rfl
  |true=>
   rw [Bool.not_true,ac]
   cases be x.face with
   |false=>rw [Bool.not_false,ad];rfl
   |true=>
    rw [Bool.not_true,ac]
    cases cj x.face dims with
    |false=>rw [Bool.not_false,ad];rfl
    |true=>rw [Bool.not_true,ac];rfl
theorem Km {S:Type} (b c:Bool) (ret:Bool→Option S):ab b (ret c) (ret false)=ret (b&&c):=by
 cases b<;>rfl
def jR (vars dims:Int) (t:Tm):Bool:=
 if t.kind=1 then decide (t.r.length=0)&&(decide (0≤t.n)&&decide (vars<0∨t.n<vars))
   else if t.kind=2 then decide (t.r.length=0)&&iD t.name.data.toList
   else if t.kind=13∨t.kind=21∨t.kind=26 then a6 t.r&&cj t.r dims
   else if t.kind=14 then be t.r&&cj t.r dims
   else t.sys.all (de t.kind dims)&&decide (t.r.length=0)
theorem G_ (vars dims:Int) (t:Tm):iG vars dims t=((decide (dQ t.kind=t.kids.length)&&(decide (t.kind=1∨t.n=0)&&(decide (t.kind=2∨t.name.size=0)&&decide (bU t.kind=0→t.sys.length=0))))&&jR vars dims t):=by
 cases t;rfl
def QR (t:Tm):Prop:=aD t.kind∧aD t.n∧t.name.size<1073741824∧am t.r∧t.r.length<1073741824∧t.kids.length<1073741824∧t.sys.length<1073741824
theorem OkT.no {t:Tm} (h:OkT t):QR t:=by cases t;exact h.node
theorem OkT.ki {t x:Tm} (h:OkT t) (hx:x∈t.kids):OkT x:=by cases t;exact h.kid hx
theorem OkT.bi {t:Tm} {b:Br Tm} (h:OkT t) (hb:b∈t.sys):(am b.face∧b.face.length<1073741824∧b.kids.length<1073741824)∧ ∀t∈b.kids,OkT t:=by cases t;exact h.br hb
theorem Zr (hk:Fu k) {t:Tm} (ht:OkT t) {vars dims:Int} (hd:0≤dims) (hd':dims<9223372036854775808) (ret:Bool→Option S):vm k ret t vars dims k=ret (jR vars dims t):=by
 obtain ⟨o1,o2,o3,o4,o5,o6,o7⟩:=ht.no
 have hb:=fun b hb=>(ht.bi (b:=b) hb).1
 obtain ⟨q,hq⟩: ∃q,k=q+1:=⟨k-1,by have:4294967296≤k:=hk;omega⟩
 have: ∀j,j=q+1→vm k ret t vars dims j=ph k ret t vars dims (fun v109=>iy k ret t dims k v109):=by rintro j rfl;rfl
 rw [this k hq]
 have hl:=VO hk ret hd hd' (fun b h=>⟨(hb b h).1,(hb b h).2.1⟩) o7 t.sys [] k rfl (by have:4294967296≤k:=hk;omega)
 have hl:iy k ret t dims k 0=_:=hl
 simp only [ph,ah hk,Zk hk (show t.name.size<2147483648 by omega),nX hk o4 (show t.r.length<2147483648 by omega),rN hk o4 (show t.r.length<2147483648 by omega),Kl hk o4 (show t.r.length<4294967296 by omega) hd hd',hl,ny,Km]
 have hv:ab (decide (t.n≥0)) (ab (decide (vars<0)) (ret true) (ret (decide (t.n<vars)))) (ret false)=ret (decide (0≤t.n)&&decide (vars<0∨t.n<vars)):=by
  rw [aG,aG]
  by_cases h1:t.n≥0
  ·rw [if_pos h1,decide_eq_true (show 0≤t.n from h1),Bool.true_and]
   by_cases h2:vars<0
   ·rw [if_pos h2,decide_eq_true (.inl h2)]
   ·rw [if_neg h2];congr 1;rw [decide_eq_decide];omega
  ·rw [if_neg h1,decide_eq_false (show ¬0≤t.n from h1)];rfl
 rw [hv,Km]
 simp only [b8,beq_iff_eq]
 unfold jR
 by_cases c1:t.kind=1
 ·rw [if_pos c1,if_pos c1]
 ·rw [if_neg c1,if_neg c1]
  by_cases c2:t.kind=2
  ·rw [if_pos c2,if_pos c2]
  ·rw [if_neg c2,if_neg c2]
   by_cases c3:t.kind=13
   ·rw [if_pos c3,if_pos (.inl c3)]
   ·rw [if_neg c3]
    by_cases c4:t.kind=21
    ·rw [if_pos c4,if_pos (.inr (.inl c4))]
    ·rw [if_neg c4]
     by_cases c5:t.kind=26
     ·rw [if_pos c5,if_pos (.inr (.inr c5))]
     ·rw [if_neg c5,if_neg (show ¬ (t.kind=13∨t.kind=21∨t.kind=26) by omega)]
      by_cases c6:t.kind=14
      ·rw [if_pos c6,if_pos c6]
      ·rw [if_neg c6,if_neg c6]
theorem Zq (hk:Fu k) {t:Tm} (ht:OkT t) {vars dims:Int} (hd:0≤dims) (hd':dims<9223372036854775808) (ret:Bool→Option S):p4 k t vars dims ret=ret (iG vars dims t):=by
 have hq:(dQ t.kind==(t.kids.length:Int))=decide (dQ t.kind=t.kids.length):=by rw [Bool.eq_iff_iff];simp
 have hp:(bU t.kind==0)=decide (bU t.kind=0):=aY _
 simp only [p4,CW,ah hk,YR,JI,Zr hk ht hd hd',Af,hq,hp,aY,G_]
 have hsy:ab (decide (bU t.kind=0)) (ab (decide (((t.sys.length:Nat):Int)>0)) (ret false) (ret (jR vars dims t))) (ret (jR vars dims t))=ret (decide (bU t.kind=0→t.sys.length=0)&&jR vars dims t):=by
  rw [aG,aG]
  by_cases h1:bU t.kind=0
  ·rw [if_pos h1]
   by_cases h2:t.sys.length=0
   ·rw [if_neg (by omega),decide_eq_true (fun _=>h2)];rfl
   ·rw [if_pos (by omega),decide_eq_false (fun h=>h2 (h h1))];rfl
  ·rw [if_neg h1,decide_eq_true (fun h=>absurd h h1)];rfl
 simp only [hsy]
 have hk1: ∀n:Int,(t.kind==n)=decide (t.kind=n):=fun n=>by rw [Bool.eq_iff_iff];simp
 rw [hk1,hk1]
 generalize decide (bU t.kind=0→t.sys.length=0)=P
 generalize jR vars dims t=Q
 cases decide (dQ t.kind=t.kids.length) with
 |false=>rw [Bool.not_false,ad];rfl
 |true=>
  rw [Bool.not_true,ac,Bool.true_and]
  by_cases c1:t.kind=1
  ·rw [decide_eq_true c1,Bool.not_true,ac,decide_eq_true (p:=t.kind=1∨t.n=0) (.inl c1),Bool.true_and]
   by_cases c2:t.kind=2
   ·omega
   ·rw [decide_eq_false c2,Bool.not_false,ad]
    by_cases c3:t.name.size=0
    ·rw [decide_eq_true c3,Bool.not_true,ac,decide_eq_true (p:=t.kind=2∨t.name.size=0) (.inr c3),Bool.true_and]
    ·rw [decide_eq_false c3,Bool.not_false,ad,decide_eq_false (p:=t.kind=2∨t.name.size=0) (by omega)];rfl
  ·rw [decide_eq_false c1,Bool.not_false,ad]
   by_cases c4:t.n=0
   ·rw [decide_eq_true c4,Bool.not_true,ac,decide_eq_true (p:=t.kind=1∨t.n=0) (.inr c4),Bool.true_and]
    by_cases c2:t.kind=2
    ·rw [decide_eq_true c2,Bool.not_true,ac,decide_eq_true (p:=t.kind=2∨t.name.size=0) (.inl c2),Bool.true_and]
    ·rw [decide_eq_false c2,Bool.not_false,ad]
     by_cases c3:t.name.size=0
     ·rw [decide_eq_true c3,Bool.not_true,ac,decide_eq_true (p:=t.kind=2∨t.name.size=0) (.inr c3),Bool.true_and]
     ·rw [decide_eq_false c3,Bool.not_false,ad,decide_eq_false (p:=t.kind=2∨t.name.size=0) (by omega)];rfl
   ·rw [decide_eq_false c4,Bool.not_false,ad,decide_eq_false (p:=t.kind=1∨t.n=0) (by omega)];rfl
end Go.Proofs.YtapmagaejigpnaaGreatDoor
namespace Go.Proofs.YtapmagaejigpnaaGreatDoor
open Go PI
set_option linter.unusedVariables false
set_option linter.unusedSimpArgs false
set_option maxRecDepth 20000
variable {S:Type} {k:Nat}
abbrev Fd (k n:Nat):Prop:=4294967296+n≤k
theorem Fd.fu {n:Nat} (h:Fd k n):Fu k:=by have:4294967296+n≤k:=h;show 4294967296≤k;omega
theorem Fd.pos {n:Nat} (h:Fd k n): ∃q,k=q+1∧ ∀j,j+1≤n→Fd q j:=⟨k-1,by have:4294967296+n≤k:=h;omega,fun j hj=>by have:4294967296+n≤k:=h;show 4294967296+j≤k-1;omega⟩
theorem Fd.pos' {n:Nat} (h:Fd k n) (hn:1≤n): ∃q,k=q+1∧Fu q∧ ∀j,j+1≤n→Fd q j:=⟨k-1,by have:4294967296+n≤k:=h;omega,by have:4294967296+n≤k:=h;show 4294967296≤k-1;omega,fun j hj=>by have:4294967296+n≤k:=h;show 4294967296+j≤k-1;omega⟩
theorem cZ (t:Tm):1≤av t:=by cases t;rw [av];omega
theorem p_ (t:Tm):av t=max (bk t.kids) (bK t.sys)+1:=by cases t;rw [av];rfl
theorem BC (t:Tm):aF t=1+aR t.kids+a8 t.sys:=by cases t;rw [aF];rfl
theorem cY {t x:Tm} (h:x∈t.kids):av x+1≤av t:=by rw [p_ t];have:=DF h;omega
theorem cX {t:Tm} {b:Br Tm} {x:Tm} (hb:b∈t.sys) (h:x∈b.kids):av x+1≤av t:=by rw [p_ t];have:=DF h;have:=RB hb;omega
theorem eB {Q:Tm→Prop} (h: ∀t,(∀x∈t.kids,Q x)→(∀b∈t.sys,∀x∈b.kids,Q x)→Q t) (t:Tm):Q t:=j6 (fun kd n nm r ks sys h1 h2=>h (.mk kd n nm r ks sys) h1 h2) t
theorem p8 {p q:Prop} [Decidable p] [Decidable q] (h:p↔q):decide p=decide q:=decide_eq_decide.2 h
theorem Bz {α:Type} (b c:Bool) (x y:α):ab (!b) y (if c then x else y)=if b&&c then x else y:=by cases b<;>cases c<;>rfl
theorem gR {S:Type} (b c:Bool) (ret:Bool→Option S):ab (!b) (ret false) (ret c)=ret (b&&c):=by cases b<;>rfl
theorem zq {S:Type} (b c:Bool) (ret:Bool→Option S):(if b=true then ret c else ret false)=ret (b&&c):=by cases b<;>rfl
theorem bm {n:Int} (h1: -9223372036854775808≤n) (h2:n<9223372036854775808):IntKind.wrap .i64 n=n:=c8 h1 h2
section
variable {hd:Tm→Int→(Bool→Option S)→Option S} {c0:Int} {t:Tm} {Q:Tm→Bool}
theorem Vq (hk:Fu k) (ret:Bool→Option S) (rec1:Int→Int→Option S) (hc: -9223372036854775807≤c0) (hc':c0<9223372036854775808) {v more:Int} {x:Br Tm} (hQ: ∀y∈x.kids,∀g,hd y (c0-1) g=g (Q y)) (hl:x.kids.length<1073741824):
  ∀ (r p:List Tm) (m:Nat),x.kids=p++r→r.length<m→jO hd k ret rec1 c0 t v x more m (p.length:Int)=if r.all Q then rec1 (IntKind.wrap .i64 (v+1)) more else ret false:=by
 intro r
 induction r with
 |nil=>
  intro p m h hm
  obtain ⟨m,rfl,hm'⟩:=ak hm
  simp only [jO,tC,az h,ac];rfl
 |cons y r ih=>
  intro p m h hm
  obtain ⟨m,rfl,hm'⟩:=ak hm
  obtain ⟨e1,e2,e3,e4⟩:=ay h (by omega)
  have hy:=hQ y (by rw [h];simp)
  simp only [jO,tC,e1,ad,e2,Option.bind_some,ah hk,p5,CX,aI,bm (show-9223372036854775808≤c0-1 by omega) (by omega),hy,e3,ih (p++[y]) m e4 hm',Bz]
  rfl
theorem Vp (hk:Fu k) (ret:Bool→Option S) (hc: -9223372036854775807≤c0) (hc':c0<9223372036854775808) {more:Int} (hQ: ∀b∈t.sys,∀y∈b.kids,∀g,hd y (c0-1) g=g (Q y)) (hl:t.sys.length<1073741824) (hl': ∀b∈t.sys,b.kids.length<1073741824):
  ∀ (r p:List (Br Tm)) (m:Nat),t.sys=p++r→r.length<m→fW hd k ret c0 t m (p.length:Int) more=ret (r.all fun b=>b.kids.all Q):=by
 intro r
 induction r with
 |nil=>
  intro p m h hm
  obtain ⟨m,rfl,hm'⟩:=ak hm
  simp only [fW,pf,az h,ac];rfl
 |cons x r ih=>
  intro p m h hm
  obtain ⟨m,rfl,hm'⟩:=ak hm
  obtain ⟨e1,e2,e3,e4⟩:=ay h (by omega)
  have hx:x∈t.sys:=by rw [h];simp
  have hlx:=hl' x hx
  have:=Vq (t:=t) hk ret (fW hd k ret c0 t m) (v:=(p.length:Int)) (more:=more) hc hc' (hQ x hx) hlx x.kids [] k rfl (by have:4294967296≤k:=hk;omega)
  have this:jO hd k ret (fW hd k ret c0 t m) c0 t (p.length:Int) x more k 0=_:=this
  simp only [fW,pf,e1,ad,e2,Option.bind_some,this,e3,ih (p++[x]) m e4 hm',zq]
  rfl
theorem Vo (hk:Fu k) (ret:Bool→Option S) (hc: -9223372036854775807≤c0) (hc':c0<9223372036854775808) (hQ: ∀y∈t.kids,∀g,hd y (c0-1) g=g (Q y)) (hQ': ∀b∈t.sys,∀y∈b.kids,∀g,hd y (c0-1) g=g (Q y)) (ht:OkT t):
  ∀ (r p:List Tm) (m:Nat),t.kids=p++r→r.length<m→nq hd k ret c0 t m (p.length:Int)=ret (r.all Q&&t.sys.all fun b=>b.kids.all Q):=by
 obtain ⟨o1,o2,o3,o4,o5,o6,o7⟩:=ht.no
 intro r
 induction r with
 |nil=>
  intro p m h hm
  obtain ⟨m,rfl,hm'⟩:=ak hm
  have hs: ∀more:Int,fW hd k ret c0 t k 0 more=_:=fun more=>Vp hk ret hc hc' (more:=more) hQ' o7 (fun b hb=>(ht.bi hb).1.2.2) t.sys [] k rfl (by have:4294967296≤k:=hk;omega)
  simp only [nq,pe,az h,ac,hs]
  cases (t.kind==15)<;>rfl
 |cons y r ih=>
  intro p m h hm
  obtain ⟨m,rfl,hm'⟩:=ak hm
  obtain ⟨e1,e2,e3,e4⟩:=ay h (by omega)
  have hy:=hQ y (by rw [h];simp)
  simp only [nq,pe,e1,ad,e2,Option.bind_some,ah hk,nV,p5,CX,aI,bm (show-9223372036854775808≤c0-1 by omega) (by omega),hy,e3,ih (p++[y]) m e4 hm',gR,List.all_cons,Bool.and_assoc]
end
theorem DD {n:Int} (hn:0≤n): ∀ {l:List Tm},(l.all fun x=>decide ((av x:Int)≤n))=decide ((bk l:Int)≤n):=by
 intro l
 induction l with
 |nil=>rw [bk];simp [hn]
 |cons t l ih=>rw [List.all_cons,ih,bk,Bool.eq_iff_iff];simp;omega
theorem Rz {n:Int} (hn:0≤n): ∀ {l:List (Br Tm)},(l.all fun b=>b.kids.all fun x=>decide ((av x:Int)≤n))=decide ((bK l:Int)≤n):=by
 intro l
 induction l with
 |nil=>rw [bK];simp [hn]
 |cons b l ih=>rw [List.all_cons,ih,DD hn,bK,mq,Bool.eq_iff_iff];simp;omega
theorem ZR (t:Tm):OkT t→ ∀ {k:Nat} {left:Int} (ret:Bool→Option S),Fd k (av t)→ -4611686018427387904≤left→left<4611686018427387904→gC k t left ret=ret (decide ((av t:Int)≤left)):=by
 induction t using eB with
 |h t ih1 ih2=>
  intro ht k left ret hk h1 h2
  obtain ⟨q,rfl,hq,hf⟩:=hk.pos' (cZ t)
  simp only [gC,Mg,aG,aI,ah hq]
  by_cases h0:left>0
  ·rw [if_pos h0]
   have hQ: ∀y∈t.kids,∀g:Bool→Option S,gC q y (left-1) g=g (decide ((av y:Int)≤left-1)):=fun y hy g=>ih1 y hy (ht.ki hy) g (hf _ (cY hy)) (by omega) (by omega)
   have hQ': ∀b∈t.sys,∀y∈b.kids,∀g:Bool→Option S,gC q y (left-1) g=g (decide ((av y:Int)≤left-1)):=fun b hb y hy g=>ih2 b hb y hy ((ht.bi hb).2 y hy) g (hf _ (cX hb hy)) (by omega) (by omega)
   have:=Vo (Q:=fun y=>decide ((av y:Int)≤left-1)) hq ret (by omega) (by omega) hQ hQ' ht t.kids [] q rfl (by have:=ht.no.2.2.2.2.2.1;have:4294967296≤q:=hq;omega)
   simp only [yN,CU]
   refine Eq.trans this ?_
   rw [DD (by omega),Rz (by omega),p_]
   congr 1
   rw [Bool.eq_iff_iff];simp;omega
  ·rw [if_neg h0,decide_eq_false (by have:=cZ t;omega)]
section
variable {hd:Tm→Int→(Bool×Int→Option S)→Option S} {t:Tm}
def n7 (hd:Tm→Int→(Bool×Int→Option S)→Option S) (k:Nat) (y:Tm):Prop:= ∀ (c:Int) (g:Bool×Int→Option S),0≤c→c<4611686018427387904→
 ∃v,mn hd k y c g=g (decide ((aF y:Int)≤c),v)∧((aF y:Int)≤c→v=c-aF y)
theorem Vn (hk:Fu k) (ret:Bool×Int→Option S) (rec1:Int→Int→Int→Option S) {v more:Int} {x:Br Tm} (hQ: ∀y∈x.kids,n7 hd k y) (hl:x.kids.length<1073741824):
  ∀ (r p:List Tm) (m:Nat) (c:Int),0≤c→c<4611686018427387904→x.kids=p++r→r.length<m→
  ((aR r:Int)≤c→fU hd k ret rec1 t v x more m c (p.length:Int)=rec1 (c-aR r) (IntKind.wrap .i64 (v+1)) more)∧(¬ (aR r:Int)≤c→ ∃w,fU hd k ret rec1 t v x more m c (p.length:Int)=ret (false,w)):=by
 intro r
 induction r with
 |nil=>
  intro p m c h0 h1 h hm
  obtain ⟨m,rfl,hm'⟩:=ak hm
  simp only [fU,tA,az h,ac,aR]
  exact ⟨fun _=>by simp,fun h=>absurd h (by simpa using h0)⟩
 |cons y r ih=>
  intro p m c h0 h1 h hm
  obtain ⟨m,rfl,hm'⟩:=ak hm
  obtain ⟨e1,e2,e3,e4⟩:=ay h (by omega)
  have hy:=hQ y (by rw [h];simp)
  obtain ⟨w,hw,hw'⟩:=hy c (fun r1=>(fun r6:Bool×Int=>ab (!r6.1) (ret (false,r6.2)) (fU hd k ret rec1 t v x more m r6.2 (((p++[y]).length:Nat):Int))) (r1.1,r1.2)) h0 h1
  simp only [fU,tA,e1,ad,e2,Option.bind_some,ah hk,p7,CY,aI,e3,aR]
  rw [hw]
  by_cases hs:(aF y:Int)≤c
  ·have:=hw' hs
   subst this
   obtain ⟨i1,i2⟩:=ih (p++[y]) m (c-aF y) (by omega) (by omega) e4 hm'
   simp only [decide_eq_true hs,Bool.not_true,ac]
   refine ⟨fun h=> ?_,fun h=> ?_⟩
   ·rw [i1 (by omega)];congr 1;omega
   ·exact i2 (by omega)
  ·simp only [decide_eq_false hs,Bool.not_false,ad]
   exact ⟨fun h=>absurd h (by omega),fun _=>⟨w,rfl⟩⟩
theorem Vm (hk:Fu k) (ret:Bool×Int→Option S) {more:Int} (hQ: ∀b∈t.sys,∀y∈b.kids,n7 hd k y) (hl:t.sys.length<1073741824) (hl': ∀b∈t.sys,b.kids.length<1073741824):
  ∀ (r p:List (Br Tm)) (m:Nat) (c:Int),0≤c→c<4611686018427387904→t.sys=p++r→r.length<m→
  ((a8 r:Int)≤c→eN hd k ret t m c (p.length:Int) more=ret (true,c-a8 r))∧(¬ (a8 r:Int)≤c→ ∃w,eN hd k ret t m c (p.length:Int) more=ret (false,w)):=by
 intro r
 induction r with
 |nil=>
  intro p m c h0 h1 h hm
  obtain ⟨m,rfl,hm'⟩:=ak hm
  simp only [eN,pb,az h,ac,a8]
  exact ⟨fun _=>by simp,fun h=>absurd h (by simpa using h0)⟩
 |cons x r ih=>
  intro p m c h0 h1 h hm
  obtain ⟨m,rfl,hm'⟩:=ak hm
  obtain ⟨e1,e2,e3,e4⟩:=ay h (by omega)
  have hx:x∈t.sys:=by rw [h];simp
  have hlx:=hl' x hx
  have:=Vn (t:=t) hk ret (eN hd k ret t m) (v:=(p.length:Int)) (more:=more) (hQ x hx) hlx x.kids [] k c h0 h1 rfl (by have:4294967296≤k:=hk;omega)
  simp only [eN,pb,e1,ad,e2,Option.bind_some,a8,nY]
  by_cases hs:(aR x.kids:Int)≤c
  ·have e:fU hd k ret (eN hd k ret t m) t (p.length:Int) x more k c 0=_:=this.1 hs
   obtain ⟨i1,i2⟩:=ih (p++[x]) m (c-aR x.kids) (by omega) (by omega) e4 hm'
   rw [e,e3]
   refine ⟨fun h=> ?_,fun h=>i2 (by omega)⟩
   rw [i1 (by omega)];congr 2;omega
  ·obtain ⟨w,e⟩:=this.2 hs
   have e:fU hd k ret (eN hd k ret t m) t (p.length:Int) x more k c 0=_:=e
   rw [e]
   exact ⟨fun h=>absurd h (by omega),fun _=>⟨w,rfl⟩⟩
theorem Vl (hk:Fu k) (ret:Bool×Int→Option S) (hQ: ∀y∈t.kids,n7 hd k y) (hQ': ∀b∈t.sys,∀y∈b.kids,n7 hd k y) (ht:OkT t):
  ∀ (r p:List Tm) (m:Nat) (c:Int),0≤c→c<4611686018427387904→t.kids=p++r→r.length<m→
  ∃w,lb hd k ret t m c (p.length:Int)=ret (decide (((aR r+a8 t.sys:Nat):Int)≤c),w)∧(((aR r+a8 t.sys:Nat):Int)≤c→w=c-((aR r+a8 t.sys:Nat):Int)):=by
 obtain ⟨o1,o2,o3,o4,o5,o6,o7⟩:=ht.no
 intro r
 induction r with
 |nil=>
  intro p m c h0 h1 h hm
  obtain ⟨m,rfl,hm'⟩:=ak hm
  have hs: ∀more:Int,_:=fun more=>Vm hk ret (more:=more) hQ' o7 (fun b hb=>(ht.bi hb).1.2.2) t.sys [] k c h0 h1 rfl (by have:4294967296≤k:=hk;omega)
  have key: ∀more:Int,∃w,eN hd k ret t k c 0 more=ret (decide (((a8 t.sys:Nat):Int)≤c),w)∧(((a8 t.sys:Nat):Int)≤c→w=c-((a8 t.sys:Nat):Int)):=fun more=>by
   by_cases hc:(a8 t.sys:Int)≤c
   ·exact ⟨_,((hs more).1 hc).trans (by rw [decide_eq_true hc]),fun _=>rfl⟩
   ·obtain ⟨w,e⟩:=(hs more).2 hc
    exact ⟨w,Eq.trans e (by rw [decide_eq_false hc]),fun h=>absurd h hc⟩
  have hz:aR []+a8 t.sys=a8 t.sys:=by rw [aR,Nat.zero_add]
  rw [hz]
  simp only [lb,pa,az h,ac]
  cases (t.kind==15) with
  |true=>exact key 1
  |false=>exact key 0
 |cons y r ih=>
  intro p m c h0 h1 h hm
  obtain ⟨m,rfl,hm'⟩:=ak hm
  obtain ⟨e1,e2,e3,e4⟩:=ay h (by omega)
  have hy:=hQ y (by rw [h];simp)
  obtain ⟨w,hw,hw'⟩:=hy c (fun r1=>(fun r3:Bool×Int=>ab (!r3.1) (ret (false,r3.2)) (lb hd k ret t m r3.2 (((p++[y]).length:Nat):Int))) (r1.1,r1.2)) h0 h1
  have hz:aR (y::r)+a8 t.sys=aF y+aR r+a8 t.sys:=by rw [aR]
  rw [hz]
  simp only [lb,pa,e1,ad,e2,Option.bind_some,ah hk,nV,p7,CY,aI,e3]
  rw [hw]
  by_cases hs:(aF y:Int)≤c
  ·have:=hw' hs
   subst this
   obtain ⟨u,i1,i2⟩:=ih (p++[y]) m (c-aF y) (by omega) (by omega) e4 hm'
   simp only [decide_eq_true hs,Bool.not_true,ac]
   refine ⟨u,i1.trans ?_,fun h=> ?_⟩
   ·congr 2;exact p8 (by omega)
   ·rw [i2 (by omega)];omega
  ·simp only [decide_eq_false hs,Bool.not_false,ad]
   exact ⟨w,by rw [decide_eq_false (by omega)],fun h=>absurd h (by omega)⟩
end
theorem Y4 (t:Tm):OkT t→ ∀ {k:Nat} (c:Int) (ret:Bool×Int→Option S),Fd k (av t)→0≤c→c<4611686018427387904→
  ∃w,ee k t c ret=ret (decide ((aF t:Int)-1≤c),w)∧((aF t:Int)-1≤c→w=c-((aF t:Int)-1)):=by
 induction t using eB with
 |h t ih1 ih2=>
  intro ht k c ret hk h1 h2
  obtain ⟨q,rfl,hq,hf⟩:=hk.pos' (cZ t)
  have cnt: ∀y,(∀ {k:Nat} (c:Int) (ret:Bool×Int→Option S),Fd k (av y)→0≤c→c<4611686018427387904→ ∃w,ee k y c ret=ret (decide ((aF y:Int)-1≤c),w)∧((aF y:Int)-1≤c→w=c-((aF y:Int)-1)))→
    Fd q (av y)→n7 (S:=S) (ee q) q y:=by
   intro y hy hfy c g h0 h1
   simp only [mn,CZ,aI,bm (show-9223372036854775808≤c-1 by omega) (by omega),aG]
   have:=Kr y
   by_cases hc:c-1≥0
   ·rw [if_pos hc]
    obtain ⟨w,e,e'⟩:=hy (c-1) (fun r1=>g (r1.1,r1.2)) hfy (by omega) (by omega)
    refine ⟨w,e.trans ?_,fun h=> ?_⟩
    ·congr 2;exact p8 (by omega)
    ·rw [e' (by omega)];omega
   ·rw [if_neg hc]
    exact ⟨c-1,by rw [decide_eq_false (by omega)],fun h=>by omega⟩
  obtain ⟨w,e,e'⟩:=Vl hq ret (fun y hy=>cnt y (fun c ret=>ih1 y hy (ht.ki hy) c ret) (hf _ (cY hy))) (fun b hb y hy=>cnt y (fun c ret=>ih2 b hb y hy ((ht.bi hb).2 y hy) c ret) (hf _ (cX hb hy))) ht t.kids [] q c h1 h2 rfl (by have:=ht.no.2.2.2.2.2.1;have:4294967296≤q:=hq;omega)
  simp only [ee,CS]
  have hz:=BC t
  refine ⟨w,Eq.trans e ?_,fun h=> ?_⟩
  ·congr 2;exact p8 (by omega)
  ·rw [e' (by omega)];omega
theorem ZT {t:Tm} (ht:OkT t) (hk:Fd k (av t)) {most:Int} (h0:0<most) (h1:most<4611686018427387904) (ret:Bool→Option S):uI k t most ret=ret (decide ((aF t:Int)≤most)):=by
 simp only [uI,Mi,ah hk.fu,mn,CZ,aI,bm (show-9223372036854775808≤most-1 by omega) (by omega),aG]
 rw [if_pos (by omega)]
 obtain ⟨w,e,_⟩:=Y4 t ht (most-1) (fun r1=>ret (r1.1,r1.2).1) hk (by omega) (by omega)
 refine Eq.trans e ?_
 show ret (decide _)=_
 congr 1;exact p8 (by omega)
def VD (vars dims:Int) (n:Nat):Prop:= -4611686018427387904≤vars∧vars+n<4611686018427387904∧0≤dims∧dims+n<4611686018427387904
section
variable {hd:Tm→Int→Int→Bool→(Bool→Option S)→Option S} {vars dims:Int} {bd:Bool} {t:Tm}
theorem JL (hv:VD vars dims 1) {v d:Int} (h1:0≤v∧v≤1) (h2:0≤d∧d≤1) (y:Tm) (g:Bool→Option S):pZ hd k y v d vars dims bd g=hd y (dn vars v) (dims+d) bd g:=by
 unfold VD at hv
 simp only [pZ,Mf,aI,aG,bm (n:=vars+0) (by omega) (by omega),bm (n:=vars+v) (by omega) (by omega),bm (n:=dims+d) (by omega) (by omega)]
 unfold dn
 split
 ·rw [Int.add_zero]
 ·rfl
theorem Vk (hk:Fu k) (ret:Bool→Option S) (rec1:Int→Int→Option S) (hv:VD vars dims 1) {v more:Int} {x:Br Tm} (hm:more=ar t.kind) (hQ: ∀y∈x.kids,∀g,hd y vars (dims+more) bd g=g (bH bd vars (dims+more) y)) (hl:x.kids.length<1073741824):
  ∀ (r p:List Tm) (m:Nat),x.kids=p++r→r.length<m→jN hd k ret rec1 vars dims bd t v x more m (p.length:Int)=if da bd vars dims t.kind r then rec1 (IntKind.wrap .i64 (v+1)) more else ret false:=by
 subst hm
 intro r
 induction r with
 |nil=>
  intro p m h hm
  obtain ⟨m,rfl,hm'⟩:=ak hm
  simp only [jN,tB,az h,ac];rfl
 |cons y r ih=>
  intro p m h hm
  obtain ⟨m,rfl,hm'⟩:=ak hm
  obtain ⟨e1,e2,e3,e4⟩:=ay h (by omega)
  have hy:=hQ y (by rw [h];simp)
  have h0:dn vars 0=vars:=by unfold dn;split<;>omega
  simp only [jN,tB,e1,ad,e2,Option.bind_some,ah hk,aI,JL hv (show (0:Int)≤0∧(0:Int)≤1 by omega) (d4 t.kind),h0,hy,e3,ih (p++[y]) m e4 hm',Bz]
  rw [da]
theorem Vj (hk:Fu k) (ret:Bool→Option S) (hv:VD vars dims 1) {more:Int} (hm:more=ar t.kind) (hQ: ∀b∈t.sys,∀y∈b.kids,∀g,hd y vars (dims+more) bd g=g (bH bd vars (dims+more) y)) (hl:t.sys.length<1073741824) (hl': ∀b∈t.sys,b.kids.length<1073741824):
  ∀ (r p:List (Br Tm)) (m:Nat),t.sys=p++r→r.length<m→fV hd k ret vars dims bd t m (p.length:Int) more=ret (cV bd vars dims t.kind r):=by
 intro r
 induction r with
 |nil=>
  intro p m h hm
  obtain ⟨m,rfl,hm'⟩:=ak hm
  simp only [fV,pd,az h,ac,cV]
 |cons x r ih=>
  intro p m h hml
  obtain ⟨m,rfl,hm'⟩:=ak hml
  obtain ⟨e1,e2,e3,e4⟩:=ay h (by omega)
  have hx:x∈t.sys:=by rw [h];simp
  have hlx:=hl' x hx
  have:=Vk (t:=t) (bd:=bd) hk ret (fV hd k ret vars dims bd t m) hv (v:=(p.length:Int)) hm (hQ x hx) hlx x.kids [] k rfl (by have:4294967296≤k:=hk;omega)
  have this:jN hd k ret (fV hd k ret vars dims bd t m) vars dims bd t (p.length:Int) x more k 0=_:=this
  simp only [fV,pd,e1,ad,e2,Option.bind_some,this,e3,ih (p++[x]) m e4 hm']
  have ea:cV bd vars dims t.kind (x::r)=(da bd vars dims t.kind x.kids&&cV bd vars dims t.kind r):=by cases x;rw [cV,ou]
  rw [ea,zq]
theorem Vi (hk:Fu k) (ret:Bool→Option S) (hv:VD vars dims 1) (hQ: ∀y∈t.kids,∀v d,0≤v∧v≤1→0≤d∧d≤1→ ∀g,hd y (dn vars v) (dims+d) bd g=g (bH bd (dn vars v) (dims+d) y)) (hQ': ∀b∈t.sys,∀y∈b.kids,∀g,hd y vars (dims+ar t.kind) bd g=g (bH bd vars (dims+ar t.kind) y)) (ht:OkT t):
  ∀ (r p:List Tm) (m:Nat),t.kids=p++r→r.length<m→lc hd k ret vars dims bd t m (p.length:Int)=ret (c_ bd vars dims t.kind p.length r&&cV bd vars dims t.kind t.sys):=by
 obtain ⟨o1,o2,o3,o4,o5,o6,o7⟩:=ht.no
 intro r
 induction r with
 |nil=>
  intro p m h hm
  obtain ⟨m,rfl,hm'⟩:=ak hm
  have hs:fV hd k ret vars dims bd t k 0 (ar t.kind)=_:=Vj hk ret hv rfl hQ' o7 (fun b hb=>(ht.bi hb).1.2.2) t.sys [] k rfl (by have:4294967296≤k:=hk;omega)
  simp only [lc,pc,az h,ac]
  rw [c_,Bool.true_and,←hs]
  unfold ar
  rw [b8]
  by_cases h15:t.kind=15
  ·rw [if_pos h15,if_pos (by rw [h15];rfl)]
  ·rw [if_neg h15,if_neg (by rw [beq_iff_eq];exact h15)]
 |cons y r ih=>
  intro p m h hm
  obtain ⟨m,rfl,hm'⟩:=ak hm
  obtain ⟨e1,e2,e3,e4⟩:=ay h (by omega)
  have b1:=tF t.kind p.length
  have b2:=i_ t.kind p.length
  have hy:=hQ y (by rw [h];simp) (dw t.kind p.length) (bM t.kind p.length) b1 b2
  simp only [lc,pc,e1,ad,e2,Option.bind_some,ah hk,nV,aI,JL hv b1 b2,hy,e3,ih (p++[y]) m e4 hm',gR]
  rw [c_,show (p++[y]).length=p.length+1 by simp,Bool.and_assoc]
end
theorem Db (bd:Bool) (vars dims:Int) (t:Tm):bH bd vars dims t=(!(bd&&decide (dims>24))&&(iG vars dims t&&(c_ bd vars dims t.kind 0 t.kids&&cV bd vars dims t.kind t.sys))):=by cases t;rw [bH];rfl
theorem Mx {vars v:Int} (h:0≤v∧v≤1):vars≤dn vars v∧dn vars v≤vars+1:=by unfold dn;split<;>omega
theorem YZ (t:Tm):OkT t→ ∀ {k:Nat} {vars dims:Int} {bd:Bool} (ret:Bool→Option S),Fd k (av t)→VD vars dims (av t)→eJ k t vars dims bd ret=ret (bH bd vars dims t):=by
 induction t using eB with
 |h t ih1 ih2=>
  intro ht k vars dims bd ret hk hv
  obtain ⟨q,rfl,hq,hf⟩:=hk.pos' (cZ t)
  have hp:=cZ t
  have hv':=hv
  unfold VD at hv'
  have hv1:VD vars dims 1:=by unfold VD;omega
  have hm:=d4 t.kind
  have hQ: ∀y∈t.kids,∀v d,0≤v∧v≤1→0≤d∧d≤1→ ∀g:Bool→Option S,eJ q y (dn vars v) (dims+d) bd g=g (bH bd (dn vars v) (dims+d) y):=fun y hy v d h1 h2 g=>ih1 y hy (ht.ki hy) g (hf _ (cY hy)) (by
   have:=cY hy;have:=Mx (vars:=vars) h1;unfold VD;omega)
  have hQ': ∀b∈t.sys,∀y∈b.kids,∀g:Bool→Option S,eJ q y vars (dims+ar t.kind) bd g=g (bH bd vars (dims+ar t.kind) y):=fun b hb y hy g=>ih2 b hb y hy ((ht.bi hb).2 y hy) g (hf _ (cX hb hy)) (by
   have:=cX hb hy;unfold VD;omega)
  have:=Vi (bd:=bd) hq ret hv1 hQ hQ' ht t.kids [] q rfl (by have:=ht.no.2.2.2.2.2.1;have:4294967296≤q:=hq;omega)
  have this:lc (eJ q) q ret vars dims bd t q 0=_:=this
  simp only [eJ,Me,aI,ah hq,Zq hq ht (show 0≤dims by omega) (show dims<9223372036854775808 by omega),uG,CT,this]
  rw [Db]
  cases bd with
  |true=>
   rw [ad,aG,Bool.true_and]
   by_cases h24:dims>24
   ·rw [if_pos h24,decide_eq_true h24];rfl
   ·rw [if_neg h24,decide_eq_false h24]
    cases iG vars dims t<;>rfl
  |false=>
   rw [ac]
   cases iG vars dims t<;>rfl
theorem ZS {t:Tm} (ht:OkT t) (hk:Fd k (av t)) (ret:Int→Option S):p6 k t ret=ret (if av t>200 then 62 else if aF t>20000 then 221 else 0):=by
 simp only [p6,Mh,aI,ZR t ht _ hk (show (-4611686018427387904:Int)≤200 by omega) (show (200:Int)<4611686018427387904 by omega),ah hk.fu,ZT ht hk (show (0:Int)<20000 by omega) (show (20000:Int)<4611686018427387904 by omega)]
 by_cases h1:av t>200
 ·rw [if_pos h1,decide_eq_false (by omega)];rfl
 ·rw [if_neg h1,decide_eq_true (by omega),Bool.not_true,ac]
  by_cases h2:aF t>20000
  ·rw [if_pos h2,decide_eq_false (by omega)];rfl
  ·rw [if_neg h2,decide_eq_true (by omega)];rfl
theorem rH {t:Tm} (ht:OkT t) (hk:Fd k (av t)) (hdep:av t<1099511627776) (ret:Int→Option S):jj k t ret=ret (cH t):=by
 simp only [jj,Mb,aI,ah hk.fu,ZS ht hk,YZ t ht _ hk (show VD (-1) 24 (av t) by unfold VD;omega),aY]
 unfold cH
 by_cases h1:av t>200
 ·rw [if_pos h1,if_pos h1];rfl
 ·rw [if_neg h1,if_neg h1]
  by_cases h2:aF t>20000
  ·rw [if_pos h2,if_pos h2];rfl
  ·rw [if_neg h2,if_neg h2,decide_eq_true rfl,Bool.not_true,ac]
   cases bH false (-1) 24 t<;>rfl
end Go.Proofs.YtapmagaejigpnaaGreatDoor
