/- Part 7 of a proof: the sources, with their names and remarks, lie in wip/. -/
import Derived.Test.YtapmagaejigpnaaGreatDoorX6
namespace Go.Proofs.YtapmagaejigpnaaGreatDoor
open Go PI
set_option linter.unusedVariables false
set_option maxRecDepth 100000
noncomputable section
def Ke {S:Type} (k:Nat):Rw S:=ag su xn fun s κ=>aa k (nx k s) (ar κ)
def Qp {S:Type} (k:Nat):Fx S:=fp 7 [(187,yg k)] [] k Tryz.f211 0
theorem Vo {S:Type} (o:Obj) (ho:af o) (k:Nat):Tl o 211 (Ke k:Rw S):=ai (Qp k) ⟨A7 o ho k,trivial⟩ Tryz.func211 (by kernel_rfl) fun s κ x h=>Eq.trans (by kernel_rfl) (aj h)
def CN {S:Type} (k:Nat):Rw S:=ag l9 xn fun c κ=>aa k (rn k c) (ar κ)
def Qq {S:Type} (k:Nat):Fx S:=fp 11 [(211,Ke k)] [] k Tryz.f184 0
theorem Gp {S:Type} (o:Obj) (ho:af o) (k:Nat):Tl o 184 (CN k:Rw S):=ai (Qq k) ⟨Vo o ho k,trivial⟩ Tryz.func184 (by kernel_rfl) fun c κ x h=>Eq.trans (by kernel_rfl) (aj h)
def Kf {S:Type} (k:Nat):Rw S:=ag sx xn fun a b κ=>aa k (wd k a b) (ar κ)
def Qr {S:Type} (k:Nat):Fx S:=fp 23 [] [] k Tryz.f212 0
theorem Vp {S:Type} (o:Obj) (ho:af o) (k:Nat):Tl o 212 (Kf k:Rw S):=ai (Qr k) trivial Tryz.func212 (by kernel_rfl) fun a b κ x h=>Eq.trans (by kernel_rfl) (aj h)
def Kg {S:Type} (k:Nat):Rw S:=ag HG xn fun l c κ=>aa k (wh k l c) (ar κ)
def zo {S:Type} (k:Nat):Fx S:=fp 26 [(212,Kf k)] [(2,aS [0,3,5] [(3,2)],ap 4 5)] k Tryz.f185 0
def Ie (c:Cl) (l:List Cl) (i5:Int):St UU:=⟨[(0,(sC l)),(3,(pt 3)),(5,(iI i5))],[(3,bC c)],[],[]⟩
section
variable {S:Type} (k:Nat) (l:List Cl) (c:Cl) (κ:Out UU→Option S)
theorem SI: ∀n i5,(zo k).lp κ 2 [] n (Ie c l i5)=om k (ar κ) c l n i5:=ci (uM k (ar κ) c l) rfl (fun _=>rfl) fun r i5=>by kernel_rfl
end
theorem Vq {S:Type} (o:Obj) (ho:af o) (k:Nat):Tl o 185 (Kg k:Rw S):=ai (zo k) ⟨Vp o ho k,trivial⟩ Tryz.func185 (by kernel_rfl) fun l c κ x h=>Eq.trans (b:=EI k (ar κ) (fun i5=>(zo k).lp κ 2 [] k (Ie c l i5)) l c) (by kernel_rfl) (Eq.trans (by simp only [SI];rfl) (aj h))
def Kh {S:Type} (k:Nat):Rw S:=ag sx xn fun a b κ=>aa k (we k a b) (ar κ)
def Qs {S:Type} (k:Nat):Fx S:=fp 24 [] [] k Tryz.f186 0
theorem Vr {S:Type} (o:Obj) (ho:af o) (k:Nat):Tl o 186 (Kh k:Rw S):=ai (Qs k) trivial Tryz.func186 (by kernel_rfl) fun a b κ x h=>Eq.trans (by kernel_rfl) (aj h)
def k_ {S:Type} (k:Nat):Rw S:=ag dK xn fun l κ=>aa k (hJ k l) (aq κ)
def lu {S:Type} (k:Nat):Fx S:=fp 84 [(184,CN k),(185,Kg k),(186,Kh k)] [(2,aS [0,4] [],ap 4 5),(8,⟨[(0,.none),(5,some (100005,false)),(6,.none)],[]⟩,ap 6 23),(12,⟨[(0,.none),(5,some (100005,false)),(6,.none),(7,.none)],[]⟩,ap 14 3223)] k Tryz.f136 0
def Ca (l:List Cl) (i4:Int):St UU:=⟨[(0,(sC l)),(4,(iI i4))],[],[],[]⟩
def sK (l:List Cl) (out5:List Cl) (i6:Int):St UU:=⟨[(0,(sC l)),(5,(.own 100005 0)),(6,(iI i6))],[],[(100005,⟨0,ET.C,out5⟩)],[(100005,.app)]⟩
def If (l out5:List Cl) (i6:Int) (v7:Int):St UU:=⟨[(0,(sC l)),(5,(.own 100005 0)),(6,(iI i6)),(7,(iI v7))],[],[(100005,⟨0,ET.C,out5⟩)],[(100005,.app)]⟩
section
variable {S:Type} (k:Nat) (l:List Cl) (κ:Out UU→Option S)
theorem SL (out5 i6 κ1): ∀n v7,(lu k).lp κ 12 [κ1] n (If l out5 i6 v7)=mi k (aq κ) (fun out5 i6=>κ1 (sK l out5 i6)) l out5 i6 n v7:=ci (uL k (aq κ) l out5 i6 (fun out5 i6=>κ1 (sK l out5 i6))) rfl (fun _=>rfl) fun r v7=>by kernel_rfl
theorem SK: ∀n out5 i6,(lu k).lp κ 8 [] n (sK l out5 i6)=jt k (aq κ) l n out5 i6:=aP (fun own=>qi k (aq κ) l (fun out5 i6 v7=>mi k (aq κ) own l out5 i6 k v7) own) rfl (fun _=>rfl) fun r out5 i6=>Eq.trans (b:=qi k (aq κ) l (fun out5 i6 v7=>(lu k).lp κ 12 [r] k (If l out5 i6 v7)) (fun out5 i6=>r (sK l out5 i6)) out5 i6) (by kernel_rfl) (by simp only [SL])
theorem SJ: ∀n i4,(lu k).lp κ 2 [] n (Ca l i4)=ol k (aq κ) l n i4:=ci (fun own=>qh k (aq κ) l (fun out5 i6=>jt k (aq κ) l k out5 i6) own) rfl (fun _=>rfl) fun r i4=>Eq.trans (b:=qh k (aq κ) l (fun out5 i6=>(lu k).lp κ 8 [] k (sK l out5 i6)) (fun i4=>r (Ca l i4)) i4) (by kernel_rfl) (by simp only [SK])
end
theorem lU {S:Type} (o:Obj) (ho:af o) (k:Nat):Tl o 136 (k_ k:Rw S):=ai (lu k) ⟨Gp o ho k,Vq o ho k,Vr o ho k,trivial⟩ Tryz.func136 (by kernel_rfl) fun l κ x h=>Eq.trans (b:=EH k (aq κ) (fun i4=>(lu k).lp κ 2 [] k (Ca l i4)) l) (by kernel_rfl) (Eq.trans (by simp only [SJ];rfl) (aj h))
def iA {S:Type} (k:Nat):Rw S:=ag dK xn fun f κ=>aa k (dU k f) (ar κ)
def Qt {S:Type} (k:Nat):Fx S:=fp 17 [(24,yf k),(136,k_ k)] [] k Tryz.f88 0
theorem jh {S:Type} (o:Obj) (ho:af o) (k:Nat):Tl o 88 (iA k:Rw S):=ai (Qt k) ⟨A6 o ho k,lU o ho k,trivial⟩ Tryz.func88 (by kernel_rfl) fun f κ x h=>Eq.trans (by kernel_rfl) (aj h)
def la {S:Type} (k:Nat):Rw S:=ag kC xn fun s i κ=>aa k (dH k s i) (ar κ)
def Qu {S:Type} (k:Nat):Fx S:=fp 20 [(187,yg k)] [] k Tryz.f137 0
theorem lV {S:Type} (o:Obj) (ho:af o) (k:Nat):Tl o 137 (la k:Rw S):=ai (Qu k) ⟨A7 o ho k,trivial⟩ Tryz.func137 (by kernel_rfl) fun s i κ x h=>Eq.trans (by kernel_rfl) (aj h)
def mJ {S:Type} (k:Nat):Rw S:=ag Yf xn fun l κ=>aa k (g_ k l) (bQ κ)
def zp {S:Type} (k:Nat):Fx S:=fp 20 [(187,yg k)] [(3,aS [0,3,4] [],ap 5 11)] k Tryz.f228 0
def Ig (l:List Int) (v3 i4:Int):St UU:=⟨[(0,(lg l .none)),(3,(iI v3)),(4,(iI i4))],[],[],[]⟩
section
variable {S:Type} (k:Nat) (l:List Int) (κ:Out UU→Option S)
theorem SM: ∀n v3 i4,(zp k).lp κ 3 [] n (Ig l v3 i4)=og k (bQ κ) l n v3 i4:=aP (uH k (bQ κ) l) rfl (fun _=>rfl) fun r v3 i4=>by kernel_rfl
end
theorem nJ {S:Type} (o:Obj) (ho:af o) (k:Nat):Tl o 228 (mJ k:Rw S):=ai (zp k) ⟨A7 o ho k,trivial⟩ Tryz.func228 (by kernel_rfl) fun l κ x h=>Eq.trans (b:=ED k (bQ κ) (fun v3 i4=>(zp k).lp κ 3 [] k (Ig l v3 i4)) l) (by kernel_rfl) (Eq.trans (by simp only [SM];rfl) (aj h))
def CO {S:Type} (k:Nat):Rw S:=ag dK xn fun f κ=>aa k (rq k f) (bQ κ)
def pM {S:Type} (k:Nat):Fx S:=fp 43 [(137,la k),(228,mJ k)] [(3,⟨[(0,.none),(3,some (100003,true)),(4,.none)],[]⟩,ap 5 11),(7,⟨[(0,.none),(3,some (100003,true)),(4,.none),(5,.none),(6,.none)],[]⟩,ap 13 2635)] k Tryz.f210 0
def sL (f:List Cl) (l3:List Int) (i4:Int):St UU:=⟨[(0,(sC f)),(3,(.own 100003 0)),(4,(iI i4))],[],[(100003,⟨0,ET.I,l3⟩)],[(100003,.wr)]⟩
def Ih (f:List Cl) (l3:List Int) (i4:Int) (v5:Bool) (v6:Int):St UU:=⟨[(0,(sC f)),(3,(.own 100003 0)),(4,(iI i4)),(5,(.bool v5)),(6,(iI v6))],[],[(100003,⟨0,ET.I,l3⟩)],[(100003,.wr)]⟩
section
variable {S:Type} (k:Nat) (f:List Cl) (κ:Out UU→Option S)
theorem SO (l3 i4 κ0): ∀n v5 v6,(pM k).lp κ 7 [κ0] n (Ih f l3 i4 v5 v6)=mj k (bQ κ) (fun l3 i4=>κ0 (sL f l3 i4)) f l3 i4 n v5 v6:=aP (uO k (bQ κ) f l3 i4 (fun l3 i4=>κ0 (sL f l3 i4))) rfl (fun _=>rfl) fun r v5 v6=>by kernel_rfl
theorem SN: ∀n l3 i4,(pM k).lp κ 3 [] n (sL f l3 i4)=kN k (bQ κ) f n l3 i4:=aP (fun own=>qj k (bQ κ) f (fun l3 i4 v5 v6=>mj k (bQ κ) own f l3 i4 k v5 v6) own) rfl (fun _=>rfl) fun r l3 i4=>Eq.trans (b:=qj k (bQ κ) f (fun l3 i4 v5 v6=>(pM k).lp κ 7 [r] k (Ih f l3 i4 v5 v6)) (fun l3 i4=>r (sL f l3 i4)) l3 i4) (by kernel_rfl) (by simp only [SO])
end
theorem Gq {S:Type} (o:Obj) (ho:af o) (k:Nat):Tl o 210 (CO k:Rw S):=ai (pM k) ⟨lV o ho k,nJ o ho k,trivial⟩ Tryz.func210 (by kernel_rfl) fun f κ x h=>Eq.trans (b:=EK k (bQ κ) (fun l3 i4=>(pM k).lp κ 3 [] k (sL f l3 i4)) f) (by kernel_rfl) (Eq.trans (by simp only [SN];rfl) (aj h))
def mK {S:Type} (k:Nat):Rw S:=ag su xn fun s κ=>aa k (g9 k s) (yc κ)
def zq {S:Type} (k:Nat):Fx S:=fx 17 (fun _=>[]) (fun _=>false) [(137,la k)] [(3,⟨[(0,.none),(3,some (100003,true)),(4,.none)],[]⟩,ap 5 11)] k Tryz.f209 false [true] 0
def Ij (s:Int) (out3:List Int) (i4:Int):St UU:=⟨[(0,(iU s)),(3,(.own 100003 0)),(4,(iI i4))],[],[(100003,⟨0,ET.I,out3⟩)],[(100003,.wr)]⟩
section
variable {S:Type} (k:Nat) (s:Int) (κ:Out UU→Option S)
theorem SR: ∀n out3 i4,(zq k).lp κ 3 [] n (Ij s out3 i4)=oe k (yc κ) s n out3 i4:=aP (uG k (yc κ) s) rfl (fun _=>rfl) fun r out3 i4=>by kernel_rfl
end
theorem nL {S:Type} (o:Obj) (ho:af o) (k:Nat):Tl o 209 (mK k:Rw S):=ai (zq k) ⟨lV o ho k,trivial⟩ Tryz.func209 (by kernel_rfl) fun s κ x h=>Eq.trans (b:=EC k (yc κ) (fun out3 i4=>(zq k).lp κ 3 [] k (Ij s out3 i4)) s) (by kernel_rfl) (Eq.trans (by simp only [SR];rfl) (aj h))
def Kj {S:Type} (k:Nat):Rw S:=ag BL xn fun f dims κ=>aa k (rz k f dims) (ar κ)
def Qw {S:Type} (k:Nat):Fx S:=fp 22 [(209,mK k),(210,CO k)] [] k Tryz.f181 0
theorem Vt {S:Type} (o:Obj) (ho:af o) (k:Nat):Tl o 181 (Kj k:Rw S):=ai (Qw k) ⟨nL o ho k,Gq o ho k,trivial⟩ Tryz.func181 (by kernel_rfl) fun f dims κ x h=>Eq.trans (by kernel_rfl) (aj h)
def yh {S:Type} (k:Nat):Rw S:=ag Hx xn fun kind kid κ=>aa k (nA k kind kid) (jF κ)
def pN {S:Type} (k:Nat):Fx S:=fp 44 [] [(1000003,aS [0,1] [],ap 2 3),(1000005,aS [0,1] [],ap 3 7)] k Tryz.f182 0
def Ik (kind kid:Int):St UU:=⟨[(0,(iI kind)),(1,(iI kid))],[],[],[]⟩
def Il (kind kid:Int):St UU:=⟨[(0,(iI kind)),(1,(iI kid))],[],[],[]⟩
section
variable {S:Type} (k:Nat) (kind kid:Int) (κ:Out UU→Option S)
theorem ST: ∀n,(pN k).jn κ 1000005 [] n (Il kind kid)=xo k (jF κ) kind kid n:=kB (Af k (jF κ) kind kid) rfl (fun _=>rfl) (by kernel_rfl)
theorem SS: ∀n,(pN k).jn κ 1000003 [] n (Ik kind kid)=BT k (jF κ) kind kid n:=kB (uZ k (jF κ) kind kid (xo k (jF κ) kind kid k)) rfl (fun _=>rfl) (Eq.trans (b:=uZ k (jF κ) kind kid ((pN k).jn κ 1000005 [] k (Il kind kid))) (by kernel_rfl) (by simp only [ST]))
end
theorem A8 {S:Type} (o:Obj) (ho:af o) (k:Nat):Tl o 182 (yh k:Rw S):=ai (pN k) trivial Tryz.func182 (by kernel_rfl) fun kind kid κ x h=>Eq.trans (b:=EY k (jF κ) ((pN k).jn κ 1000003 [] k (Ik kind kid)) kind kid) (by kernel_rfl) (Eq.trans (by simp only [SS];rfl) (aj h))
def CQ {S:Type} (k:Nat):Rw S:=ag l9 xn fun c κ=>aa k (rl k c) (ar κ)
def zr {S:Type} (k:Nat):Fx S:=fp 18 [(137,la k)] [(2,aS [1,3] [(1,2)],ap 4 5)] k Tryz.f89 0
def Im (c:Cl) (i3:Int):St UU:=⟨[(1,(pt 1)),(3,(iI i3))],[(1,bC c)],[],[]⟩
section
variable {S:Type} (k:Nat) (c:Cl) (κ:Out UU→Option S)
theorem SU: ∀n i3,(zr k).lp κ 2 [] n (Im c i3)=oj k (ar κ) c n i3:=ci (uK k (ar κ) c) rfl (fun _=>rfl) fun r i3=>by kernel_rfl
end
theorem Gr {S:Type} (o:Obj) (ho:af o) (k:Nat):Tl o 89 (CQ k:Rw S):=ai (zr k) ⟨lV o ho k,trivial⟩ Tryz.func89 (by kernel_rfl) fun c κ x h=>Eq.trans (b:=EG k (ar κ) (fun i3=>(zr k).lp κ 2 [] k (Im c i3)) c) (by kernel_rfl) (Eq.trans (by simp only [SU];rfl) (aj h))
def mL {S:Type} (k:Nat):Rw S:=ag dK xn fun f κ=>aa k (fS k f) (ar κ)
def zt {S:Type} (k:Nat):Fx S:=fp 18 [(88,iA k),(89,CQ k)] [(4,aS [0,3] [],ap 5 11)] k Tryz.f43 0
def Io (f:List Cl) (i3:Int):St UU:=⟨[(0,(sC f)),(3,(iI i3))],[],[],[]⟩
section
variable {S:Type} (k:Nat) (f:List Cl) (κ:Out UU→Option S)
theorem SV: ∀n i3,(zt k).lp κ 4 [] n (Io f i3)=ox k (ar κ) f n i3:=ci (uW k (ar κ) f) rfl (fun _=>rfl) fun r i3=>by kernel_rfl
end
theorem nM {S:Type} (o:Obj) (ho:af o) (k:Nat):Tl o 43 (mL k:Rw S):=ai (zt k) ⟨jh o ho k,Gr o ho k,trivial⟩ Tryz.func43 (by kernel_rfl) fun f κ x h=>Eq.trans (b:=EV k (ar κ) (fun i3=>(zt k).lp κ 4 [] k (Io f i3)) f) (by kernel_rfl) (Eq.trans (by simp only [SV];rfl) (aj h))
def yi {S:Type} (k:Nat):Rw S:=ag eJ xn fun kind κ=>aa k (nC k kind) (aJ κ)
def Qx {S:Type} (k:Nat):Fx S:=fp 5 [] [] k Tryz.f183 0
theorem A9 {S:Type} (o:Obj) (ho:af o) (k:Nat):Tl o 183 (yi k:Rw S):=ai (Qx k) trivial Tryz.func183 (by kernel_rfl) fun kind κ x h=>Eq.trans (by kernel_rfl) (aj h)
def CR {S:Type} (hd:dC S):Rw S:=ag Hz xn fun t vars dims bound κ=>hd t vars dims bound (ar κ)
def eA {S:Type} (hd:dC S) (k:Nat):Fx S:=fp 187 [(43,mL k),(88,iA k),(119,Ka k),(135,CR hd),(179,Kb k),(180,Kc k),(181,Kj k),(182,yh k),(183,yi k)] [(1000003,aS [1,2,3,4] [(4,6)],ap 2 3),(1000008,aS [1,2,3,4] [(4,6)],ap 3 7),(1000010,aS [1,2,3,4] [(4,6)],ap 4 15),(1000021,aS [1,2,3,4] [(4,6)],ap 5 31),(24,aS [1,2,3,4,9] [(4,6)],ap 9 191),(32,aS [1,2,3,4,12] [(4,6)],ap 10 383),(38,aS [1,2,3,4,12,13,14] [(4,6),(13,2)],ap 18 117119)] k Tryz.f135 0
def Ip (t:Tm) (vars dims:Int) (bound:Bool):St UU:=⟨[(1,(iI vars)),(2,(iI dims)),(3,(.bool bound)),(4,(pt 4))],[(4,bT t)],[],[]⟩
def Iq (t:Tm) (vars dims:Int) (bound:Bool):St UU:=⟨[(1,(iI vars)),(2,(iI dims)),(3,(.bool bound)),(4,(pt 4))],[(4,bT t)],[],[]⟩
def Ir (t:Tm) (vars dims:Int) (bound:Bool):St UU:=⟨[(1,(iI vars)),(2,(iI dims)),(3,(.bool bound)),(4,(pt 4))],[(4,bT t)],[],[]⟩
def Is (t:Tm) (vars dims:Int) (bound:Bool):St UU:=⟨[(1,(iI vars)),(2,(iI dims)),(3,(.bool bound)),(4,(pt 4))],[(4,bT t)],[],[]⟩
def Cb (t:Tm) (vars dims:Int) (bound:Bool) (i9:Int):St UU:=⟨[(1,(iI vars)),(2,(iI dims)),(3,(.bool bound)),(4,(pt 4)),(9,(iI i9))],[(4,bT t)],[],[]⟩
def sN (t:Tm) (vars dims:Int) (bound:Bool) (i12:Int):St UU:=⟨[(1,(iI vars)),(2,(iI dims)),(3,(.bool bound)),(4,(pt 4)),(12,(iI i12))],[(4,bT t)],[],[]⟩
def It (x11:(Br Tm)) (t:Tm) (vars i12 dims:Int) (bound:Bool) (v14:Int):St UU:=⟨[(1,(iI vars)),(2,(iI dims)),(3,(.bool bound)),(4,(pt 4)),(12,(iI i12)),(13,(pt 13)),(14,(iI v14))],[(4,bT t),(13,bB x11)],[],[]⟩
section
variable {S:Type} (hd:dC S) (k:Nat) (t:Tm) (vars dims:Int) (bound:Bool) (κ:Out UU→Option S)
theorem S2 (x11 i12 κ5): ∀n v14,(eA hd k).lp κ 38 [κ5] n (It x11 t vars i12 dims bound v14)=kR hd k (ar κ) (fun i12=>κ5 (sN t vars dims bound i12)) x11 t vars i12 dims bound n v14:=ci (uY hd k (ar κ) x11 t vars i12 dims bound (fun i12=>κ5 (sN t vars dims bound i12))) rfl (fun _=>rfl) fun r v14=>by kernel_rfl
theorem S1: ∀n i12,(eA hd k).lp κ 32 [] n (sN t vars dims bound i12)=gx hd k (ar κ) t vars dims bound n i12:=ci (fun own=>qx hd k (ar κ) t vars dims bound (fun x11 i12 v14=>kR hd k (ar κ) own x11 t vars i12 dims bound k v14) own) rfl (fun _=>rfl) fun r i12=>Eq.trans (b:=qx hd k (ar κ) t vars dims bound (fun x11 i12 v14=>(eA hd k).lp κ 38 [r] k (It x11 t vars i12 dims bound v14)) (fun i12=>r (sN t vars dims bound i12)) i12) (by kernel_rfl) (by simp only [S2])
theorem S0: ∀n i9,(eA hd k).lp κ 24 [] n (Cb t vars dims bound i9)=iq hd k (ar κ) t vars dims bound n i9:=ci (fun own=>qw hd k (ar κ) t vars dims bound (fun i12=>gx hd k (ar κ) t vars dims bound k i12) own) rfl (fun _=>rfl) fun r i9=>Eq.trans (b:=qw hd k (ar κ) t vars dims bound (fun i12=>(eA hd k).lp κ 32 [] k (sN t vars dims bound i12)) (fun i9=>r (Cb t vars dims bound i9)) i9) (by kernel_rfl) (by simp only [S1])
theorem SZ: ∀n,(eA hd k).jn κ 1000021 [] n (Is t vars dims bound)=oB hd k (ar κ) t vars dims bound n:=kB (qv hd k (ar κ) t vars dims bound (fun i9=>iq hd k (ar κ) t vars dims bound k i9)) rfl (fun _=>rfl) (Eq.trans (b:=qv hd k (ar κ) t vars dims bound (fun i9=>(eA hd k).lp κ 24 [] k (Cb t vars dims bound i9))) (by kernel_rfl) (by simp only [S0]))
theorem SY: ∀n,(eA hd k).jn κ 1000010 [] n (Ir t vars dims bound)=oA hd k (ar κ) t vars dims bound n:=kB (qu hd k (ar κ) t vars dims bound (oB hd k (ar κ) t vars dims bound k)) rfl (fun _=>rfl) (Eq.trans (b:=qu hd k (ar κ) t vars dims bound ((eA hd k).jn κ 1000021 [] k (Is t vars dims bound))) (by kernel_rfl) (by simp only [SZ]))
theorem SX: ∀n,(eA hd k).jn κ 1000008 [] n (Iq t vars dims bound)=oz hd k (ar κ) t vars dims bound n:=kB (qr hd k (ar κ) t vars dims bound (oA hd k (ar κ) t vars dims bound k)) rfl (fun _=>rfl) (Eq.trans (b:=qr hd k (ar κ) t vars dims bound ((eA hd k).jn κ 1000010 [] k (Ir t vars dims bound))) (by kernel_rfl) (by simp only [SY]))
theorem SW: ∀n,(eA hd k).jn κ 1000003 [] n (Ip t vars dims bound)=xl hd k (ar κ) t vars dims bound n:=kB (qn hd k (ar κ) t vars dims bound (oz hd k (ar κ) t vars dims bound k)) rfl (fun _=>rfl) (Eq.trans (b:=qn hd k (ar κ) t vars dims bound ((eA hd k).jn κ 1000008 [] k (Iq t vars dims bound))) (by kernel_rfl) (by simp only [SX]))
end
theorem Hj {S:Type} (o:Obj) (ho:af o): ∀k:Nat,Tl o 135 (CR (b7 k:dC S))
 |0=>e_ fun t vars dims bound κ x h=>by cases h
 |k+1=>ai (eA (b7 k) k) ⟨nM o ho k,jh o ho k,Vk o ho k,Hj o ho k,Vl o ho k,Vm o ho k,Vt o ho k,A8 o ho k,A9 o ho k,trivial⟩ Tryz.func135 (by kernel_rfl) fun t vars dims bound κ x h=>Eq.trans (b:=EX (b7 k) k (ar κ) ((eA (b7 k) k).jn κ 1000003 [] k (Ip t vars dims bound)) t vars dims bound) (by kernel_rfl) (Eq.trans (by simp only [SW];rfl) h)
def yj {S:Type} (k:Nat):Rw S:=ag fV xn fun t κ=>aa k (nB k t) (aJ κ)
def Qy {S:Type} (k:Nat):Fx S:=fp 14 [(134,J_ k),(135,CR (b7 k))] [] k Tryz.f87 0
theorem A_ {S:Type} (o:Obj) (ho:af o) (k:Nat):Tl o 87 (yj k:Rw S):=ai (Qy k) ⟨Vj o ho k,Hj o ho k,trivial⟩ Tryz.func87 (by kernel_rfl) fun t κ x h=>Eq.trans (by kernel_rfl) (aj h)
def pe {S:Type} (k:Nat):Rw S:=ag BM xn fun l κ=>aa k (jf k l) (aJ κ)
def zu {S:Type} (k:Nat):Fx S:=fp 19 [(87,yj k)] [(2,aS [0,3] [],ap 4 5)] k Tryz.f42 0
def Iu (l:List Tm) (i3:Int):St UU:=⟨[(0,(sT l)),(3,(iI i3))],[],[],[]⟩
section
variable {S:Type} (k:Nat) (l:List Tm) (κ:Out UU→Option S)
theorem S3: ∀n i3,(zu k).lp κ 2 [] n (Iu l i3)=oG k (aJ κ) l n i3:=ci (vd k (aJ κ) l) rfl (fun _=>rfl) fun r i3=>by kernel_rfl
end
theorem rV {S:Type} (o:Obj) (ho:af o) (k:Nat):Tl o 42 (pe k:Rw S):=ai (zu k) ⟨A_ o ho k,trivial⟩ Tryz.func42 (by kernel_rfl) fun l κ x h=>Eq.trans (b:=E_ k (aJ κ) (fun i3=>(zu k).lp κ 2 [] k (Iu l i3)) l) (by kernel_rfl) (Eq.trans (by simp only [S3];rfl) (aj h))
def Kk {S:Type} (k:Nat):Rw S:=ag HC xn fun s a_from a_by κ=>aa k (j_ k s a_from a_by) (tg κ)
def zw {S:Type} (k:Nat):Fx S:=fp 48 [(209,mK k),(228,mJ k)] [(5,⟨[(1,.none),(2,.none),(8,some (100008,true)),(9,.none)],[]⟩,ap 6 23)] k Tryz.f208 0
def Iv (a_from a_by:Int) (l8:List Int) (v9:Int):St UU:=⟨[(1,(iI a_from)),(2,(iI a_by)),(8,(.own 100008 0)),(9,(iI v9))],[],[(100008,⟨0,ET.I,l8⟩)],[(100008,.wr)]⟩
section
variable {S:Type} (k:Nat) (s a_from a_by:Int) (κ:Out UU→Option S)
theorem S4: ∀n l8 v9,(zw k).lp κ 5 [] n (Iv a_from a_by l8 v9)=mh k (tg κ) a_from a_by n l8 v9:=aP (uF k (tg κ) a_from a_by) rfl (fun _=>rfl) fun r l8 v9=>by kernel_rfl
end
theorem Vu {S:Type} (o:Obj) (ho:af o) (k:Nat):Tl o 208 (Kk k:Rw S):=ai (zw k) ⟨nL o ho k,nJ o ho k,trivial⟩ Tryz.func208 (by kernel_rfl) fun s a_from a_by κ x h=>Eq.trans (b:=tP k (tg κ) (fun l8 v9=>(zw k).lp κ 5 [] k (Iv a_from a_by l8 v9)) s a_from a_by) (by kernel_rfl) (Eq.trans (by simp only [S4];rfl) (aj h))
def Kl {S:Type} (k:Nat):Rw S:=ag HD xn fun c a_from a_by κ=>aa k (wg k c a_from a_by) (JJ κ)
def QA {S:Type} (k:Nat):Fx S:=fp 42 [(184,CN k),(208,Kk k)] [] k Tryz.f167 0
theorem Vv {S:Type} (o:Obj) (ho:af o) (k:Nat):Tl o 167 (Kl k:Rw S):=ai (QA k) ⟨Gp o ho k,Vu o ho k,trivial⟩ Tryz.func167 (by kernel_rfl) fun c a_from a_by κ x h=>Eq.trans (by kernel_rfl) (aj h)
def tk {S:Type} (k:Nat):Rw S:=ag BN xn fun f a_from a_by κ=>aa k (lP k f a_from a_by) (aq κ)
def zx {S:Type} (k:Nat):Fx S:=fp 42 [(88,iA k),(136,k_ k),(167,Kl k)] [(5,⟨[(0,.none),(1,.none),(2,.none),(8,some (100008,true)),(9,.none)],[]⟩,ap 6 23)] k Tryz.f123 0
def Iw (f:List Cl) (a_from a_by:Int) (out8:List Cl) (i9:Int):St UU:=⟨[(0,(sC f)),(1,(iI a_from)),(2,(iI a_by)),(8,(.own 100008 0)),(9,(iI i9))],[],[(100008,⟨0,ET.C,out8⟩)],[(100008,.wr)]⟩
section
variable {S:Type} (k:Nat) (f:List Cl) (a_from a_by:Int) (κ:Out UU→Option S)
theorem S5: ∀n out8 i9,(zx k).lp κ 5 [] n (Iw f a_from a_by out8 i9)=ot k (aq κ) f a_from a_by n out8 i9:=aP (uP k (aq κ) f a_from a_by) rfl (fun _=>rfl) fun r out8 i9=>by kernel_rfl
end
theorem wH {S:Type} (o:Obj) (ho:af o) (k:Nat):Tl o 123 (tk k:Rw S):=ai (zx k) ⟨jh o ho k,lU o ho k,Vv o ho k,trivial⟩ Tryz.func123 (by kernel_rfl) fun f a_from a_by κ x h=>Eq.trans (b:=EM k (aq κ) (fun out8 i9=>(zx k).lp κ 5 [] k (Iw f a_from a_by out8 i9)) f a_from a_by) (by kernel_rfl) (Eq.trans (by simp only [S5];rfl) (aj h))
def tl {S:Type} (k:Nat):Rw S:=ag dK xn fun l κ=>aa k (lQ k l) (aq κ)
def zy {S:Type} (k:Nat):Fx S:=fp 29 [(89,CQ k),(136,k_ k)] [(3,⟨[(0,.none),(4,some (100004,true)),(5,.none)],[]⟩,ap 5 11)] k Tryz.f188 0
def Ix (l:List Cl) (out4:List Cl) (i5:Int):St UU:=⟨[(0,(sC l)),(4,(.own 100004 0)),(5,(iI i5))],[],[(100004,⟨0,ET.C,out4⟩)],[(100004,.wr)]⟩
section
variable {S:Type} (k:Nat) (l:List Cl) (κ:Out UU→Option S)
theorem S6: ∀n out4 i5,(zy k).lp κ 3 [] n (Ix l out4 i5)=oy k (aq κ) l n out4 i5:=aP (uX k (aq κ) l) rfl (fun _=>rfl) fun r out4 i5=>by kernel_rfl
end
theorem wI {S:Type} (o:Obj) (ho:af o) (k:Nat):Tl o 188 (tl k:Rw S):=ai (zy k) ⟨Gr o ho k,lU o ho k,trivial⟩ Tryz.func188 (by kernel_rfl) fun l κ x h=>Eq.trans (b:=EW k (aq κ) (fun out4 i5=>(zy k).lp κ 3 [] k (Ix l out4 i5)) l) (by kernel_rfl) (Eq.trans (by simp only [S6];rfl) (aj h))
def CT {S:Type} (k:Nat):Rw S:=ag gw xn fun f g κ=>aa k (fi k f g) (aq κ)
def QD {S:Type} (k:Nat):Fx S:=fp 22 [(43,mL k),(188,tl k)] [] k Tryz.f138 0
theorem Gt {S:Type} (o:Obj) (ho:af o) (k:Nat):Tl o 138 (CT k:Rw S):=ai (QD k) ⟨nM o ho k,wI o ho k,trivial⟩ Tryz.func138 (by kernel_rfl) fun f g κ x h=>Eq.trans (by kernel_rfl) (aj h)
def pf {S:Type} (k:Nat):Rw S:=ag eJ xn fun a_e κ=>aa k (d9 k a_e) (CB κ)
def QE {S:Type} (k:Nat):Fx S:=fx 6 (fun _=>[]) (fun _=>false) [] [] k Tryz.f124 true [] 0
theorem rW {S:Type} (o:Obj) (ho:af o) (k:Nat):Tl o 124 (pf k:Rw S):=ai (QE k) trivial Tryz.func124 (by kernel_rfl) fun a_e κ x h=>Eq.trans (by kernel_rfl) (aj h)
def Km {S:Type} (k:Nat):Rw S:=ag l_ xn fun t a b κ=>aa k (AR k t a b) (aJ κ)
def QF {S:Type} (k:Nat):Fx S:=fp 21 [(87,yj k)] [] k Tryz.f206 0
theorem Vw {S:Type} (o:Obj) (ho:af o) (k:Nat):Tl o 206 (Km k:Rw S):=ai (QF k) ⟨A_ o ho k,trivial⟩ Tryz.func206 (by kernel_rfl) fun t a b κ x h=>Eq.trans (by kernel_rfl) (aj h)
def Ko {S:Type} (k:Nat):Rw S:=ag BN xn fun f a_from a_by κ=>aa k (rA k f a_from a_by) (aq κ)
def QG {S:Type} (k:Nat):Fx S:=fp 17 [(123,tk k)] [] k Tryz.f203 0
theorem Vx {S:Type} (o:Obj) (ho:af o) (k:Nat):Tl o 203 (Ko k:Rw S):=ai (QG k) ⟨wH o ho k,trivial⟩ Tryz.func203 (by kernel_rfl) fun f a_from a_by κ x h=>Eq.trans (by kernel_rfl) (aj h)
def yk {S:Type} (hd:ff S):Rw S:=ag Yg xn fun t v vby d dby κ=>hd t v vby d dby (bg κ)
def iO {S:Type} (hd:ff S) (k:Nat):Fx S:=fp 174 [(124,pf k),(164,yk hd),(182,yh k),(183,yi k),(203,Ko k)] [(1000006,⟨[(1,.none),(2,.none),(3,.none),(4,.none),(5,.none),(10,.none),(11,.none)],[(5,[.none,.none,.none,.none,.none,.none]),(10,[.none,.none,.none,some (200643,true),some (200644,true),some (200645,true)]),(11,[.none,.none,.none,some (200707,true),some (200708,true),some (200709,true)])]⟩,ap 3 7),(11,⟨[(1,.none),(2,.none),(3,.none),(4,.none),(5,.none),(10,.none),(11,.none),(14,.none)],[(5,[.none,.none,.none,.none,.none,.none]),(10,[.none,.none,.none,some (200643,true),some (200644,true),some (200645,true)]),(11,[.none,.none,.none,.none,some (200708,true),some (200709,true)])]⟩,ap 9 191),(19,⟨[(1,.none),(2,.none),(3,.none),(4,.none),(5,.none),(10,.none),(11,.none),(18,.none)],[(5,[.none,.none,.none,.none,.none,.none]),(10,[.none,.none,.none,some (200643,true),some (200644,true),some (200645,true)]),(11,[.none,.none,.none,.none,some (200708,true),some (200709,true)])]⟩,ap 10 383),(26,⟨[(1,.none),(2,.none),(3,.none),(4,.none),(5,.none),(10,.none),(11,.none),(18,.none),(21,.none),(22,.none)],[(5,[.none,.none,.none,.none,.none,.none]),(10,[.none,.none,.none,some (200643,true),some (200644,true),some (200645,true)]),(11,[.none,.none,.none,.none,some (200708,true),some (200709,true)]),(21,[.none,some (201345,true)])]⟩,ap 20 379263)] k Tryz.f164 0
def Iy (t:Tm) (v vby d dby:Int) (b11_1:Int):St UU:=⟨[(1,(iI v)),(2,(iI vby)),(3,(iI d)),(4,(iI dby)),(5,(pt 5)),(10,(pt 10)),(11,(pt 11))],[(5,bT t),(10,.cells [(iI 0),(iI 0),(.str ByteArray.empty),(.own 200643 0),(.own 200644 0),(.own 200645 0)]),(11,.cells [(iI t.kind),(iI b11_1),(.str t.name),(.own 200707 0),(.own 200708 0),(.own 200709 0)])],[(200709,⟨0,ET.B,([]:List (Br Tm))⟩),(200708,⟨0,ET.T,([]:List Tm)⟩),(200707,⟨0,ET.C,([]:List Cl)⟩),(200645,⟨0,ET.B,([]:List (Br Tm))⟩),(200644,⟨0,ET.T,([]:List Tm)⟩),(200643,⟨0,ET.C,([]:List Cl)⟩)],[(200709,.wr),(200708,.wr),(200707,.wr),(200645,.wr),(200644,.wr),(200643,.wr)]⟩
def Cc (t:Tm) (b11_1:Int) (r2:List Cl×Int) (v vby d dby:Int) (b11_4:List Tm) (i14:Int):St UU:=⟨[(1,(iI v)),(2,(iI vby)),(3,(iI d)),(4,(iI dby)),(5,(pt 5)),(10,(pt 10)),(11,(pt 11)),(14,(iI i14))],[(5,bT t),(10,.cells [(iI 0),(iI 0),(.str ByteArray.empty),(.own 200643 0),(.own 200644 0),(.own 200645 0)]),(11,.cells [(iI t.kind),(iI b11_1),(.str t.name),(sC r2.1),(.own 200708 0),(.own 200709 0)])],[(200709,⟨0,ET.B,([]:List (Br Tm))⟩),(200708,⟨0,ET.T,b11_4⟩),(200645,⟨0,ET.B,([]:List (Br Tm))⟩),(200644,⟨0,ET.T,([]:List Tm)⟩),(200643,⟨0,ET.C,([]:List Cl)⟩)],[(200709,.wr),(200708,.wr),(200645,.wr),(200644,.wr),(200643,.wr)]⟩
def sO (t:Tm) (b11_1:Int) (r2:List Cl×Int) (b11_4:List Tm) (v vby d dby:Int) (b11_5:List (Br Tm)) (i18:Int):St UU:=⟨[(1,(iI v)),(2,(iI vby)),(3,(iI d)),(4,(iI dby)),(5,(pt 5)),(10,(pt 10)),(11,(pt 11)),(18,(iI i18))],[(5,bT t),(10,.cells [(iI 0),(iI 0),(.str ByteArray.empty),(.own 200643 0),(.own 200644 0),(.own 200645 0)]),(11,.cells [(iI t.kind),(iI b11_1),(.str t.name),(sC r2.1),(.own 200708 0),(.own 200709 0)])],[(200709,⟨0,ET.B,b11_5⟩),(200708,⟨0,ET.T,b11_4⟩),(200645,⟨0,ET.B,([]:List (Br Tm))⟩),(200644,⟨0,ET.T,([]:List Tm)⟩),(200643,⟨0,ET.C,([]:List Cl)⟩)],[(200709,.wr),(200708,.wr),(200645,.wr),(200644,.wr),(200643,.wr)]⟩
def Iz (t:Tm) (b11_1:Int) (r2:List Cl×Int) (b11_4:List Tm) (b11_5:List (Br Tm)) (r9:List Cl×Int) (v i18 vby d dby:Int) (b21_1:List Tm) (v22:Int):St UU:=⟨[(1,(iI v)),(2,(iI vby)),(3,(iI d)),(4,(iI dby)),(5,(pt 5)),(10,(pt 10)),(11,(pt 11)),(18,(iI i18)),(21,(pt 21)),(22,(iI v22))],[(5,bT t),(10,.cells [(iI 0),(iI 0),(.str ByteArray.empty),(.own 200643 0),(.own 200644 0),(.own 200645 0)]),(11,.cells [(iI t.kind),(iI b11_1),(.str t.name),(sC r2.1),(.own 200708 0),(.own 200709 0)]),(21,.cells [(sC r9.1),(.own 201345 0)])],[(201345,⟨0,ET.T,b21_1⟩),(200709,⟨0,ET.B,b11_5⟩),(200708,⟨0,ET.T,b11_4⟩),(200645,⟨0,ET.B,([]:List (Br Tm))⟩),(200644,⟨0,ET.T,([]:List Tm)⟩),(200643,⟨0,ET.C,([]:List Cl)⟩)],[(201345,.wr),(200709,.wr),(200708,.wr),(200645,.wr),(200644,.wr),(200643,.wr)]⟩
section
variable {S:Type} (hd:ff S) (k:Nat) (t:Tm) (v vby d dby:Int) (κ:Out UU→Option S)
theorem S_ (b11_1 r2 b11_4 b11_5 r9 i18 κ2): ∀n b21_1 v22,(iO hd k).lp κ 26 [κ2] n (Iz t b11_1 r2 b11_4 b11_5 r9 v i18 vby d dby b21_1 v22)=ir hd k (bg κ) (fun b11_5 i18=>κ2 (sO t b11_1 r2 b11_4 v vby d dby b11_5 i18)) t b11_1 r2 b11_4 b11_5 r9 v i18 vby d dby n b21_1 v22:=aP (u9 hd k (bg κ) t b11_1 r2 b11_4 b11_5 r9 v i18 vby d dby (fun b11_5 i18=>κ2 (sO t b11_1 r2 b11_4 v vby d dby b11_5 i18))) rfl (fun _=>rfl) fun r b21_1 v22=>by kernel_rfl
theorem S9 (b11_1 r2 b11_4): ∀n b11_5 i18,(iO hd k).lp κ 19 [] n (sO t b11_1 r2 b11_4 v vby d dby b11_5 i18)=eL hd k (bg κ) t b11_1 r2 b11_4 v vby d dby n b11_5 i18:=aP (fun own=>qF hd k (bg κ) t b11_1 r2 b11_4 v vby d dby (fun b11_5 r9 i18 b21_1 v22=>ir hd k (bg κ) own t b11_1 r2 b11_4 b11_5 r9 v i18 vby d dby k b21_1 v22) own) rfl (fun _=>rfl) fun r b11_5 i18=>Eq.trans (b:=qF hd k (bg κ) t b11_1 r2 b11_4 v vby d dby (fun b11_5 r9 i18 b21_1 v22=>(iO hd k).lp κ 26 [r] k (Iz t b11_1 r2 b11_4 b11_5 r9 v i18 vby d dby b21_1 v22)) (fun b11_5 i18=>r (sO t b11_1 r2 b11_4 v vby d dby b11_5 i18)) b11_5 i18) (by kernel_rfl) (by simp only [S_])
theorem S8 (b11_1 r2): ∀n b11_4 i14,(iO hd k).lp κ 11 [] n (Cc t b11_1 r2 v vby d dby b11_4 i14)=gD hd k (bg κ) t b11_1 r2 v vby d dby n b11_4 i14:=aP (fun own=>qE hd k (bg κ) t b11_1 r2 v vby d dby (fun b11_4 b11_5 i18=>eL hd k (bg κ) t b11_1 r2 b11_4 v vby d dby k b11_5 i18) own) rfl (fun _=>rfl) fun r b11_4 i14=>Eq.trans (b:=qE hd k (bg κ) t b11_1 r2 v vby d dby (fun b11_4 b11_5 i18=>(iO hd k).lp κ 19 [] k (sO t b11_1 r2 b11_4 v vby d dby b11_5 i18)) (fun b11_4 i14=>r (Cc t b11_1 r2 v vby d dby b11_4 i14)) b11_4 i14) (by kernel_rfl) (by simp only [S9])
theorem S7: ∀n b11_1,(iO hd k).jn κ 1000006 [] n (Iy t v vby d dby b11_1)=xq hd k (bg κ) t v vby d dby n b11_1:=sq (qD hd k (bg κ) t v vby d dby (fun b11_1 r2 b11_4 i14=>gD hd k (bg κ) t b11_1 r2 v vby d dby k b11_4 i14)) rfl (fun _=>rfl) (fun b11_1=>Eq.trans (b:=qD hd k (bg κ) t v vby d dby (fun b11_1 r2 b11_4 i14=>(iO hd k).lp κ 11 [] k (Cc t b11_1 r2 v vby d dby b11_4 i14)) b11_1) (by kernel_rfl) (by simp only [S8]))
end
theorem Bx {S:Type} (o:Obj) (ho:af o): ∀k:Nat,Tl o 164 (yk (cY k:ff S))
 |0=>e_ fun t v vby d dby κ x h=>by cases h
 |k+1=>ai (iO (cY k) k) ⟨rW o ho k,Bx o ho k,A8 o ho k,A9 o ho k,Vx o ho k,trivial⟩ Tryz.func164 (by kernel_rfl) fun t v vby d dby κ x h=>Eq.trans (b:=E5 (cY k) k (bg κ) (fun b11_1=>(iO (cY k) k).jn κ 1000006 [] k (Iy t v vby d dby b11_1)) t v vby d dby) (by kernel_rfl) (Eq.trans (by simp only [S7];rfl) h)
def Kp {S:Type} (k:Nat):Rw S:=ag fV xn fun t κ=>aa k (wt k t) (cm κ)
def QH {S:Type} (k:Nat):Fx S:=fp 12 [] [] k Tryz.f207 0
theorem Vy {S:Type} (o:Obj) (ho:af o) (k:Nat):Tl o 207 (Kp k:Rw S):=ai (QH k) trivial Tryz.func207 (by kernel_rfl) fun t κ x h=>Eq.trans (by kernel_rfl) (aj h)
def Kq {S:Type} (k:Nat):Rw S:=ag l_ xn fun t a_from a_by κ=>aa k (ws k t a_from a_by) (cm κ)
def QI {S:Type} (k:Nat):Fx S:=fp 26 [(164,yk (cY k)),(206,Km k),(207,Kp k)] [] k Tryz.f166 0
theorem Vz {S:Type} (o:Obj) (ho:af o) (k:Nat):Tl o 166 (Kq k:Rw S):=ai (QI k) ⟨Bx o ho k,Vw o ho k,Vy o ho k,trivial⟩ Tryz.func166 (by kernel_rfl) fun t a_from a_by κ x h=>Eq.trans (by kernel_rfl) (aj h)
def tn {S:Type} (k:Nat):Rw S:=ag kC xn fun s i κ=>aa k (fR k s i) (bQ κ)
def zz {S:Type} (k:Nat):Fx S:=fp 31 [(209,mK k),(228,mJ k)] [(4,⟨[(1,.none),(5,some (100005,true)),(6,some (100006,true)),(7,.none)],[]⟩,ap 6 23)] k Tryz.f235 0
def IA (i:Int) (r1:List Int) (out6:List Int) (v7:Int):St UU:=⟨[(1,(iI i)),(5,(.own 100005 0)),(6,(.own 100006 0)),(7,(iI v7))],[],[(100006,⟨0,ET.I,out6⟩),(100005,⟨0,ET.I,r1⟩)],[(100006,.wr),(100005,.wr)]⟩
section
variable {S:Type} (k:Nat) (s i:Int) (κ:Out UU→Option S)
theorem Ta (r1): ∀n out6 v7,(zz k).lp κ 4 [] n (IA i r1 out6 v7)=oh k (bQ κ) i r1 n out6 v7:=aP (uI k (bQ κ) i r1) rfl (fun _=>rfl) fun r out6 v7=>by kernel_rfl
end
theorem wJ {S:Type} (o:Obj) (ho:af o) (k:Nat):Tl o 235 (tn k:Rw S):=ai (zz k) ⟨nL o ho k,nJ o ho k,trivial⟩ Tryz.func235 (by kernel_rfl) fun s i κ x h=>Eq.trans (b:=EE k (bQ κ) (fun r1 out6 v7=>(zz k).lp κ 4 [] k (IA i r1 out6 v7)) s i) (by kernel_rfl) (Eq.trans (by simp only [Ta];rfl) (aj h))
def Kr {S:Type} (k:Nat):Rw S:=ag dK xn fun f κ=>aa k (wl k f) (aq κ)
def QK {S:Type} (k:Nat):Fx S:=fp 11 [(88,iA k),(188,tl k)] [] k Tryz.f236 0
theorem VA {S:Type} (o:Obj) (ho:af o) (k:Nat):Tl o 236 (Kr k:Rw S):=ai (QK k) ⟨jh o ho k,wI o ho k,trivial⟩ Tryz.func236 (by kernel_rfl) fun f κ x h=>Eq.trans (by kernel_rfl) (aj h)
def Ks {S:Type} (k:Nat):Rw S:=ag l9 xn fun c κ=>aa k (wk k c) (e7 κ)
def zA {S:Type} (k:Nat):Fx S:=fp 37 [(136,k_ k),(137,la k),(228,mJ k)] [(3,⟨[(1,.none),(3,some (100003,true)),(4,.none)],[(1,[.none,.none])]⟩,ap 5 11)] k Tryz.f246 0
def IB (c:Cl) (out3:List Cl) (i4:Int):St UU:=⟨[(1,(pt 1)),(3,(.own 100003 0)),(4,(iI i4))],[(1,bC c)],[(100003,⟨0,ET.C,out3⟩)],[(100003,.wr)]⟩
section
variable {S:Type} (k:Nat) (c:Cl) (κ:Out UU→Option S)
theorem Tb: ∀n out3 i4,(zA k).lp κ 3 [] n (IB c out3 i4)=ow k (e7 κ) c n out3 i4:=aP (uT k (e7 κ) c) rfl (fun _=>rfl) fun r out3 i4=>by kernel_rfl
end
theorem VB {S:Type} (o:Obj) (ho:af o) (k:Nat):Tl o 246 (Ks k:Rw S):=ai (zA k) ⟨lU o ho k,lV o ho k,nJ o ho k,trivial⟩ Tryz.func246 (by kernel_rfl) fun c κ x h=>Eq.trans (b:=ER k (e7 κ) (fun out3 i4=>(zA k).lp κ 3 [] k (IB c out3 i4)) c) (by kernel_rfl) (Eq.trans (by simp only [Tb];rfl) (aj h))
def Kt {S:Type} (k:Nat):Rw S:=ag kC xn fun s i κ=>aa k (rk k s i) (bQ κ)
def QL {S:Type} (k:Nat):Fx S:=fp 21 [(209,mK k),(228,mJ k),(235,tn k)] [] k Tryz.f248 0
theorem VC {S:Type} (o:Obj) (ho:af o) (k:Nat):Tl o 248 (Kt k:Rw S):=ai (QL k) ⟨nL o ho k,nJ o ho k,wJ o ho k,trivial⟩ Tryz.func248 (by kernel_rfl) fun s i κ x h=>Eq.trans (by kernel_rfl) (aj h)
end
end Go.Proofs.YtapmagaejigpnaaGreatDoor
namespace Go.Proofs.YtapmagaejigpnaaGreatDoor
open Go PI
set_option linter.unusedVariables false
set_option maxRecDepth 100000
noncomputable section
def Ku {S:Type} (k:Nat):Rw S:=ag Yh xn fun a b κ=>aa k (rp k a b) (bQ κ)
def zB {S:Type} (k:Nat):Fx S:=fp 22 [(209,mK k),(248,Kt k)] [(3,⟨[(0,.none),(5,some (100005,true)),(6,.none)],[]⟩,ap 5 11)] k Tryz.f247 0
def IC (r1:List Int) (a0 i6:Int):St UU:=⟨[(0,(iU a0)),(5,(.own 100005 0)),(6,(iI i6))],[],[(100005,⟨0,ET.I,r1⟩)],[(100005,.wr)]⟩
section
variable {S:Type} (k:Nat) (a b:Int) (κ:Out UU→Option S)
theorem Tc (r1): ∀n a0 i6,(zB k).lp κ 3 [] n (IC r1 a0 i6)=oq k (bQ κ) r1 n a0 i6:=aP (uN k (bQ κ) r1) rfl (fun _=>rfl) fun r a0 i6=>by kernel_rfl
end
theorem VE {S:Type} (o:Obj) (ho:af o) (k:Nat):Tl o 247 (Ku k:Rw S):=ai (zB k) ⟨nL o ho k,VC o ho k,trivial⟩ Tryz.func247 (by kernel_rfl) fun a b κ x h=>Eq.trans (b:=EJ k (bQ κ) (fun r1 a0 i6=>(zB k).lp κ 3 [] k (IC r1 a0 i6)) a b) (by kernel_rfl) (Eq.trans (by simp only [Tc];rfl) (aj h))
def CU {S:Type} (k:Nat):Rw S:=ag sx xn fun a b κ=>aa k (rm k a b) (JO κ)
def QM {S:Type} (k:Nat):Fx S:=fp 16 [(247,Ku k)] [] k Tryz.f245 0
theorem Gu {S:Type} (o:Obj) (ho:af o) (k:Nat):Tl o 245 (CU k:Rw S):=ai (QM k) ⟨VE o ho k,trivial⟩ Tryz.func245 (by kernel_rfl) fun a b κ x h=>Eq.trans (by kernel_rfl) (aj h)
def CV {S:Type} (k:Nat):Rw S:=ag gw xn fun f g κ=>aa k (jc k f g) (aq κ)
def pO {S:Type} (k:Nat):Fx S:=fp 45 [(88,iA k),(136,k_ k),(245,CU k)] [(5,⟨[(0,.none),(1,.none),(6,some (100006,true)),(7,.none)],[]⟩,ap 6 23),(8,⟨[(0,.none),(1,.none),(6,some (100006,true)),(7,.none),(8,.none)],[]⟩,ap 12 1175)] k Tryz.f239 0
def sP (f g:List Cl) (out6:List Cl) (i7:Int):St UU:=⟨[(0,(sC f)),(1,(sC g)),(6,(.own 100006 0)),(7,(iI i7))],[],[(100006,⟨0,ET.C,out6⟩)],[(100006,.wr)]⟩
def ID (f g:List Cl) (i7:Int) (out6':List Cl) (v8:Int):St UU:=⟨[(0,(sC f)),(1,(sC g)),(6,(.own 100006 0)),(7,(iI i7)),(8,(iI v8))],[],[(100006,⟨0,ET.C,out6'⟩)],[(100006,.wr)]⟩
section
variable {S:Type} (k:Nat) (f g:List Cl) (κ:Out UU→Option S)
theorem Te (i7 κ0): ∀n out6' v8,(pO k).lp κ 8 [κ0] n (ID f g i7 out6' v8)=ml k (aq κ) (fun out6 i7=>κ0 (sP f g out6 i7)) f g i7 n out6' v8:=aP (uQ k (aq κ) f g i7 (fun out6 i7=>κ0 (sP f g out6 i7))) rfl (fun _=>rfl) fun r out6' v8=>by kernel_rfl
theorem Td: ∀n out6 i7,(pO k).lp κ 5 [] n (sP f g out6 i7)=kO k (aq κ) f g n out6 i7:=aP (fun own=>qk k (aq κ) f g (fun i7 out6' v8=>ml k (aq κ) own f g i7 k out6' v8) own) rfl (fun _=>rfl) fun r out6 i7=>Eq.trans (b:=qk k (aq κ) f g (fun i7 out6' v8=>(pO k).lp κ 8 [r] k (ID f g i7 out6' v8)) (fun out6 i7=>r (sP f g out6 i7)) out6 i7) (by kernel_rfl) (by simp only [Te])
end
theorem Gv {S:Type} (o:Obj) (ho:af o) (k:Nat):Tl o 239 (CV k:Rw S):=ai (pO k) ⟨jh o ho k,lU o ho k,Gu o ho k,trivial⟩ Tryz.func239 (by kernel_rfl) fun f g κ x h=>Eq.trans (b:=EO k (aq κ) (fun out6 i7=>(pO k).lp κ 5 [] k (sP f g out6 i7)) f g) (by kernel_rfl) (Eq.trans (by simp only [Td];rfl) (aj h))
def CW {S:Type} (k:Nat):Rw S:=ag dK xn fun f κ=>aa k (nz k f) (aq κ)
def zC {S:Type} (k:Nat):Fx S:=fp 34 [(88,iA k),(239,CV k),(246,Ks k)] [(6,aS [0,4,5,6] [],ap 7 47)] k Tryz.f240 0
def IE (f:List Cl) (v4:List Cl) (v5 i6:Int):St UU:=⟨[(0,(sC f)),(4,(sC v4)),(5,(iI v5)),(6,(iI i6))],[],[],[]⟩
section
variable {S:Type} (k:Nat) (f:List Cl) (κ:Out UU→Option S)
theorem Tf: ∀n v4 v5 i6,(zC k).lp κ 6 [] n (IE f v4 v5 i6)=ou k (aq κ) f n v4 v5 i6:=jA (uR k (aq κ) f) rfl (fun _=>rfl) fun r v4 v5 i6=>by kernel_rfl
end
theorem Gw {S:Type} (o:Obj) (ho:af o) (k:Nat):Tl o 240 (CW k:Rw S):=ai (zC k) ⟨jh o ho k,Gv o ho k,VB o ho k,trivial⟩ Tryz.func240 (by kernel_rfl) fun f κ x h=>Eq.trans (b:=EP k (aq κ) (fun v4 v5 i6=>(zC k).lp κ 6 [] k (IE f v4 v5 i6)) f) (by kernel_rfl) (Eq.trans (by simp only [Tf];rfl) (aj h))
def Kv {S:Type} (k:Nat):Rw S:=ag dK xn fun f κ=>aa k (rt k f) (aq κ)
def QN {S:Type} (k:Nat):Fx S:=fp 18 [(188,tl k),(240,CW k)] [] k Tryz.f237 0
theorem VF {S:Type} (o:Obj) (ho:af o) (k:Nat):Tl o 237 (Kv k:Rw S):=ai (QN k) ⟨wI o ho k,Gw o ho k,trivial⟩ Tryz.func237 (by kernel_rfl) fun f κ x h=>Eq.trans (by kernel_rfl) (aj h)
def Kw {S:Type} (k:Nat):Rw S:=ag gw xn fun f g κ=>aa k (kc k f g) (aq κ)
def pP {S:Type} (k:Nat):Fx S:=fp 45 [(43,mL k),(188,tl k),(245,CU k)] [(5,⟨[(0,.none),(1,.none),(6,some (100006,true)),(7,.none)],[]⟩,ap 6 23),(8,⟨[(0,.none),(1,.none),(6,some (100006,true)),(7,.none),(8,.none)],[]⟩,ap 12 1175)] k Tryz.f238 0
def sQ (f g:List Cl) (out6:List Cl) (i7:Int):St UU:=⟨[(0,(sC f)),(1,(sC g)),(6,(.own 100006 0)),(7,(iI i7))],[],[(100006,⟨0,ET.C,out6⟩)],[(100006,.wr)]⟩
def IF (f g:List Cl) (i7:Int) (out6':List Cl) (v8:Int):St UU:=⟨[(0,(sC f)),(1,(sC g)),(6,(.own 100006 0)),(7,(iI i7)),(8,(iI v8))],[],[(100006,⟨0,ET.C,out6'⟩)],[(100006,.wr)]⟩
section
variable {S:Type} (k:Nat) (f g:List Cl) (κ:Out UU→Option S)
theorem Th (i7 κ0): ∀n out6' v8,(pP k).lp κ 8 [κ0] n (IF f g i7 out6' v8)=mm k (aq κ) (fun out6 i7=>κ0 (sQ f g out6 i7)) f g i7 n out6' v8:=aP (uU k (aq κ) f g i7 (fun out6 i7=>κ0 (sQ f g out6 i7))) rfl (fun _=>rfl) fun r out6' v8=>by kernel_rfl
theorem Tg: ∀n out6 i7,(pP k).lp κ 5 [] n (sQ f g out6 i7)=kQ k (aq κ) f g n out6 i7:=aP (fun own=>qm k (aq κ) f g (fun i7 out6' v8=>mm k (aq κ) own f g i7 k out6' v8) own) rfl (fun _=>rfl) fun r out6 i7=>Eq.trans (b:=qm k (aq κ) f g (fun i7 out6' v8=>(pP k).lp κ 8 [r] k (IF f g i7 out6' v8)) (fun out6 i7=>r (sQ f g out6 i7)) out6 i7) (by kernel_rfl) (by simp only [Th])
end
theorem VG {S:Type} (o:Obj) (ho:af o) (k:Nat):Tl o 238 (Kw k:Rw S):=ai (pP k) ⟨nM o ho k,wI o ho k,Gu o ho k,trivial⟩ Tryz.func238 (by kernel_rfl) fun f g κ x h=>Eq.trans (b:=ES k (aq κ) (fun out6 i7=>(pP k).lp κ 5 [] k (sQ f g out6 i7)) f g) (by kernel_rfl) (Eq.trans (by simp only [Tg];rfl) (aj h))
def Ky {S:Type} (k:Nat):Rw S:=ag xh xn fun f i a_r κ=>aa k (wm k f i a_r) (aq κ)
def zD {S:Type} (k:Nat):Fx S:=fp 90 [(43,mL k),(88,iA k),(137,la k),(138,CT k),(235,tn k),(236,Kr k),(237,Kv k),(238,Kw k)] [(5,aS [0,1,2,8,9] [],ap 6 23)] k Tryz.f225 0
def IG (f:List Cl) (i:Int) (a_r:List Cl) (v8:List Cl) (v9:Int):St UU:=⟨[(0,(sC f)),(1,(iI i)),(2,(sC a_r)),(8,(sC v8)),(9,(iI v9))],[],[],[]⟩
section
variable {S:Type} (k:Nat) (f:List Cl) (i:Int) (a_r:List Cl) (κ:Out UU→Option S)
theorem Ti: ∀n v8 v9,(zD k).lp κ 5 [] n (IG f i a_r v8 v9)=mn k (aq κ) f i a_r n v8 v9:=aP (uV k (aq κ) f i a_r) rfl (fun _=>rfl) fun r v8 v9=>by kernel_rfl
end
theorem VI {S:Type} (o:Obj) (ho:af o) (k:Nat):Tl o 225 (Ky k:Rw S):=ai (zD k) ⟨nM o ho k,jh o ho k,lV o ho k,Gt o ho k,wJ o ho k,VA o ho k,VF o ho k,VG o ho k,trivial⟩ Tryz.func225 (by kernel_rfl) fun f i a_r κ x h=>Eq.trans (b:=EU k (aq κ) (fun v8 v9=>(zD k).lp κ 5 [] k (IG f i a_r v8 v9)) f i a_r) (by kernel_rfl) (Eq.trans (by simp only [Ti];rfl) (aj h))
def Kz {S:Type} (k:Nat):Rw S:=ag gw xn fun f g κ=>aa k (wi k f g) (aq κ)
def QP {S:Type} (k:Nat):Fx S:=fp 22 [(88,iA k),(136,k_ k)] [] k Tryz.f241 0
theorem VJ {S:Type} (o:Obj) (ho:af o) (k:Nat):Tl o 241 (Kz k:Rw S):=ai (QP k) ⟨jh o ho k,lU o ho k,trivial⟩ Tryz.func241 (by kernel_rfl) fun f g κ x h=>Eq.trans (by kernel_rfl) (aj h)
def KA {S:Type} (k:Nat):Rw S:=ag xh xn fun f i a_r κ=>aa k (wj k f i a_r) (aq κ)
def pQ {S:Type} (k:Nat):Fx S:=fp 93 [(88,iA k),(137,la k),(235,tn k),(239,CV k),(240,CW k),(241,Kz k)] [(5,aS [0,1,2,8,9] [],ap 6 23),(1000017,aS [0,1,2,8,9,11,12] [],ap 15 31895)] k Tryz.f226 0
def sR (f:List Cl) (i:Int) (a_r:List Cl) (v8:List Cl) (v9:Int):St UU:=⟨[(0,(sC f)),(1,(iI i)),(2,(sC a_r)),(8,(sC v8)),(9,(iI v9))],[],[],[]⟩
def IH (f:List Cl) (i:Int) (a_r v8:List Cl) (v9:Int) (g11:List Cl) (v12:Int):St UU:=⟨[(0,(sC f)),(1,(iI i)),(2,(sC a_r)),(8,(sC v8)),(9,(iI v9)),(11,(sC g11)),(12,(iI v12))],[],[],[]⟩
section
variable {S:Type} (k:Nat) (f:List Cl) (i:Int) (a_r:List Cl) (κ:Out UU→Option S)
theorem Tk (v8 v9 κ0): ∀n g11 v12,(pQ k).jn κ 1000017 [κ0] n (IH f i a_r v8 v9 g11 v12)=ov k (aq κ) (fun v8 v9=>κ0 (sR f i a_r v8 v9)) f i a_r v8 v9 n g11 v12:=Hr (uS k (aq κ) f i a_r v8 v9 (fun v8 v9=>κ0 (sR f i a_r v8 v9))) rfl (fun _=>rfl) (fun g11 v12=>by kernel_rfl)
theorem Tj: ∀n v8 v9,(pQ k).lp κ 5 [] n (sR f i a_r v8 v9)=kP k (aq κ) f i a_r n v8 v9:=aP (fun own=>ql k (aq κ) f i a_r (fun v8 v9 g11 v12=>ov k (aq κ) own f i a_r v8 v9 k g11 v12) own) rfl (fun _=>rfl) fun r v8 v9=>Eq.trans (b:=ql k (aq κ) f i a_r (fun v8 v9 g11 v12=>(pQ k).jn κ 1000017 [r] k (IH f i a_r v8 v9 g11 v12)) (fun v8 v9=>r (sR f i a_r v8 v9)) v8 v9) (by kernel_rfl) (by simp only [Tk])
end
theorem VK {S:Type} (o:Obj) (ho:af o) (k:Nat):Tl o 226 (KA k:Rw S):=ai (pQ k) ⟨jh o ho k,lV o ho k,wJ o ho k,Gv o ho k,Gw o ho k,VJ o ho k,trivial⟩ Tryz.func226 (by kernel_rfl) fun f i a_r κ x h=>Eq.trans (b:=EQ k (aq κ) (fun v8 v9=>(pQ k).lp κ 5 [] k (sR f i a_r v8 v9)) f i a_r) (by kernel_rfl) (Eq.trans (by simp only [Tj];rfl) (aj h))
def KB {S:Type} (k:Nat):Rw S:=ag Yi xn fun f isFace i a_r depth κ=>aa k (rD k f isFace i a_r depth) (aq κ)
def QQ {S:Type} (k:Nat):Fx S:=fp 48 [(123,tk k),(137,la k),(210,CO k),(225,Ky k),(226,KA k)] [] k Tryz.f204 0
theorem VL {S:Type} (o:Obj) (ho:af o) (k:Nat):Tl o 204 (KB k:Rw S):=ai (QQ k) ⟨wH o ho k,lV o ho k,Gq o ho k,VI o ho k,VK o ho k,trivial⟩ Tryz.func204 (by kernel_rfl) fun f isFace i a_r depth κ x h=>Eq.trans (by kernel_rfl) (aj h)
def KC {S:Type} (k:Nat):Rw S:=ag kC xn fun s i κ=>aa k (nw k s i) (bQ κ)
def zE {S:Type} (k:Nat):Fx S:=fp 35 [(209,mK k),(228,mJ k),(235,tn k)] [(3,⟨[(1,.none),(5,some (100005,true)),(6,.none)],[]⟩,ap 5 11)] k Tryz.f227 0
def II (i:Int) (l5:List Int) (v6:Int):St UU:=⟨[(1,(iI i)),(5,(.own 100005 0)),(6,(iI v6))],[],[(100005,⟨0,ET.I,l5⟩)],[(100005,.wr)]⟩
section
variable {S:Type} (k:Nat) (s i:Int) (κ:Out UU→Option S)
theorem Tn: ∀n l5 v6,(zE k).lp κ 3 [] n (II i l5 v6)=mg k (bQ κ) i n l5 v6:=aP (uE k (bQ κ) i) rfl (fun _=>rfl) fun r l5 v6=>by kernel_rfl
end
theorem VM {S:Type} (o:Obj) (ho:af o) (k:Nat):Tl o 227 (KC k:Rw S):=ai (zE k) ⟨nL o ho k,nJ o ho k,wJ o ho k,trivial⟩ Tryz.func227 (by kernel_rfl) fun s i κ x h=>Eq.trans (b:=EB k (bQ κ) (fun l5 v6=>(zE k).lp κ 3 [] k (II i l5 v6)) s i) (by kernel_rfl) (Eq.trans (by simp only [Tn];rfl) (aj h))
def KD {S:Type} (k:Nat):Rw S:=ag BL xn fun f i κ=>aa k (rC k f i) (e7 κ)
def zF {S:Type} (k:Nat):Fx S:=fp 37 [(136,k_ k),(227,KC k)] [(3,⟨[(0,.none),(1,.none),(5,some (100005,true)),(6,.none)],[]⟩,ap 5 11)] k Tryz.f205 0
def IJ (f:List Cl) (i:Int) (out5:List Cl) (v6:Int):St UU:=⟨[(0,(sC f)),(1,(iI i)),(5,(.own 100005 0)),(6,(iI v6))],[],[(100005,⟨0,ET.C,out5⟩)],[(100005,.wr)]⟩
section
variable {S:Type} (k:Nat) (f:List Cl) (i:Int) (κ:Out UU→Option S)
theorem To: ∀n out5 v6,(zF k).lp κ 3 [] n (IJ f i out5 v6)=oE k (e7 κ) f i n out5 v6:=aP (u_ k (e7 κ) f i) rfl (fun _=>rfl) fun r out5 v6=>by kernel_rfl
end
theorem VN {S:Type} (o:Obj) (ho:af o) (k:Nat):Tl o 205 (KD k:Rw S):=ai (zF k) ⟨lU o ho k,VM o ho k,trivial⟩ Tryz.func205 (by kernel_rfl) fun f i κ x h=>Eq.trans (b:=E6 k (e7 κ) (fun out5 v6=>(zF k).lp κ 3 [] k (IJ f i out5 v6)) f i) (by kernel_rfl) (Eq.trans (by simp only [To];rfl) (aj h))
def CX {S:Type} (hd:gg S):Rw S:=ag Yj xn fun t i a_r depth drop κ=>hd t i a_r depth drop (bg κ)
def lv {S:Type} (hd:gg S) (k:Nat):Fx S:=fp 174 [(124,pf k),(165,CX hd),(182,yh k),(183,yi k),(204,KB k),(205,KD k)] [(9,⟨[(1,.none),(2,.none),(3,.none),(4,.none),(5,.none),(10,.none),(11,.none),(14,.none)],[(5,[.none,.none,.none,.none,.none,.none]),(10,[.none,.none,.none,some (200643,true),some (200644,true),some (200645,true)]),(11,[.none,.none,.none,.none,some (200708,true),some (200709,true)])]⟩,ap 9 191),(17,⟨[(1,.none),(2,.none),(3,.none),(4,.none),(5,.none),(10,.none),(11,.none),(18,.none)],[(5,[.none,.none,.none,.none,.none,.none]),(10,[.none,.none,.none,some (200643,true),some (200644,true),some (200645,true)]),(11,[.none,.none,.none,.none,some (200708,true),some (200709,true)])]⟩,ap 10 383),(27,⟨[(1,.none),(2,.none),(3,.none),(4,.none),(5,.none),(10,.none),(11,.none),(18,.none),(21,.none),(22,.none)],[(5,[.none,.none,.none,.none,.none,.none]),(10,[.none,.none,.none,some (200643,true),some (200644,true),some (200645,true)]),(11,[.none,.none,.none,.none,some (200708,true),some (200709,true)]),(21,[.none,some (201345,true)])]⟩,ap 22 1558911)] k Tryz.f165 0
def Ce (t:Tm) (i:Int) (a_r:List Cl) (depth:Int) (drop:Bool) (b11_3:List Cl) (b11_4:List Tm) (v14:Int):St UU:=⟨[(1,(iI i)),(2,(sC a_r)),(3,(iI depth)),(4,(.bool drop)),(5,(pt 5)),(10,(pt 10)),(11,(pt 11)),(14,(iI v14))],[(5,bT t),(10,.cells [(iI 0),(iI 0),(.str ByteArray.empty),(.own 200643 0),(.own 200644 0),(.own 200645 0)]),(11,.cells [(iI t.kind),(iI t.n),(.str t.name),(sC b11_3),(.own 200708 0),(.own 200709 0)])],[(200709,⟨0,ET.B,([]:List (Br Tm))⟩),(200708,⟨0,ET.T,b11_4⟩),(200645,⟨0,ET.B,([]:List (Br Tm))⟩),(200644,⟨0,ET.T,([]:List Tm)⟩),(200643,⟨0,ET.C,([]:List Cl)⟩)],[(200709,.wr),(200708,.wr),(200645,.wr),(200644,.wr),(200643,.wr)]⟩
def sS (t:Tm) (b11_3:List Cl) (b11_4:List Tm) (i:Int) (a_r:List Cl) (depth:Int) (drop:Bool) (b11_5:List (Br Tm)) (v18:Int):St UU:=⟨[(1,(iI i)),(2,(sC a_r)),(3,(iI depth)),(4,(.bool drop)),(5,(pt 5)),(10,(pt 10)),(11,(pt 11)),(18,(iI v18))],[(5,bT t),(10,.cells [(iI 0),(iI 0),(.str ByteArray.empty),(.own 200643 0),(.own 200644 0),(.own 200645 0)]),(11,.cells [(iI t.kind),(iI t.n),(.str t.name),(sC b11_3),(.own 200708 0),(.own 200709 0)])],[(200709,⟨0,ET.B,b11_5⟩),(200708,⟨0,ET.T,b11_4⟩),(200645,⟨0,ET.B,([]:List (Br Tm))⟩),(200644,⟨0,ET.T,([]:List Tm)⟩),(200643,⟨0,ET.C,([]:List Cl)⟩)],[(200709,.wr),(200708,.wr),(200645,.wr),(200644,.wr),(200643,.wr)]⟩
def IK (t:Tm) (b11_3:List Cl) (b11_4:List Tm) (b11_5:List (Br Tm)) (i v18:Int) (a_r:List Cl) (depth:Int) (drop:Bool) (b21_0:List Cl) (b21_1:List Tm) (v22:Int):St UU:=⟨[(1,(iI i)),(2,(sC a_r)),(3,(iI depth)),(4,(.bool drop)),(5,(pt 5)),(10,(pt 10)),(11,(pt 11)),(18,(iI v18)),(21,(pt 21)),(22,(iI v22))],[(5,bT t),(10,.cells [(iI 0),(iI 0),(.str ByteArray.empty),(.own 200643 0),(.own 200644 0),(.own 200645 0)]),(11,.cells [(iI t.kind),(iI t.n),(.str t.name),(sC b11_3),(.own 200708 0),(.own 200709 0)]),(21,.cells [(sC b21_0),(.own 201345 0)])],[(201345,⟨0,ET.T,b21_1⟩),(200709,⟨0,ET.B,b11_5⟩),(200708,⟨0,ET.T,b11_4⟩),(200645,⟨0,ET.B,([]:List (Br Tm))⟩),(200644,⟨0,ET.T,([]:List Tm)⟩),(200643,⟨0,ET.C,([]:List Cl)⟩)],[(201345,.wr),(200709,.wr),(200708,.wr),(200645,.wr),(200644,.wr),(200643,.wr)]⟩
section
variable {S:Type} (hd:gg S) (k:Nat) (t:Tm) (i:Int) (a_r:List Cl) (depth:Int) (drop:Bool) (κ:Out UU→Option S)
theorem Tr (b11_3 b11_4 b11_5 v18 κ1): ∀n b21_0 b21_1 v22,(lv hd k).lp κ 27 [κ1] n (IK t b11_3 b11_4 b11_5 i v18 a_r depth drop b21_0 b21_1 v22)=jx hd k (bg κ) (fun b11_5 v18=>κ1 (sS t b11_3 b11_4 i a_r depth drop b11_5 v18)) t b11_3 b11_4 b11_5 i v18 a_r depth drop n b21_0 b21_1 v22:=jA (va hd k (bg κ) t b11_3 b11_4 b11_5 i v18 a_r depth drop (fun b11_5 v18=>κ1 (sS t b11_3 b11_4 i a_r depth drop b11_5 v18))) rfl (fun _=>rfl) fun r b21_0 b21_1 v22=>by kernel_rfl
theorem Tq (b11_3 b11_4): ∀n b11_5 v18,(lv hd k).lp κ 17 [] n (sS t b11_3 b11_4 i a_r depth drop b11_5 v18)=gE hd k (bg κ) t b11_3 b11_4 i a_r depth drop n b11_5 v18:=aP (fun own=>qH hd k (bg κ) t b11_3 b11_4 i a_r depth drop (fun b11_5 v18 b21_0 b21_1 v22=>jx hd k (bg κ) own t b11_3 b11_4 b11_5 i v18 a_r depth drop k b21_0 b21_1 v22) own) rfl (fun _=>rfl) fun r b11_5 v18=>Eq.trans (b:=qH hd k (bg κ) t b11_3 b11_4 i a_r depth drop (fun b11_5 v18 b21_0 b21_1 v22=>(lv hd k).lp κ 27 [r] k (IK t b11_3 b11_4 b11_5 i v18 a_r depth drop b21_0 b21_1 v22)) (fun b11_5 v18=>r (sS t b11_3 b11_4 i a_r depth drop b11_5 v18)) b11_5 v18) (by kernel_rfl) (by simp only [Tr])
theorem Tp: ∀n b11_3 b11_4 v14,(lv hd k).lp κ 9 [] n (Ce t i a_r depth drop b11_3 b11_4 v14)=kT hd k (bg κ) t i a_r depth drop n b11_3 b11_4 v14:=jA (fun own=>qG hd k (bg κ) t i a_r depth drop (fun b11_3 b11_4 b11_5 v18=>gE hd k (bg κ) t b11_3 b11_4 i a_r depth drop k b11_5 v18) own) rfl (fun _=>rfl) fun r b11_3 b11_4 v14=>Eq.trans (b:=qG hd k (bg κ) t i a_r depth drop (fun b11_3 b11_4 b11_5 v18=>(lv hd k).lp κ 17 [] k (sS t b11_3 b11_4 i a_r depth drop b11_5 v18)) (fun b11_3 b11_4 v14=>r (Ce t i a_r depth drop b11_3 b11_4 v14)) b11_3 b11_4 v14) (by kernel_rfl) (by simp only [Tq])
end
theorem Hk {S:Type} (o:Obj) (ho:af o): ∀k:Nat,Tl o 165 (CX (fj k:gg S))
 |0=>e_ fun t i a_r depth drop κ x h=>by cases h
 |k+1=>ai (lv (fj k) k) ⟨rW o ho k,Hk o ho k,A8 o ho k,A9 o ho k,VL o ho k,VN o ho k,trivial⟩ Tryz.func165 (by kernel_rfl) fun t i a_r depth drop κ x h=>Eq.trans (b:=E7 (fj k) k (bg κ) (fun b11_3 b11_4 v14=>(lv (fj k) k).lp κ 9 [] k (Ce t i a_r depth drop b11_3 b11_4 v14)) t i a_r depth drop) (by kernel_rfl) (Eq.trans (by simp only [Tp];rfl) h)
def KE {S:Type} (k:Nat):Rw S:=ag BO xn fun t i a_r κ=>aa k (rB k t i a_r) (bg κ)
def QR {S:Type} (k:Nat):Fx S:=fp 27 [(123,tk k),(124,pf k),(165,CX (fj k))] [] k Tryz.f120 0
theorem VO {S:Type} (o:Obj) (ho:af o) (k:Nat):Tl o 120 (KE k:Rw S):=ai (QR k) ⟨wH o ho k,rW o ho k,Hk o ho k,trivial⟩ Tryz.func120 (by kernel_rfl) fun t i a_r κ x h=>Eq.trans (by kernel_rfl) (aj h)
def KF {S:Type} (k:Nat):Rw S:=ag Yk xn fun line a_r κ=>aa k (rH k line a_r) (bg κ)
def QS {S:Type} (k:Nat):Fx S:=fp 23 [(120,KE k),(124,pf k),(166,Kq k)] [] k Tryz.f121 0
theorem VQ {S:Type} (o:Obj) (ho:af o) (k:Nat):Tl o 121 (KF k:Rw S):=ai (QS k) ⟨VO o ho k,rW o ho k,Vz o ho k,trivial⟩ Tryz.func121 (by kernel_rfl) fun line a_r κ x h=>Eq.trans (by kernel_rfl) (aj h)
def tp {S:Type} (k:Nat):Rw S:=ag l_ xn fun t vars dims κ=>aa k (d_ k t vars dims) (bg κ)
def QU {S:Type} (k:Nat):Fx S:=fp 22 [(164,yk (cY k))] [] k Tryz.f117 0
theorem wK {S:Type} (o:Obj) (ho:af o) (k:Nat):Tl o 117 (tp k:Rw S):=ai (QU k) ⟨Bx o ho k,trivial⟩ Tryz.func117 (by kernel_rfl) fun t vars dims κ x h=>Eq.trans (by kernel_rfl) (aj h)
def ym {S:Type} (k:Nat):Rw S:=ag HL xn fun kind kids κ=>aa k (nE k kind kids) (bg κ)
def zG {S:Type} (k:Nat):Fx S:=fp 25 [] [(2,⟨[(0,.none),(1,.none),(4,.none),(5,.none)],[(4,[.none,.none,.none,some (200259,true),some (200260,true),some (200261,true)])]⟩,ap 4 5)] k Tryz.f118 0
def IL (kind:Int) (kids:List Tm) (i5:Int):St UU:=⟨[(0,(iI kind)),(1,(sT kids)),(4,(pt 4)),(5,(iI i5))],[(4,.cells [(iI 0),(iI 0),(.str ByteArray.empty),(.own 200259 0),(.own 200260 0),(.own 200261 0)])],[(200261,⟨0,ET.B,([]:List (Br Tm))⟩),(200260,⟨0,ET.T,([]:List Tm)⟩),(200259,⟨0,ET.C,([]:List Cl)⟩)],[(200261,.wr),(200260,.wr),(200259,.wr)]⟩
section
variable {S:Type} (k:Nat) (kind:Int) (kids:List Tm) (κ:Out UU→Option S)
theorem Ts: ∀n i5,(zG k).lp κ 2 [] n (IL kind kids i5)=oF k (bg κ) kind kids n i5:=ci (vc k (bg κ) kind kids) rfl (fun _=>rfl) fun r i5=>by kernel_rfl
end
theorem Bb {S:Type} (o:Obj) (ho:af o) (k:Nat):Tl o 118 (ym k:Rw S):=ai (zG k) trivial Tryz.func118 (by kernel_rfl) fun kind kids κ x h=>Eq.trans (b:=yV k (bg κ) (fun i5=>(zG k).lp κ 2 [] k (IL kind kids i5)) kind kids) (by kernel_rfl) (Eq.trans (by simp only [Ts];rfl) (aj h))
def pg {S:Type} (k:Nat):Rw S:=ag Yl xn fun kind a b κ=>aa k (cv k kind a b) (bg κ)
def QW {S:Type} (k:Nat):Fx S:=fp 12 [(118,ym k)] [] k Tryz.f72 0
theorem rX {S:Type} (o:Obj) (ho:af o) (k:Nat):Tl o 72 (pg k:Rw S):=ai (QW k) ⟨Bb o ho k,trivial⟩ Tryz.func72 (by kernel_rfl) fun kind a b κ x h=>Eq.trans (by kernel_rfl) (aj h)
def CY {S:Type} (k:Nat):Rw S:=ag HN xn fun line phi a a_end a_r κ=>aa k (rF k line phi a a_end a_r) (bg κ)
def QX {S:Type} (k:Nat):Fx S:=fp 44 [(72,pg k),(117,tp k),(121,KF k),(123,tk k),(124,pf k),(138,CT k)] [] k Tryz.f90 0
theorem Gx {S:Type} (o:Obj) (ho:af o) (k:Nat):Tl o 90 (CY k:Rw S):=ai (QX k) ⟨rX o ho k,wK o ho k,VQ o ho k,wH o ho k,rW o ho k,Gt o ho k,trivial⟩ Tryz.func90 (by kernel_rfl) fun line phi a a_end a_r κ x h=>Eq.trans (by kernel_rfl) (aj h)
def KH {S:Type} (k:Nat):Rw S:=ag ma xn fun line phi a κ=>aa k (AU k line phi a) (bg κ)
def QY {S:Type} (k:Nat):Fx S:=fp 14 [(90,CY k)] [] k Tryz.f45 0
theorem VS {S:Type} (o:Obj) (ho:af o) (k:Nat):Tl o 45 (KH k:Rw S):=ai (QY k) ⟨Gx o ho k,trivial⟩ Tryz.func45 (by kernel_rfl) fun line phi a κ x h=>Eq.trans (by kernel_rfl) (aj h)
def ph {S:Type} (k:Nat):Rw S:=ag fV xn fun t κ=>aa k (jd k t) (cm κ)
def QZ {S:Type} (k:Nat):Fx S:=fp 19 [(87,yj k)] [] k Tryz.f44 0
theorem rY {S:Type} (o:Obj) (ho:af o) (k:Nat):Tl o 44 (ph k:Rw S):=ai (QZ k) ⟨A_ o ho k,trivial⟩ Tryz.func44 (by kernel_rfl) fun t κ x h=>Eq.trans (by kernel_rfl) (aj h)
def KJ {S:Type} (k:Nat):Rw S:=ag ma xn fun line phi a κ=>aa k (wA k line phi a) (cm κ)
def zH {S:Type} (k:Nat):Fx S:=fp 31 [(42,pe k),(43,mL k),(44,ph k),(45,KH k)] [(1000004,⟨[(1,.none),(3,.none),(5,.none),(6,.none),(8,.none)],[(3,[.none,.none,.none,.none,.none,.none]),(5,[.none,.none,.none,.none,.none,.none]),(6,[.none,.none,.none,some (200387,true),some (200388,true),some (200389,true)])]⟩,ap 3 7)] k Tryz.f12 0
def IM (line a:Tm) (phi:List Cl) (v8:Int):St UU:=⟨[(1,(sC phi)),(3,(pt 3)),(5,(pt 5)),(6,(pt 6)),(8,(iI v8))],[(3,bT line),(5,bT a),(6,.cells [(iI 0),(iI 0),(.str ByteArray.empty),(.own 200387 0),(.own 200388 0),(.own 200389 0)])],[(200389,⟨0,ET.B,([]:List (Br Tm))⟩),(200388,⟨0,ET.T,([]:List Tm)⟩),(200387,⟨0,ET.C,([]:List Cl)⟩)],[(200389,.wr),(200388,.wr),(200387,.wr)]⟩
section
variable {S:Type} (k:Nat) (line:Tm) (phi:List Cl) (a:Tm) (κ:Out UU→Option S)
theorem Tt: ∀n v8,(zH k).jn κ 1000004 [] n (IM line a phi v8)=xu k (cm κ) line a phi n v8:=sq (qJ k (cm κ) line a phi) rfl (fun _=>rfl) (fun v8=>by kernel_rfl)
end
theorem VT {S:Type} (o:Obj) (ho:af o) (k:Nat):Tl o 12 (KJ k:Rw S):=ai (zH k) ⟨rV o ho k,nM o ho k,rY o ho k,VS o ho k,trivial⟩ Tryz.func12 (by kernel_rfl) fun line phi a κ x h=>Eq.trans (b:=E9 k (cm κ) (fun v8=>(zH k).jn κ 1000004 [] k (IM line a phi v8)) line phi a) (by kernel_rfl) (Eq.trans (by simp only [Tt];rfl) (aj h))
def KK {S:Type} (k:Nat):Rw S:=ag ma xn fun line phi a κ=>aa k (vv k line phi a) (cm κ)
def Q0 {S:Type} (k:Nat):Fx S:=fp 18 [(41,CH k)] [] k Tryz.f13 0
theorem VU {S:Type} (o:Obj) (ho:af o) (k:Nat):Tl o 13 (KK k:Rw S):=ai (Q0 k) ⟨Gk o ho k,trivial⟩ Tryz.func13 (by kernel_rfl) fun line phi a κ x h=>Eq.trans (by kernel_rfl) (aj h)
def KL {S:Type} (k:Nat):Rw S:=ag ma xn fun line phi a κ=>aa k (AT k line phi a) (bg κ)
def Q1 {S:Type} (k:Nat):Fx S:=fp 15 [(90,CY k)] [] k Tryz.f46 0
theorem VW {S:Type} (o:Obj) (ho:af o) (k:Nat):Tl o 46 (KL k:Rw S):=ai (Q1 k) ⟨Gx o ho k,trivial⟩ Tryz.func46 (by kernel_rfl) fun line phi a κ x h=>Eq.trans (by kernel_rfl) (aj h)
def KM {S:Type} (k:Nat):Rw S:=ag ma xn fun line phi a κ=>aa k (wv k line phi a) (cm κ)
def zI {S:Type} (k:Nat):Fx S:=fp 31 [(42,pe k),(43,mL k),(44,ph k),(46,KL k)] [(1000004,⟨[(1,.none),(3,.none),(5,.none),(6,.none),(8,.none)],[(3,[.none,.none,.none,.none,.none,.none]),(5,[.none,.none,.none,.none,.none,.none]),(6,[.none,.none,.none,some (200387,true),some (200388,true),some (200389,true)])]⟩,ap 3 7)] k Tryz.f14 0
def IN (line a:Tm) (phi:List Cl) (v8:Int):St UU:=⟨[(1,(sC phi)),(3,(pt 3)),(5,(pt 5)),(6,(pt 6)),(8,(iI v8))],[(3,bT line),(5,bT a),(6,.cells [(iI 0),(iI 0),(.str ByteArray.empty),(.own 200387 0),(.own 200388 0),(.own 200389 0)])],[(200389,⟨0,ET.B,([]:List (Br Tm))⟩),(200388,⟨0,ET.T,([]:List Tm)⟩),(200387,⟨0,ET.C,([]:List Cl)⟩)],[(200389,.wr),(200388,.wr),(200387,.wr)]⟩
section
variable {S:Type} (k:Nat) (line:Tm) (phi:List Cl) (a:Tm) (κ:Out UU→Option S)
theorem Tu: ∀n v8,(zI k).jn κ 1000004 [] n (IN line a phi v8)=xt k (cm κ) line a phi n v8:=sq (qI k (cm κ) line a phi) rfl (fun _=>rfl) (fun v8=>by kernel_rfl)
end
theorem VX {S:Type} (o:Obj) (ho:af o) (k:Nat):Tl o 14 (KM k:Rw S):=ai (zI k) ⟨rV o ho k,nM o ho k,rY o ho k,VW o ho k,trivial⟩ Tryz.func14 (by kernel_rfl) fun line phi a κ x h=>Eq.trans (b:=E8 k (cm κ) (fun v8=>(zI k).jn κ 1000004 [] k (IN line a phi v8)) line phi a) (by kernel_rfl) (Eq.trans (by simp only [Tu];rfl) (aj h))
def tq {S:Type} (hd:eB S):Rw S:=ag xj xn fun a b κ=>hd a b (ar κ)
def KO {S:Type} (hd:eB S) (k:Nat):Rw S:=ag Ym xn fun a b κ=>aa k (ry hd k a b) (ar κ)
def zL {S:Type} (hd:eB S) (k:Nat):Fx S:=fp 27 [(22,tq hd)] [(4,aS [0,1,5] [],ap 5 11)] k Tryz.f61 0
def IQ (a b:List Tm) (i5:Int):St UU:=⟨[(0,(sT a)),(1,(sT b)),(5,(iI i5))],[],[],[]⟩
section
variable {S:Type} (hd:eB S) (k:Nat) (a b:List Tm) (κ:Out UU→Option S)
theorem Tw: ∀n i5,(zL hd k).lp κ 4 [] n (IQ a b i5)=oD hd k (ar κ) a b n i5:=ci (u7 hd k (ar κ) a b) rfl (fun _=>rfl) fun r i5=>by kernel_rfl
end
theorem VZ {S:Type} (o:Obj) (ho:af o) (hd:eB S) (Hd:Tl o 22 (tq hd)) (k:Nat):Tl o 61 (KO hd k:Rw S):=ai (zL hd k) ⟨Hd,trivial⟩ Tryz.func61 (by kernel_rfl) fun a b κ x h=>Eq.trans (b:=E2 hd k (ar κ) (fun i5=>(zL hd k).lp κ 4 [] k (IQ a b i5)) a b) (by kernel_rfl) (Eq.trans (by simp only [Tw];rfl) (aj h))
def zJ {S:Type} (hd:eB S) (k:Nat):Fx S:=fp 87 [(24,yf k),(61,KO hd k)] [(4,aS [2,3,5] [(2,6),(3,6)],ap 5 11)] k Tryz.f22 0
def IP (a b:Tm) (i5:Int):St UU:=⟨[(2,(pt 2)),(3,(pt 3)),(5,(iI i5))],[(2,bT a),(3,bT b)],[],[]⟩
section
variable {S:Type} (hd:eB S) (k:Nat) (a b:Tm) (κ:Out UU→Option S)
theorem Tv: ∀n i5,(zJ hd k).lp κ 4 [] n (IP a b i5)=mq hd k (ar κ) a b n i5:=ci (u5 hd k (ar κ) a b) rfl (fun _=>rfl) fun r i5=>by kernel_rfl
end
theorem By {S:Type} (o:Obj) (ho:af o): ∀k:Nat,Tl o 22 (tq (d8 k:eB S))
 |0=>e_ fun a b κ x h=>by cases h
 |k+1=>ai (zJ (d8 k) k) ⟨A6 o ho k,VZ o ho (d8 k) (By o ho k) k,trivial⟩ Tryz.func22 (by kernel_rfl) fun a b κ x h=>Eq.trans (b:=E0 (d8 k) k (ar κ) (fun i5=>(zJ (d8 k) k).lp κ 4 [] k (IP a b i5)) a b) (by kernel_rfl) (Eq.trans (by simp only [Tv];rfl) h)
def CZ {S:Type} (k:Nat):Rw S:=ag Yn xn fun a a_e b a_bad κ=>aa k (ja k a a_e b a_bad) (ar κ)
def Q2 {S:Type} (k:Nat):Fx S:=fp 17 [(22,tq (d8 k))] [] k Tryz.f15 0
theorem Gy {S:Type} (o:Obj) (ho:af o) (k:Nat):Tl o 15 (CZ k:Rw S):=ai (Q2 k) ⟨By o ho k,trivial⟩ Tryz.func15 (by kernel_rfl) fun a a_e b a_bad κ x h=>Eq.trans (by kernel_rfl) (aj h)
def KP {S:Type} (k:Nat):Rw S:=ag ma xn fun line phi t κ=>aa k (AN k line phi t) (ar κ)
def Q3 {S:Type} (k:Nat):Fx S:=fp 67 [(9,CD k),(10,CK k),(11,CI k),(12,KJ k),(13,KK k),(14,KM k),(15,CZ k)] [] k Tryz.f3 0
theorem V0 {S:Type} (o:Obj) (ho:af o) (k:Nat):Tl o 3 (KP k:Rw S):=ai (Q3 k) ⟨Gf o ho k,Gn o ho k,Gl o ho k,VT o ho k,VU o ho k,VX o ho k,Gy o ho k,trivial⟩ Tryz.func3 (by kernel_rfl) fun line phi t κ x h=>Eq.trans (by kernel_rfl) (aj h)
def pi {S:Type} (hd:eC S):Rw S:=ag fV xn fun t κ=>hd t (bg κ)
def KQ {S:Type} (hd:eC S) (k:Nat):Rw S:=ag BM xn fun l κ=>aa k (rJ hd k l) (yd κ)
def zN {S:Type} (hd:eC S) (k:Nat):Fx S:=fp 19 [(65,pi hd)] [(3,⟨[(3,some (100003,true)),(6,.none),(7,.none),(8,.none)],[]⟩,ap 5 11)] k Tryz.f115 0
def IS (l:List Tm) (out3:List Tm) (v8:Int):St UU:=⟨[(3,(.own 100003 0)),(6,(sT l)),(7,(.int .i64 (l.length:Int))),(8,(iI v8))],[],[(100003,⟨0,ET.T,out3⟩)],[(100003,.wr)]⟩
section
variable {S:Type} (hd:eC S) (k:Nat) (l:List Tm) (κ:Out UU→Option S)
theorem Tz: ∀n out3 v8,(zN hd k).lp κ 3 [] n (IS l out3 v8)=oL hd k (yd κ) l n out3 v8:=aP (vi hd k (yd κ) l) rfl (fun _=>rfl) fun r out3 v8=>by kernel_rfl
end
theorem V1 {S:Type} (o:Obj) (ho:af o) (hd:eC S) (Hd:Tl o 65 (pi hd)) (k:Nat):Tl o 115 (KQ hd k:Rw S):=ai (zN hd k) ⟨Hd,trivial⟩ Tryz.func115 (by kernel_rfl) fun l κ x h=>Eq.trans (b:=Ff hd k (yd κ) (fun out3 v8=>(zN hd k).lp κ 3 [] k (IS l out3 v8)) l) (by kernel_rfl) (Eq.trans (by simp only [Tz];rfl) (aj h))
def zM {S:Type} (hd:eC S) (k:Nat):Fx S:=fp 40 [(114,Dq),(115,KQ hd k)] [(3,⟨[(2,.none),(3,.none),(20,.none),(21,.none),(22,.none)],[(2,[.none,.none,.none,some (200131,true),some (200132,true),some (200133,true)]),(3,[.none,.none,.none,.none,.none,some (200197,true)])]⟩,ap 5 11)] k Tryz.f65 0
def IR (t:Tm) (r1:List Cl) (r2:List Tm) (b3_5:List (Br Tm)) (v22:Int):St UU:=⟨[(2,(pt 2)),(3,(pt 3)),(20,(sB t.sys)),(21,(.int .i64 (t.sys.length:Int))),(22,(iI v22))],[(2,.cells [(iI 0),(iI 0),(.str ByteArray.empty),(.own 200131 0),(.own 200132 0),(.own 200133 0)]),(3,.cells [(iI t.kind),(iI t.n),(.str t.name),(sC r1),(sT r2),(.own 200197 0)])],[(200197,⟨0,ET.B,b3_5⟩),(200133,⟨0,ET.B,([]:List (Br Tm))⟩),(200132,⟨0,ET.T,([]:List Tm)⟩),(200131,⟨0,ET.C,([]:List Cl)⟩)],[(200197,.wr),(200133,.wr),(200132,.wr),(200131,.wr)]⟩
section
variable {S:Type} (hd:eC S) (k:Nat) (t:Tm) (κ:Out UU→Option S)
theorem Tx (r1 r2): ∀n b3_5 v22,(zM hd k).lp κ 3 [] n (IR t r1 r2 b3_5 v22)=oK hd k (bg κ) t r1 r2 n b3_5 v22:=aP (vh hd k (bg κ) t r1 r2) rfl (fun _=>rfl) fun r b3_5 v22=>by kernel_rfl
end
theorem w_ {S:Type} (o:Obj) (ho:af o): ∀k:Nat,Tl o 65 (pi (eG k:eC S))
 |0=>e_ fun t κ x h=>by cases h
 |k+1=>ai (zM (eG k) k) ⟨ad_ o ho,V1 o ho (eG k) (w_ o ho k) k,trivial⟩ Tryz.func65 (by kernel_rfl) fun t κ x h=>Eq.trans (b:=Fe (eG k) k (bg κ) (fun r1 r2 b3_5 v22=>(zM (eG k) k).lp κ 3 [] k (IR t r1 r2 b3_5 v22)) t) (by kernel_rfl) (Eq.trans (by simp only [Tx];rfl) h)
def C0 {S:Type} (k:Nat):Rw S:=ag Yo eS fun t a f y c0 κ=>aa k (ng k t a f y c0) (JN κ)
def Q4 {S:Type} (k:Nat):Fx S:=fx 28 (fun _=>[]) (fun _=>false) [(50,jG k),(51,pb k),(69,pd k)] [] k Tryz.f64 true [] 1
theorem Gz {S:Type} (o:Obj) (ho:af o) (k:Nat):Tl o 64 (C0 k:Rw S):=ai (Q4 k) ⟨ko o ho k,rS o ho k,rU o ho k,trivial⟩ Tryz.func64 (by kernel_rfl) fun t a f y c0 κ x h=>Eq.trans (by kernel_rfl) (aj h)
def KR {S:Type} (k:Nat):Rw S:=ag xk xn fun t a f y κ=>aa k (vA k t a f y) (cm κ)
def Q5 {S:Type} (k:Nat):Fx S:=fp 28 [(48,po k),(55,pc k),(64,C0 k),(65,pi (eG k))] [] k Tryz.f25 0
theorem V2 {S:Type} (o:Obj) (ho:af o) (k:Nat):Tl o 25 (KR k:Rw S):=ai (Q5 k) ⟨sb o ho k,rT o ho k,Gz o ho k,w_ o ho k,trivial⟩ Tryz.func25 (by kernel_rfl) fun t a f y κ x h=>Eq.trans (by kernel_rfl) (aj h)
def pj {S:Type} (k:Nat):Rw S:=ag eJ xn fun a_n κ=>aa k (eF k a_n) (CB κ)
def Q6 {S:Type} (k:Nat):Fx S:=fx 5 (fun _=>[]) (fun _=>false) [] [] k Tryz.f75 true [] 0
theorem rZ {S:Type} (o:Obj) (ho:af o) (k:Nat):Tl o 75 (pj k:Rw S):=ai (Q6 k) trivial Tryz.func75 (by kernel_rfl) fun a_n κ x h=>Eq.trans (by kernel_rfl) (aj h)
def yn {S:Type} (k:Nat):Rw S:=ag Yp xn fun kind a b c κ=>aa k (ke k kind a b c) (bg κ)
def Q7 {S:Type} (k:Nat):Fx S:=fp 15 [(118,ym k)] [] k Tryz.f116 0
theorem Bc {S:Type} (o:Obj) (ho:af o) (k:Nat):Tl o 116 (yn k:Rw S):=ai (Q7 k) ⟨Bb o ho k,trivial⟩ Tryz.func116 (by kernel_rfl) fun kind a b c κ x h=>Eq.trans (by kernel_rfl) (aj h)
def C1 {S:Type} (k:Nat):Rw S:=ag xk xn fun t a f y κ=>aa k (lS k t a f y) (bg κ)
def Q8 {S:Type} (k:Nat):Fx S:=fp 22 [(72,pg k),(75,pj k),(116,yn k),(117,tp k)] [] k Tryz.f66 0
theorem GA {S:Type} (o:Obj) (ho:af o) (k:Nat):Tl o 66 (C1 k:Rw S):=ai (Q8 k) ⟨rX o ho k,rZ o ho k,Bc o ho k,wK o ho k,trivial⟩ Tryz.func66 (by kernel_rfl) fun t a f y κ x h=>Eq.trans (by kernel_rfl) (aj h)
def KT {S:Type} (k:Nat):Rw S:=ag xk xn fun t a f y κ=>aa k (wy k t a f y) (cm κ)
def Ra {S:Type} (k:Nat):Fx S:=fp 29 [(42,pe k),(44,ph k),(66,C1 k)] [] k Tryz.f26 0
theorem V4 {S:Type} (o:Obj) (ho:af o) (k:Nat):Tl o 26 (KT k:Rw S):=ai (Ra k) ⟨rV o ho k,rY o ho k,GA o ho k,trivial⟩ Tryz.func26 (by kernel_rfl) fun t a f y κ x h=>Eq.trans (by kernel_rfl) (aj h)
def C2 {S:Type} (k:Nat):Rw S:=ag HM eS fun t c0 κ=>aa k (nf k t c0) (JN κ)
def Rb {S:Type} (k:Nat):Fx S:=fx 20 (fun _=>[]) (fun _=>false) [(50,jG k),(51,pb k),(69,pd k)] [] k Tryz.f67 true [] 1
theorem GB {S:Type} (o:Obj) (ho:af o) (k:Nat):Tl o 67 (C2 k:Rw S):=ai (Rb k) ⟨ko o ho k,rS o ho k,rU o ho k,trivial⟩ Tryz.func67 (by kernel_rfl) fun t c0 κ x h=>Eq.trans (by kernel_rfl) (aj h)
def KU {S:Type} (k:Nat):Rw S:=ag fV xn fun t κ=>aa k (vw k t) (cm κ)
def Rc {S:Type} (k:Nat):Fx S:=fp 16 [(48,po k),(55,pc k),(65,pi (eG k)),(67,C2 k)] [] k Tryz.f27 0
theorem V5 {S:Type} (o:Obj) (ho:af o) (k:Nat):Tl o 27 (KU k:Rw S):=ai (Rc k) ⟨sb o ho k,rT o ho k,w_ o ho k,GB o ho k,trivial⟩ Tryz.func27 (by kernel_rfl) fun t κ x h=>Eq.trans (by kernel_rfl) (aj h)
end
end Go.Proofs.YtapmagaejigpnaaGreatDoor
namespace Go.Proofs.YtapmagaejigpnaaGreatDoor
open Go PI
set_option linter.unusedVariables false
set_option maxRecDepth 100000
noncomputable section
def C3 {S:Type} (k:Nat):Rw S:=ag fV xn fun t κ=>aa k (lR k t) (bg κ)
def Rd {S:Type} (k:Nat):Fx S:=fp 15 [(72,pg k),(75,pj k),(116,yn k),(117,tp k)] [] k Tryz.f68 0
theorem GC {S:Type} (o:Obj) (ho:af o) (k:Nat):Tl o 68 (C3 k:Rw S):=ai (Rd k) ⟨rX o ho k,rZ o ho k,Bc o ho k,wK o ho k,trivial⟩ Tryz.func68 (by kernel_rfl) fun t κ x h=>Eq.trans (by kernel_rfl) (aj h)
def KV {S:Type} (k:Nat):Rw S:=ag fV xn fun t κ=>aa k (ww k t) (cm κ)
def Re {S:Type} (k:Nat):Fx S:=fp 17 [(42,pe k),(44,ph k),(68,C3 k)] [] k Tryz.f28 0
theorem V6 {S:Type} (o:Obj) (ho:af o) (k:Nat):Tl o 28 (KV k:Rw S):=ai (Re k) ⟨rV o ho k,rY o ho k,GC o ho k,trivial⟩ Tryz.func28 (by kernel_rfl) fun t κ x h=>Eq.trans (by kernel_rfl) (aj h)
def KW {S:Type} (k:Nat):Rw S:=ag xj xn fun t a κ=>aa k (vz k t a) (cm κ)
def Rf {S:Type} (k:Nat):Fx S:=fp 47 [(48,po k),(50,jG k),(51,pb k),(55,pc k),(64,C0 k),(65,pi (eG k)),(67,C2 k),(69,pd k)] [] k Tryz.f29 0
theorem V7 {S:Type} (o:Obj) (ho:af o) (k:Nat):Tl o 29 (KW k:Rw S):=ai (Rf k) ⟨sb o ho k,ko o ho k,rS o ho k,rT o ho k,Gz o ho k,w_ o ho k,GB o ho k,rU o ho k,trivial⟩ Tryz.func29 (by kernel_rfl) fun t a κ x h=>Eq.trans (by kernel_rfl) (aj h)
def KX {S:Type} (k:Nat):Rw S:=ag xj xn fun t a κ=>aa k (rG k t a) (bg κ)
def Rg {S:Type} (k:Nat):Fx S:=fp 27 [(66,C1 k),(68,C3 k),(72,pg k),(75,pj k),(117,tp k)] [] k Tryz.f70 0
theorem V8 {S:Type} (o:Obj) (ho:af o) (k:Nat):Tl o 70 (KX k:Rw S):=ai (Rg k) ⟨GA o ho k,GC o ho k,rX o ho k,rZ o ho k,wK o ho k,trivial⟩ Tryz.func70 (by kernel_rfl) fun t a κ x h=>Eq.trans (by kernel_rfl) (aj h)
def KY {S:Type} (k:Nat):Rw S:=ag xj xn fun t a κ=>aa k (wx k t a) (cm κ)
def Rh {S:Type} (k:Nat):Fx S:=fp 21 [(42,pe k),(44,ph k),(70,KX k)] [] k Tryz.f30 0
theorem V9 {S:Type} (o:Obj) (ho:af o) (k:Nat):Tl o 30 (KY k:Rw S):=ai (Rh k) ⟨rV o ho k,rY o ho k,V8 o ho k,trivial⟩ Tryz.func30 (by kernel_rfl) fun t a κ x h=>Eq.trans (by kernel_rfl) (aj h)
def C4 {S:Type} (k:Nat):Rw S:=ag Yq xn fun kind a κ=>aa k (je k kind a) (bg κ)
def Ri {S:Type} (k:Nat):Fx S:=fp 9 [(118,ym k)] [] k Tryz.f74 0
theorem GD {S:Type} (o:Obj) (ho:af o) (k:Nat):Tl o 74 (C4 k:Rw S):=ai (Ri k) ⟨Bb o ho k,trivial⟩ Tryz.func74 (by kernel_rfl) fun kind a κ x h=>Eq.trans (by kernel_rfl) (aj h)
def KZ {S:Type} (k:Nat):Rw S:=ag dK xn fun a_r κ=>aa k (AV k a_r) (bg κ)
def Rj {S:Type} (k:Nat):Fx S:=fp 13 [(74,C4 k),(75,pj k),(116,yn k)] [] k Tryz.f73 0
theorem V_ {S:Type} (o:Obj) (ho:af o) (k:Nat):Tl o 73 (KZ k:Rw S):=ai (Rj k) ⟨GD o ho k,rZ o ho k,Bc o ho k,trivial⟩ Tryz.func73 (by kernel_rfl) fun a_r κ x h=>Eq.trans (by kernel_rfl) (aj h)
def K3 {S:Type} (k:Nat):Rw S:=ag cn xn fun κ=>aa k (wz k) (bg κ)
def Rl {S:Type} (k:Nat):Fx S:=fp 24 [(72,pg k),(73,KZ k),(74,C4 k),(75,pj k)] [] k Tryz.f32 0
theorem Wb {S:Type} (o:Obj) (ho:af o) (k:Nat):Tl o 32 (K3 k:Rw S):=ai (Rl k) ⟨rX o ho k,V_ o ho k,GD o ho k,rZ o ho k,trivial⟩ Tryz.func32 (by kernel_rfl) fun κ x h=>Eq.trans (by kernel_rfl) (aj h)
def K4 {S:Type} (k:Nat):Rw S:=ag xk xn fun t u f y κ=>aa k (AO k t u f y) (ar κ)
def Rm {S:Type} (k:Nat):Fx S:=fp 85 [(9,CD k),(10,CK k),(15,CZ k),(22,tq (d8 k)),(25,KR k),(26,KT k),(27,KU k),(28,KV k),(29,KW k),(30,KY k),(31,CJ k),(32,K3 k)] [] k Tryz.f6 0
theorem Wc {S:Type} (o:Obj) (ho:af o) (k:Nat):Tl o 6 (K4 k:Rw S):=ai (Rm k) ⟨Gf o ho k,Gn o ho k,Gy o ho k,By o ho k,V2 o ho k,V4 o ho k,V5 o ho k,V6 o ho k,V7 o ho k,V9 o ho k,Gm o ho k,Wb o ho k,trivial⟩ Tryz.func6 (by kernel_rfl) fun t u f y κ x h=>Eq.trans (by kernel_rfl) (aj h)
theorem afu {S:Type} (o:Obj) (ho:af o) (k:Nat):Tl o 3 (KP k:Rw S):=V0 o ho k
theorem ad8 {S:Type} (o:Obj) (ho:af o) (k:Nat):Tl o 6 (K4 k:Rw S):=Wc o ho k
end
end Go.Proofs.YtapmagaejigpnaaGreatDoor
namespace Go.Proofs.YtapmagaejigpnaaGreatDoor
open Go PI
set_option linter.unusedVariables false
set_option linter.unusedSimpArgs false
variable {S:Type} {k:Nat}
def bE {α β:Type} (x:Except Int α) (f:α→Except Int β):Except Int β:=match x with
 | .error e=> .error e
 | .ok a=>f a
theorem ao {α β:Type} (a:α) (f:α→Except Int β):bE (.ok a) f=f a:=rfl
theorem fg {α β:Type} (e:Int) (f:α→Except Int β):bE (.error e) f= .error e:=rfl
theorem aM {α β:Type} {x:Except Int α} {f:α→Except Int β} {b:β} (h:bE x f= .ok b): ∃a,x= .ok a∧f a= .ok b:=by
 cases x with
 |error e=>cases h
 |ok a=>exact ⟨a,rfl,h⟩
theorem bm {α β:Type} {x:Except Int α} {f:α→Except Int β} {e:Int} (h:bE x f= .error e):x= .error e∨ ∃a,x= .ok a∧f a= .error e:=by
 cases x with
 |error e=>injection h with h;subst h;exact .inl rfl
 |ok a=>exact .inr ⟨a,rfl,h⟩
def ct (x:List Cl×Int):Except Int (List Cl):=if x.2=0 then .ok x.1 else .error x.2
theorem fL {x:List Cl×Int} (h:x.2=0):ct x= .ok x.1:=if_pos h
theorem eQ {x:List Cl×Int} (h:x.2≠0):ct x= .error x.2:=if_neg h
theorem mW {x:List Cl×Int} {l:List Cl} (h:ct x= .ok l):x.2=0∧x.1=l:=by
 unfold ct at h
 split at h
 ·next h0=>injection h with h;exact ⟨h0,h⟩
 ·cases h
theorem tR {x:List Cl×Int} {e:Int} (h:ct x= .error e):x.2≠0∧x.2=e:=by
 unfold ct at h
 split at h
 ·cases h
 ·next h0=>injection h with h;exact ⟨h0,h⟩
def EN (e:Int):Prop:=0≤e∧e≤1000
theorem lY:EN 0:=by unfold EN;omega
theorem jj:EN 2:=by unfold EN;omega
theorem W_:EN 3:=by unfold EN;omega
theorem GU:EN 10:=by unfold EN;omega
theorem oO (l:List Cl):EN (a8 l).2:=by
 unfold a8
 split
 ·split
  ·exact W_
  ·exact lY
 ·exact jj
theorem w6 {step:List Cl→Cl→List Cl×Int} (hs: ∀h c,EN (step h c).2): ∀ {r h:List Cl},EN (aR step h r).2:=by
 intro r
 induction r with
 |nil=>intro h;exact lY
 |cons c r ih=>
  intro h
  unfold aR
  split
  ·exact ih
  ·exact hs h c
theorem HY (s i b:Int):EN (ca s i b).2:=by
 unfold ca
 split
 ·exact jj
 ·unfold dN
  split
  ·exact lY
  ·split
   ·exact GU
   ·split
    ·exact GU
    ·exact lY
theorem Z4 (c:Cl) (i b:Int):EN (cJ c i b).2:=by
 unfold cJ
 split
 ·split
  ·split
   ·exact lY
   ·exact HY _ _ _
  ·exact HY _ _ _
 ·exact jj
theorem oT (f:List Cl) (i b:Int):EN (ba f i b).2:=by
 unfold ba
 split
 ·split
  ·exact oO _
  ·exact w6 fun h c=>Z4 c i b
 ·exact jj
theorem Px {n b x y:Nat} (h:cO n b x=cO n b y):x=y:=by
 unfold cO at h;split at h<;>split at h<;>omega
theorem aei (n b:Nat) {l:List Nat} (h:l.Nodup):(l.map (cO n b)).Nodup:=
 List.Pairwise.map (S:=fun a b=>a≠b) (R:=fun a b=>a≠b) _ (fun x y hxy h=>hxy (Px h)) h
theorem aab {m n b:Nat} (h:(dN m n b).2=0) (j:Nat):(dN m n b).1.testBit j=true↔ ∃x,x<24∧m.testBit x=true∧cO n b x=j:=by
 rw [BZ] at h ⊢
 split
 ·next he=>rw [if_pos he] at h;cases h
 ·rw [mU _ (aei n b (m9 m)),decide_eq_true_eq,List.mem_map]
  constructor
  ·rintro ⟨x,hx,e⟩;have:=mem_bitsN.1 hx;exact ⟨x,this.1,this.2,e⟩
  ·rintro ⟨x,h1,h2,e⟩;exact ⟨x,mem_bitsN.2 ⟨h1,h2⟩,e⟩
theorem Uo {m:Nat} (h:m<16777216):m&&&M24=m:=by
 apply Nat.eq_of_testBit_eq
 intro j
 rw [Nat.testBit_and,fM]
 cases hb:m.testBit j with
 |false=>rfl
 |true=>rw [decide_eq_true (m_ h hb)];rfl
theorem Z_ {m n b:Nat} (hm:m<16777216) (h:b=0∨24≤n):dN m n b=(m,0):=by
 rw [BZ,if_neg]
 ·have:(bL m).map (cO n b)=bL m:=by
   refine (List.map_congr_left fun x hx=> ?_).trans (List.map_id _)
   have:=(mem_bitsN.1 hx).1
   show cO n b x=x
   unfold cO;split<;>omega
  rw [this,DR,Uo hm]
 ·rintro ⟨x,hx,h1,h2⟩
  have:=(mem_bitsN.1 hx).1
  omega
theorem Z5 {c:Cl} {i b:Int} (hc:RC c) (hi:0≤i) (hb:0≤b) (h:b=0∨24≤i):cJ c i b=(c,0):=by
 have h1:c.pos.toNat<16777216:=by have:=hc.1;omega
 have h2:c.neg.toNat<16777216:=by have:=hc.2;omega
 have hs: ∀s:Int,0≤s→s.toNat<16777216→ca s i b=(s,0):=fun s h0 hs=>by
  unfold ca
  rw [if_neg (by omega),Z_ hs (by omega)]
  have:((s.toNat:Nat):Int)=s:=by omega
  rw [this];rfl
 unfold cJ
 rw [if_pos ((yz hc.ok).2 hc),hs _ hc.1.1 h1,hs _ hc.2.1 h2];rfl
theorem Xn {i b:Int}: ∀ {r h:List Cl},(aR (cz i b) h r).2=0→(∀c∈r,(cJ c i b).2=0)∧(aR (cz i b) h r).1=h++r.map fun c=>(cJ c i b).1:=by
 intro r
 induction r with
 |nil=>intro h _;exact ⟨fun c hc=>(by cases hc),by simp [aR]⟩
 |cons c r ih=>
  intro h h0
  unfold aR at h0 ⊢
  split at h0
  ·next h1=>
   have:=ih h0
   rw [if_pos h1]
   refine ⟨fun d hd=> ?_, ?_⟩
   ·rcases List.mem_cons.1 hd with rfl|hd
    ·exact h1
    ·exact this.1 d hd
   ·rw [this.2];simp [cz]
  ·next h1=>exact absurd h0 h1
theorem Xo {i b:Int}: ∀ {r h:List Cl},(∀c∈r,cJ c i b=(c,0))→aR (cz i b) h r=(h++r,0):=by
 intro r
 induction r with
 |nil=>intro h _;simp [aR]
 |cons c r ih=>
  intro h hr
  have hc:=hr c (by simp)
  unfold aR
  rw [if_pos (by show (cJ c i b).2=0;rw [hc]),ih fun d hd=>hr d (by simp [hd])]
  simp [cz,hc]
theorem Z6 {f:List Cl} {i b:Int} (hf:RF f) (hi:0≤i) (hb:0≤b) (h:b=0∨24≤i):ba f i b=(f,0):=by
 unfold ba
 rw [if_pos hf.right,Xo fun c hc=>Z5 (hf.rc hc) hi hb h,if_pos rfl]
 exact hf.1
theorem Z7 {f:List Cl} {i b:Int} (h:(ba f i b).2=0): ∀c∈(ba f i b).1,∃d∈f,(cJ d i b).2=0∧c=(cJ d i b).1:=by
 unfold ba at h ⊢
 split
 ·next hr=>
  rw [if_pos hr] at h
  split
  ·next h0=>
   rw [if_pos h0] at h
   obtain ⟨ha,hb⟩:=Xn h0
   intro c hc
   have h':a8 (aR (cz i b) [] f).1=((a8 (aR (cz i b) [] f).1).1,0):=Prod.ext rfl h
   rw [(oP h').1] at hc
   have:=(mem_mins.1 hc).1
   rw [hb,List.nil_append,List.mem_map] at this
   obtain ⟨d,hd,rfl⟩:=this
   exact ⟨d,hd,ha d hd,rfl⟩
  ·next h0=>rw [if_neg h0] at h;exact absurd h h0
 ·next hr=>rw [if_neg hr] at h;exact absurd h (by decide)
theorem UK {c:Cl}:bw c=false↔ ∀j,¬ (c.pos.toNat.testBit j=true∧c.neg.toNat.testBit j=true):=by
 unfold bw
 rw [Bool.not_eq_false',decide_eq_true_eq]
 constructor
 ·intro h j ⟨h1,h2⟩
  have:(c.pos.toNat&&&c.neg.toNat).testBit j=true:=by rw [Nat.testBit_and,h1,h2];rfl
  rw [h,Nat.zero_testBit] at this;cases this
 ·intro h
  apply Nat.eq_of_testBit_eq
  intro j
  rw [Nat.zero_testBit,Nat.testBit_and]
  cases h1:c.pos.toNat.testBit j with
  |false=>rfl
  |true=>
   cases h2:c.neg.toNat.testBit j with
   |false=>rfl
   |true=>exact absurd ⟨h1,h2⟩ (h j)
theorem HX {s i b:Int} (h:(ca s i b).2=0) {j:Nat} (hj:(ca s i b).1.toNat.testBit j=true): ∃x,s.toNat.testBit x=true∧cO i.toNat b.toNat x=j:=by
 unfold ca at h hj
 split at h
 ·cases h
 ·next hn=>
  rw [if_neg hn] at hj
  have h':(dN s.toNat i.toNat b.toNat).2=0:=by
   have:((dN s.toNat i.toNat b.toNat).2:Int)=0:=h
   omega
  obtain ⟨x,_,h2,h3⟩:=(aab h' j).1 hj
  exact ⟨x,h2,h3⟩
theorem Z3 {c:Cl} {i b:Int} (h:(cJ c i b).2=0) (hc:bw c=false):bw (cJ c i b).1=false:=by
 rw [UK] at hc ⊢
 unfold cJ at h ⊢
 split at h
 ·next hr=>
  split at h
  ·next h1=>
   split at h
   ·next h2=>
    rw [if_pos hr,if_pos h1,if_pos h2]
    rintro j ⟨ha,hb⟩
    obtain ⟨x,hx,ex⟩:=HX h1 ha
    obtain ⟨y,hy,ey⟩:=HX h2 hb
    have:=Px (ex.trans ey.symm)
    subst this
    exact hc x ⟨hx,hy⟩
   ·next h2=>exact absurd h h2
  ·next h1=>exact absurd h h1
 ·cases h
def cE (d b:Int) (f:List Cl):Except Int (List Cl):=if b=0∨d≥24 then .ok f else ct (ba f d b)
theorem Dm {d b:Int} {f g:List Cl} (hf:RF f) (h:cE d b f= .ok g):RF g:=by
 unfold cE at h
 split at h
 ·injection h with h;subst h;exact hf
 ·obtain ⟨h1,rfl⟩:=mW h;exact gI h1
theorem yA {d b:Int} {f:List Cl} {e:Int} (h:cE d b f= .error e):0<e∧e≤1000:=by
 unfold cE at h
 split at h
 ·cases h
 ·obtain ⟨h1,rfl⟩:=tR h
  have:=oT f d b
  unfold EN at this;omega
theorem ab1 {d b:Int} {f g:List Cl} (hf:f.all (fun c=> !bw c)=true) (h:cE d b f= .ok g):g.all (fun c=> !bw c)=true:=by
 unfold cE at h
 split at h
 ·injection h with h;subst h;exact hf
 ·obtain ⟨h1,rfl⟩:=mW h
  rw [List.all_eq_true] at hf ⊢
  intro c hc
  obtain ⟨e,he,h2,rfl⟩:=Z7 h1 c hc
  have:=hf e he
  rw [Bool.not_eq_true'] at this ⊢
  exact Z3 h2 this
theorem yB (d b:Int):cE d b []= .ok []:=by
 unfold cE
 split
 ·rfl
 ·rfl
mutual
def bA (vb db v d:Int):Tm→Except Int Tm
 | .mk kd n nm r ks sys=>
  if kd=1∧n≥v∧n>1000000000-vb then .error 100
  else bE (cE d db r) fun r'=>bE (eh vb db v d kd 0 ks) fun ks'=>bE (dO vb db v d kd sys) fun sys'=> .ok (.mk kd (if kd=1∧n≥v then n+vb else n) nm r' ks' sys')
def eh (vb db v d kd:Int) (i:Nat):List Tm→Except Int (List Tm)
 |[]=> .ok []
 |t::l=>bE (bA vb db (v+dE kd i) (d+bK kd i) t) fun t'=>bE (eh vb db v d kd (i+1) l) fun l'=> .ok (t'::l')
def dO (vb db v d kd:Int):List (Br Tm)→Except Int (List (Br Tm))
 |[]=> .ok []
 |b::l=>bE (my vb db v d kd b) fun b'=>bE (dO vb db v d kd l) fun l'=> .ok (b'::l')
def my (vb db v d kd:Int):Br Tm→Except Int (Br Tm)
 | .mk f ks=>bE (cE d db f) fun f'=>bE (dL vb db v d kd ks) fun ks'=> .ok (.mk f' ks')
def dL (vb db v d kd:Int):List Tm→Except Int (List Tm)
 |[]=> .ok []
 |t::l=>bE (bA vb db v (d+av kd) t) fun t'=>bE (dL vb db v d kd l) fun l'=> .ok (t'::l')
end
mutual
def RowsT:Tm→Prop
 | .mk kd n nm r ks sys=>(RF r∧(kd=1→r=[])∧0≤kd)∧dn ks∧dQ sys
def dn:List Tm→Prop
 |[]=>True
 |t::l=>RowsT t∧dn l
def dQ:List (Br Tm)→Prop
 |[]=>True
 |b::l=>lD b∧dQ l
def lD:Br Tm→Prop
 | .mk f ks=>RF f∧dn ks
end
theorem rowsK_iff: ∀ {l:List Tm},dn l↔ ∀t∈l,RowsT t:=by
 intro l
 induction l with
 |nil=>rw [dn];simp
 |cons t l ih=>rw [dn,ih];simp
theorem Dr {b:Br Tm}:lD b↔RF b.face∧ ∀t∈b.kids,RowsT t:=by cases b;rw [lD,rowsK_iff]
theorem rowsS_iff: ∀ {l:List (Br Tm)},dQ l↔ ∀b∈l,RF b.face∧ ∀t∈b.kids,RowsT t:=by
 intro l
 induction l with
 |nil=>rw [dQ];simp
 |cons t l ih=>rw [dQ,ih,Dr];simp
end Go.Proofs.YtapmagaejigpnaaGreatDoor
namespace Go.Proofs.YtapmagaejigpnaaGreatDoor
open Go PI
set_option linter.unusedVariables false
set_option linter.unusedSimpArgs false
variable {S:Type} {k:Nat}
inductive F2 {α β:Type} (R:α→β→Prop):List α→List β→Prop
 |nil:F2 R [] []
 |cons {a:α} {b:β} {l:List α} {m:List β}:R a b→F2 R l m→F2 R (a::l) (b::m)
theorem F2.len {α β:Type} {R:α→β→Prop} {l:List α} {m:List β} (h:F2 R l m):m.length=l.length:=by
 induction h with
 |nil=>rfl
 |cons _ _ ih=>simp [ih]
theorem F2.imp {α β:Type} {R Q:α→β→Prop} {l:List α} {m:List β} (h:F2 R l m) (hq: ∀a b,R a b→Q a b):F2 Q l m:=by
 induction h with
 |nil=>exact .nil
 |cons h1 _ ih=>exact .cons (hq _ _ h1) ih
theorem Z8 {vb db v d kd:Int} {R:Tm→Tm→Prop}: ∀ {l:List Tm} {i:Nat} {l':List Tm},(∀x∈l,∀v d x',bA vb db v d x= .ok x'→R x x')→eh vb db v d kd i l= .ok l'→F2 R l l':=by
 intro l
 induction l with
 |nil=>intro i l' _ h;rw [eh] at h;injection h with h;subst h;exact .nil
 |cons t l ih=>
  intro i l' hr h
  rw [eh] at h
  obtain ⟨t',h1,h⟩:=aM h
  obtain ⟨m,h2,h⟩:=aM h
  injection h with h;subst h
  exact .cons (hr t (by simp) _ _ _ h1) (ih (fun x hx=>hr x (by simp [hx])) h2)
theorem Z9 {vb db v d kd:Int} {R:Tm→Tm→Prop}: ∀ {l:List Tm} {l':List Tm},(∀x∈l,∀v d x',bA vb db v d x= .ok x'→R x x')→dL vb db v d kd l= .ok l'→F2 R l l':=by
 intro l
 induction l with
 |nil=>intro l' _ h;rw [dL] at h;injection h with h;subst h;exact .nil
 |cons t l ih=>
  intro l' hr h
  rw [dL] at h
  obtain ⟨t',h1,h⟩:=aM h
  obtain ⟨m,h2,h⟩:=aM h
  injection h with h;subst h
  exact .cons (hr t (by simp) _ _ _ h1) (ih (fun x hx=>hr x (by simp [hx])) h2)
theorem aac {vb db v d kd:Int} {R:Tm→Tm→Prop}: ∀ {l l':List (Br Tm)},(∀b∈l,∀x∈b.kids,∀v d x',bA vb db v d x= .ok x'→R x x')→dO vb db v d kd l= .ok l'→
  F2 (fun b b'=>cE d db b.face= .ok b'.face∧F2 R b.kids b'.kids) l l':=by
 intro l
 induction l with
 |nil=>intro l' _ h;rw [dO] at h;injection h with h;subst h;exact .nil
 |cons b l ih=>
  intro l' hr h
  rw [dO] at h
  obtain ⟨b',h1,h⟩:=aM h
  obtain ⟨m,h2,h⟩:=aM h
  injection h with h;subst h
  cases b with
  |mk f ks=>
   rw [my] at h1
   obtain ⟨f',h3,h1⟩:=aM h1
   obtain ⟨ks',h4,h1⟩:=aM h1
   injection h1 with h1;subst h1
   exact .cons ⟨h3,Z9 (hr ⟨f,ks⟩ (by simp)) h4⟩ (ih (fun b hb=>hr b (by simp [hb])) h2)
theorem mB {f:List Cl} {d:Int} (h:24≤d):cA f d=true:=by
 unfold cA
 rw [decide_eq_true_eq]
 intro i hi
 have:=(mem_bitsN.1 hi).1
 omega
def Up (x x':Tm):Prop:=au x'=au x∧ay x'=ay x∧x'.kind=x.kind∧(OkT x→OkT x'∧(RowsT x→RowsT x')∧ ∀dd dd',24≤dd→24≤dd'→bq false (-1) dd x=true→bq false (-1) dd' x'=true)
theorem PB {l l':List Tm} (h:F2 Up l l'):bk l'=bk l:=by
 induction h with
 |nil=>rfl
 |cons h1 _ ih=>rw [bk,bk,h1.1,ih]
theorem PE {l l':List Tm} (h:F2 Up l l'):aI l'=aI l:=by
 induction h with
 |nil=>rfl
 |cons h1 _ ih=>rw [aI,aI,h1.2.1,ih]
theorem aep {l l':List (Br Tm)} (h:F2 (fun b b':Br Tm=>F2 Up b.kids b'.kids) l l'):bN l'=bN l:=by
 induction h with
 |nil=>rfl
 |cons h1 _ ih=>rw [bN,bN,nH,nH,PB h1,ih]
theorem aeq {l l':List (Br Tm)} (h:F2 (fun b b':Br Tm=>F2 Up b.kids b'.kids) l l'):aX l'=aX l:=by
 induction h with
 |nil=>rfl
 |cons h1 _ ih=>rw [aX,aX,mV,mV,PE h1,ih]
theorem PC {l l':List Tm} (h:F2 Up l l'):ce l→ce l':=by
 induction h with
 |nil=>exact id
 |cons h1 _ ih=>rw [ce,ce];exact fun h=>⟨(h1.2.2.2 h.1).1,ih h.2⟩
theorem PD {l l':List Tm} (h:F2 Up l l'):ce l→dn l→dn l':=by
 induction h with
 |nil=>exact fun _ h=>h
 |cons h1 _ ih=>rw [ce,dn,dn];exact fun h g=>⟨(h1.2.2.2 h.1).2.1 g.1,ih h.2 g.2⟩
theorem aer (v:Int):dp (-1) v= -1:=by unfold dp;rw [if_pos (by decide)]
theorem aen {kd dd dd':Int} (h1:24≤dd) (h2:24≤dd') {l l':List Tm} (h:F2 Up l l'): ∀ {i:Nat},ce l→bZ false (-1) dd kd i l=true→bZ false (-1) dd' kd i l'=true:=by
 induction h with
 |nil=>exact fun _ h=>h
 |cons h3 _ ih=>
  intro i
  rw [ce,bZ,bZ,Bool.and_eq_true,Bool.and_eq_true,aer]
  have:=gi kd i
  exact fun h g=>⟨(h3.2.2.2 h.1).2.2 _ _ (by omega) (by omega) g.1,ih h.2 g.2⟩
theorem aeo {kd dd dd':Int} (h1:24≤dd) (h2:24≤dd') {l l':List Tm} (h:F2 Up l l'):ce l→dr false (-1) dd kd l=true→dr false (-1) dd' kd l'=true:=by
 induction h with
 |nil=>exact fun _ h=>h
 |cons h3 _ ih=>
  rw [ce,dr,dr,Bool.and_eq_true,Bool.and_eq_true]
  have:=dY kd
  exact fun h g=>⟨(h3.2.2.2 h.1).2.2 _ _ (by omega) (by omega) g.1,ih h.2 g.2⟩
def m0 (d db:Int) (b b':Br Tm):Prop:=cE d db b.face= .ok b'.face∧F2 Up b.kids b'.kids
theorem L8 {d db:Int} {f g:List Cl} (h:cE d db f= .ok g) (hf:am f) (hl:f.length<1073741824):am g∧g.length<1073741824:=by
 unfold cE at h
 split at h
 ·injection h with h;subst h;exact ⟨hf,hl⟩
 ·obtain ⟨h1,rfl⟩:=mW h
  have:=gI h1
  exact ⟨this.2,by have:=this.len;omega⟩
theorem L9 {d db:Int} {f g:List Cl} (h:cE d db f= .ok g) (hf:am f) (hr:be f=true):be g=true:=(Dm ((fH hf).1 hr) h).right
theorem L7 {d db:Int} {f g:List Cl} (h:cE d db f= .ok g) (hf:am f) (hr:bt f=true):bt g=true:=by
 unfold bt at hr ⊢
 rw [Bool.and_eq_true] at hr ⊢
 exact ⟨L9 h hf hr.1,ab1 hr.2 h⟩
theorem Dl {d db:Int} {f g:List Cl} (h:cE d db f= .ok g) (hf:f.length=0):g.length=0:=by
 have:=List.length_eq_zero_iff.1 hf
 subst this
 rw [yB] at h;injection h with h;subst h;rfl
theorem aek {d db:Int} {l l':List (Br Tm)} (h:F2 (m0 d db) l l'):bY l→bY l':=by
 induction h with
 |nil=>exact id
 |cons h1 _ ih=>
  rw [bY,bY,mF,mF]
  intro h
  have h3:=L8 h1.1 h.1.1.1 h.1.1.2.1
  exact ⟨⟨⟨h3.1,h3.2,by have:=h1.2.len;have:=h.1.1.2.2;omega⟩,okK_iff.1 (PC h1.2 (okK_iff.2 h.1.2))⟩,ih h.2⟩
theorem aem {d db:Int} {l l':List (Br Tm)} (h:F2 (m0 d db) l l'):bY l→dQ l→dQ l':=by
 induction h with
 |nil=>exact fun _ h=>h
 |cons h1 _ ih=>
  rw [bY,mF,dQ,dQ,Dr,Dr]
  intro h g
  exact ⟨⟨Dm g.1.1 h1.1,rowsK_iff.1 (PD h1.2 (okK_iff.2 h.1.2) (rowsK_iff.2 g.1.2))⟩,ih h.2 g.2⟩
theorem aej {d db kd dd dd':Int} (h1:24≤dd) (h2:24≤dd') {l l':List (Br Tm)} (h:F2 (m0 d db) l l'):bY l→cR false (-1) dd kd l=true→cR false (-1) dd' kd l'=true:=by
 induction h with
 |nil=>exact fun _ h=>h
 | @cons a b _ _ h3 _ ih=>
  rw [bY,mF,cR,cR,Bool.and_eq_true,Bool.and_eq_true]
  intro h g
  refine ⟨?_,ih h.2 g.2⟩
  cases a;cases b
  have g1:=g.1
  rw [pX] at g1 ⊢
  exact aeo h1 h2 h3.2 (okK_iff.2 h.1.2) g1
theorem ael {d db kd dd dd':Int} (h1:24≤dd) (h2:24≤dd') {l l':List (Br Tm)} (h:F2 (m0 d db) l l'):bY l→l.all (cX kd dd)=true→l'.all (cX kd dd')=true:=by
 induction h with
 |nil=>exact fun _ h=>h
 | @cons a b _ _ h3 _ ih=>
  rw [bY,mF,List.all_cons,List.all_cons,Bool.and_eq_true,Bool.and_eq_true]
  intro h g
  refine ⟨?_,ih h.2 g.2⟩
  have g1:=g.1
  unfold cX at g1 ⊢
  rw [Bool.and_eq_true,Bool.and_eq_true,decide_eq_true_eq] at g1 ⊢
  rw [h3.2.len]
  exact ⟨g1.1,L7 h3.1 h.1.1.1 g1.2.1,mB h2⟩
theorem PA {d db:Int} {l l':List (Br Tm)} (h:F2 (m0 d db) l l'):F2 (fun b b':Br Tm=>F2 Up b.kids b'.kids) l l':=h.imp fun _ _ h=>h.2
theorem B1 {vb db:Int} (hvb:0≤vb) (hvb':vb≤1000000000) (t:Tm): ∀v d t',bA vb db v d t= .ok t'→Up t t':=by
 induction t using lk with
 |h kd n nm r ks sys ih1 ih2=>
  intro v d t' h
  rw [bA] at h
  split at h
  ·cases h
  next hv=>
  obtain ⟨r',hr,h⟩:=aM h
  obtain ⟨ks',hk,h⟩:=aM h
  obtain ⟨sys',hs,h⟩:=aM h
  injection h with h;subst h
  have fk:F2 Up ks ks':=Z8 (fun x hx v d x'=>ih1 x hx v d x') hk
  have fs:F2 (m0 d db) sys sys':=aac (fun b hb x hx v d x'=>ih2 b hb x hx v d x') hs
  refine ⟨?_, ?_,rfl,fun hok=> ?_⟩
  ·rw [au,au,PB fk,aep (PA fs)]
  ·rw [ay,ay,PE fk,aeq (PA fs)]
  ·obtain ⟨o1,o2,o3,o4,o5,o6,o7⟩:=hok.node
   have hok':=hok
   rw [OkT] at hok'
   obtain ⟨_,ok,os⟩:=hok'
   have hr':=L8 hr o4 o5
   have o2':=o2
   unfold aE at o2'
   refine ⟨?_, ?_, ?_⟩
   ·rw [OkT]
    refine ⟨⟨o1, ?_,o3,hr'.1,hr'.2,by rw [fk.len];exact o6,by rw [fs.len];exact o7⟩,PC fk ok,aek fs os⟩
    unfold aE
    split
    ·next hc=>constructor<;>omega
    ·exact o2
   ·rw [RowsT,RowsT]
    rintro ⟨⟨a,b,z⟩,c,e⟩
    refine ⟨⟨Dm a hr,fun h1=> ?_,z⟩,PD fk ok c,aem fs os e⟩
    have:=b h1
    subst this
    rw [yB] at hr;injection hr with hr;exact hr.symm
   ·intro dd dd' h1 h2
    rw [bq,bq]
    simp only [Bool.false_and,Bool.not_false,Bool.true_and,Bool.and_eq_true]
    rintro ⟨a,b,c⟩
    refine ⟨?_,aen h1 h2 fk ok b,aej h1 h2 fs os c⟩
    unfold ep at a ⊢
    simp only [Bool.and_eq_true,decide_eq_true_eq,fk.len,fs.len] at a ⊢
    obtain ⟨⟨a1,a2,a3,a4⟩,a5⟩:=a
    refine ⟨⟨a1, ?_,a3,a4⟩, ?_⟩
    ·rcases a2 with a2|a2
     ·exact .inl a2
     ·by_cases h1:kd=1
      ·exact .inl h1
      ·right;rw [if_neg (fun h=>h1 h.1)];exact a2
    ·by_cases c1:kd=1
     ·rw [if_pos c1] at a5 ⊢
      simp only [Bool.and_eq_true,decide_eq_true_eq] at a5 ⊢
      refine ⟨Dl hr a5.1, ?_,.inl (by decide)⟩
      have:=a5.2.1
      split<;>omega
     ·rw [if_neg c1] at a5 ⊢
      by_cases c2:kd=2
      ·rw [if_pos c2] at a5 ⊢
       simp only [Bool.and_eq_true,decide_eq_true_eq] at a5 ⊢
       exact ⟨Dl hr a5.1,a5.2⟩
      ·rw [if_neg c2] at a5 ⊢
       by_cases c3:kd=13∨kd=21∨kd=26
       ·rw [if_pos c3] at a5 ⊢
        rw [Bool.and_eq_true] at a5 ⊢
        exact ⟨L9 hr o4 a5.1,mB h2⟩
       ·rw [if_neg c3] at a5 ⊢
        by_cases c4:kd=14
        ·rw [if_pos c4] at a5 ⊢
         rw [Bool.and_eq_true] at a5 ⊢
         exact ⟨L7 hr o4 a5.1,mB h2⟩
        ·rw [if_neg c4] at a5 ⊢
         simp only [Bool.and_eq_true,decide_eq_true_eq] at a5 ⊢
         exact ⟨ael h1 h2 fs os a5.1,Dl hr a5.2⟩
theorem Yt {kd:Int} {n:Nat} (h:ef kd=n):0≤kd:=by
 apply Classical.byContradiction
 intro h0
 unfold ef at h
 rw [if_pos (.inl (by omega))] at h
 omega
theorem Un {bd:Bool} (t:Tm): ∀ {vars dims:Int},OkT t→bq bd vars dims t=true→RowsT t:=by
 induction t using lk with
 |h kd n nm r ks sys ih1 ih2=>
  intro vars dims hok h
  rw [bq,Bool.and_eq_true,Bool.and_eq_true,Bool.and_eq_true] at h
  obtain ⟨_,a,b,c⟩:=h
  obtain ⟨o1,o2,o3,o4,o5,o6,o7⟩:=hok.node
  have hok':=hok
  rw [OkT] at hok'
  obtain ⟨_,ok,os⟩:=hok'
  have hkids: ∀ {l:List Tm} {i:Nat},(∀x∈l,∀ {vars dims:Int},OkT x→bq bd vars dims x=true→RowsT x)→ce l→bZ bd vars dims kd i l=true→dn l:=by
   intro l
   induction l with
   |nil=>intro i _ _ _;rw [dn];trivial
   |cons t l ih=>
    intro i hl ho ha
    rw [bZ,Bool.and_eq_true] at ha
    rw [ce] at ho
    rw [dn]
    exact ⟨hl t (by simp) ho.1 ha.1,ih (fun x hx=>hl x (by simp [hx])) ho.2 ha.2⟩
  rw [Aa,List.all_eq_true] at c
  unfold ep at a
  simp only [Bool.and_eq_true,decide_eq_true_eq] at a
  obtain ⟨⟨a1,a2,a3,a4⟩,a5⟩:=a
  have r0: ∀ {l:List Cl},l.length=0→RF l:=fun h=>by
   have:=List.length_eq_zero_iff.1 h;subst this;exact tz
  rw [RowsT]
  have hfaces:(sys=[]∨sys.all (cX kd dims)=true)∧RF r∧(kd=1→r=[]):=by
   have nosys:b9 kd=0→sys=[]:=fun h=>List.length_eq_zero_iff.1 (a4 h)
   by_cases c1:kd=1
   ·rw [if_pos c1] at a5
    simp only [Bool.and_eq_true,decide_eq_true_eq] at a5
    exact ⟨.inl (nosys (by subst c1;decide)),r0 a5.1,fun _=>List.length_eq_zero_iff.1 a5.1⟩
   ·rw [if_neg c1] at a5
    by_cases c2:kd=2
    ·rw [if_pos c2] at a5
     simp only [Bool.and_eq_true,decide_eq_true_eq] at a5
     exact ⟨.inl (nosys (by subst c2;decide)),r0 a5.1,fun h=>absurd h c1⟩
    ·rw [if_neg c2] at a5
     by_cases c3:kd=13∨kd=21∨kd=26
     ·rw [if_pos c3,Bool.and_eq_true] at a5
      exact ⟨.inl (nosys (by rcases c3 with rfl|rfl|rfl<;>decide)),(fH o4).1 a5.1,fun h=>absurd h c1⟩
     ·rw [if_neg c3] at a5
      by_cases c4:kd=14
      ·rw [if_pos c4,Bool.and_eq_true] at a5
       unfold bt at a5
       rw [Bool.and_eq_true] at a5
       exact ⟨.inl (nosys (by subst c4;decide)),(fH o4).1 a5.1.1,fun h=>absurd h c1⟩
      ·rw [if_neg c4] at a5
       simp only [Bool.and_eq_true,decide_eq_true_eq] at a5
       exact ⟨.inr a5.1,r0 a5.2,fun h=>absurd h c1⟩
  refine ⟨⟨hfaces.2.1,hfaces.2.2,Yt a1⟩,hkids (fun x hx=>ih1 x hx) ok b, ?_⟩
  rw [rowsS_iff]
  intro br hbr
  have hc:=c br hbr
  rw [List.all_eq_true] at hc
  have hob:=hok.br hbr
  refine ⟨?_,fun x hx=>ih2 br hbr x hx (hob.2 x hx) (hc x hx)⟩
  rcases hfaces.1 with h|h
  ·subst h;cases hbr
  ·have:=List.all_eq_true.1 h br hbr
   unfold cX bt at this
   simp only [Bool.and_eq_true] at this
   exact (fH hob.1.1).1 this.2.1.1
theorem jz {vb db:Int} (t:Tm): ∀ {v d e},bA vb db v d t= .error e→0<e∧e≤1000:=by
 induction t using lk with
 |h kd n nm r ks sys ih1 ih2=>
  intro v d e h
  rw [bA] at h
  split at h
  ·injection h with h;omega
  rcases bm h with h|⟨_,_,h⟩
  ·exact yA h
  have hkids: ∀ {l:List Tm} {i:Nat},(∀x∈l,∀ {v d e},bA vb db v d x= .error e→0<e∧e≤1000)→eh vb db v d kd i l= .error e→0<e∧e≤1000:=by
   intro l
   induction l with
   |nil=>intro i _ h;rw [eh] at h;cases h
   |cons t l ih=>
    intro i hl h
    rw [eh] at h
    rcases bm h with h|⟨_,_,h⟩
    ·exact hl t (by simp) h
    ·rcases bm h with h|⟨_,_,h⟩
     ·exact ih (fun x hx=>hl x (by simp [hx])) h
     ·cases h
  have hmore: ∀ {l:List Tm},(∀x∈l,∀ {v d e},bA vb db v d x= .error e→0<e∧e≤1000)→ ∀ {e},dL vb db v d kd l= .error e→0<e∧e≤1000:=by
   intro l
   induction l with
   |nil=>intro _ e h;rw [dL] at h;cases h
   |cons t l ih=>
    intro hl e h
    rw [dL] at h
    rcases bm h with h|⟨_,_,h⟩
    ·exact hl t (by simp) h
    ·rcases bm h with h|⟨_,_,h⟩
     ·exact ih (fun x hx=>hl x (by simp [hx])) h
     ·cases h
  have hsys: ∀ {l:List (Br Tm)},(∀b∈l,∀x∈b.kids,∀ {v d e},bA vb db v d x= .error e→0<e∧e≤1000)→dO vb db v d kd l= .error e→0<e∧e≤1000:=by
   intro l
   induction l with
   |nil=>intro _ h;rw [dO] at h;cases h
   |cons b l ih=>
    intro hl h
    rw [dO] at h
    rcases bm h with h|⟨_,_,h⟩
    ·cases b with
     |mk f ks'=>
      rw [my] at h
      rcases bm h with h|⟨_,_,h⟩
      ·exact yA h
      ·rcases bm h with h|⟨_,_,h⟩
       ·exact hmore (hl (Br.mk f ks') (by simp)) h
       ·cases h
    ·rcases bm h with h|⟨_,_,h⟩
     ·exact ih (fun b hb=>hl b (by simp [hb])) h
     ·cases h
  rcases bm h with h|⟨_,_,h⟩
  ·exact hkids (fun x hx=>ih1 x hx) h
  ·rcases bm h with h|⟨_,_,h⟩
   ·exact hsys ih2 h
   ·cases h
end Go.Proofs.YtapmagaejigpnaaGreatDoor
namespace Go.Proofs.YtapmagaejigpnaaGreatDoor
open Go PI
set_option linter.unusedVariables false
set_option linter.unusedSimpArgs false
variable {S:Type} {k:Nat}
abbrev dD:=Int→List Cl→Except Int (List Cl)
mutual
def aO (fo fa:dD) (d:Int):Tm→Except Int Tm
 | .mk kd n nm r ks sys=>bE (if kd=14 then fa d r else fo d r) fun r'=>bE (bo fo fa d kd 0 ks) fun ks'=>bE (aQ fo fa d kd sys) fun sys'=> .ok (.mk kd n nm r' ks' sys')
def bo (fo fa:dD) (d kd:Int) (i:Nat):List Tm→Except Int (List Tm)
 |[]=> .ok []
 |t::l=>bE (aO fo fa (d+bK kd i) t) fun t'=>bE (bo fo fa d kd (i+1) l) fun l'=> .ok (t'::l')
def aQ (fo fa:dD) (d kd:Int):List (Br Tm)→Except Int (List (Br Tm))
 |[]=> .ok []
 |b::l=>bE (eR fo fa d kd b) fun o=>bE (aQ fo fa d kd l) fun l'=> .ok (o++l')
def eR (fo fa:dD) (d kd:Int):Br Tm→Except Int (List (Br Tm))
 | .mk f ks=>bE (fa d f) fun f'=>if f'.length=0 then .ok [] else bE (bu fo fa d kd ks) fun ks'=> .ok [.mk f' ks']
def bu (fo fa:dD) (d kd:Int):List Tm→Except Int (List Tm)
 |[]=> .ok []
 |t::l=>bE (aO fo fa (d+av kd) t) fun t'=>bE (bu fo fa d kd l) fun l'=> .ok (t'::l')
end
theorem aet {fo fa:dD} {d kd:Int} {R:Tm→Tm→Prop}: ∀ {l:List Tm} {i:Nat} {l':List Tm},(∀x∈l,∀d x',aO fo fa d x= .ok x'→R x x')→bo fo fa d kd i l= .ok l'→F2 R l l':=by
 intro l
 induction l with
 |nil=>intro i l' _ h;rw [bo] at h;injection h with h;subst h;exact .nil
 |cons t l ih=>
  intro i l' hr h
  rw [bo] at h
  obtain ⟨t',h1,h⟩:=aM h
  obtain ⟨m,h2,h⟩:=aM h
  injection h with h;subst h
  exact .cons (hr t (by simp) _ _ h1) (ih (fun x hx=>hr x (by simp [hx])) h2)
theorem aev {fo fa:dD} {d kd:Int} {R:Tm→Tm→Prop}: ∀ {l:List Tm} {l':List Tm},(∀x∈l,∀d x',aO fo fa d x= .ok x'→R x x')→bu fo fa d kd l= .ok l'→F2 R l l':=by
 intro l
 induction l with
 |nil=>intro l' _ h;rw [bu] at h;injection h with h;subst h;exact .nil
 |cons t l ih=>
  intro l' hr h
  rw [bu] at h
  obtain ⟨t',h1,h⟩:=aM h
  obtain ⟨m,h2,h⟩:=aM h
  injection h with h;subst h
  exact .cons (hr t (by simp) _ _ h1) (ih (fun x hx=>hr x (by simp [hx])) h2)
def Wk (x x':Tm):Prop:=au x'≤au x∧ay x'≤ay x∧x'.kind=x.kind∧(OkT x→RowsT x→OkT x'∧RowsT x')
theorem PO {l l':List Tm} (h:F2 Wk l l'):bk l'≤bk l:=by
 induction h with
 |nil=>exact Nat.le_refl _
 |cons h1 _ ih=>rw [bk,bk];have:=h1.1;omega
theorem PQ {l l':List Tm} (h:F2 Wk l l'):aI l'≤aI l:=by
 induction h with
 |nil=>exact Nat.le_refl _
 |cons h1 _ ih=>rw [aI,aI];have:=h1.2.1;omega
theorem PP {l l':List Tm} (h:F2 Wk l l'):ce l→dn l→ce l'∧dn l':=by
 induction h with
 |nil=>exact fun h g=>⟨h,g⟩
 |cons h1 _ ih=>
  rw [ce,ce,dn,dn]
  intro h g
  have a:=h1.2.2.2 h.1 g.1
  have b:=ih h.2 g.2
  exact ⟨⟨a.1,b.1⟩,a.2,b.2⟩
theorem aey {fo fa:dD} {d kd:Int} (hfa: ∀d f g,RF f→fa d f= .ok g→RF g): ∀ {l l':List (Br Tm)},(∀b∈l,∀x∈b.kids,∀d x',aO fo fa d x= .ok x'→Wk x x')→aQ fo fa d kd l= .ok l'→
  bN l'≤bN l∧aX l'≤aX l∧l'.length≤l.length∧(bY l→dQ l→bY l'∧dQ l'):=by
 intro l
 induction l with
 |nil=>intro l' _ h;rw [aQ] at h;injection h with h;subst h;exact ⟨Nat.le_refl _,Nat.le_refl _,Nat.le_refl _,fun h g=>⟨h,g⟩⟩
 |cons b l ih=>
  intro l' hr h
  rw [aQ] at h
  obtain ⟨o,h1,h⟩:=aM h
  obtain ⟨m,h2,h⟩:=aM h
  injection h with h;subst h
  obtain ⟨i1,i2,i3,i4⟩:=ih (fun b hb=>hr b (by simp [hb])) h2
  cases b with
  |mk f ks=>
   rw [eR] at h1
   obtain ⟨f',h3,h1⟩:=aM h1
   split at h1
   ·injection h1 with h1;subst h1
    refine ⟨?_, ?_, ?_,fun ho hg=> ?_⟩
    ·rw [List.nil_append,bN];omega
    ·rw [List.nil_append,aX];omega
    ·rw [List.nil_append,List.length_cons];omega
    ·rw [bY] at ho;rw [dQ] at hg
     exact i4 ho.2 hg.2
   ·obtain ⟨ks',h4,h1⟩:=aM h1
    injection h1 with h1;subst h1
    have f2:F2 Wk ks ks':=aev (hr ⟨f,ks⟩ (by simp)) h4
    have hd:=PO f2
    have hs:=PQ f2
    refine ⟨?_, ?_, ?_,fun ho hg=> ?_⟩
    ·show bN (Br.mk f' ks'::m)≤_
     rw [bN,bN,rQ,rQ];omega
    ·show aX (Br.mk f' ks'::m)≤_
     rw [aX,aX,lf,lf];omega
    ·simp only [List.length_append,List.length_cons,List.length_nil];omega
    ·rw [bY,pW] at ho;rw [dQ,lD] at hg
     have a:=PP f2 ho.1.2 hg.1.2
     have b:=i4 ho.2 hg.2
     have c:=hfa d f f' hg.1.1 h3
     show bY (Br.mk f' ks'::m)∧dQ (Br.mk f' ks'::m)
     rw [bY,pW,dQ,lD]
     exact ⟨⟨⟨⟨c.2,by have:=c.len;omega,by rw [f2.len];exact ho.1.1.2.2⟩,a.1⟩,b.1⟩,⟨c,a.2⟩,b.2⟩
theorem PK {fo fa:dD} (hfo: ∀d f g,RF f→fo d f= .ok g→RF g) (hfa: ∀d f g,RF f→fa d f= .ok g→RF g) (h0: ∀d,fo d []= .ok []) (t:Tm): ∀d t',aO fo fa d t= .ok t'→Wk t t':=by
 induction t using lk with
 |h kd n nm r ks sys ih1 ih2=>
  intro d t' h
  rw [aO] at h
  obtain ⟨r',hr,h⟩:=aM h
  obtain ⟨ks',hk,h⟩:=aM h
  obtain ⟨sys',hs,h⟩:=aM h
  injection h with h;subst h
  have fk:F2 Wk ks ks':=aet ih1 hk
  obtain ⟨s1,s2,s3,s4⟩:=aey hfa ih2 hs
  refine ⟨?_, ?_,rfl,fun hok hro=> ?_⟩
  ·rw [au,au];have:=PO fk;omega
  ·rw [ay,ay];have:=PQ fk;omega
  ·rw [OkT] at hok;rw [RowsT] at hro
   obtain ⟨⟨o1,o2,o3,o4,o5,o6,o7⟩,ok,os⟩:=hok
   obtain ⟨⟨a,b,z⟩,c,e⟩:=hro
   have hk:=PP fk ok c
   have hs:=s4 os e
   have hrf:RF r':=by
    split at hr
    ·exact hfa d r r' a hr
    ·exact hfo d r r' a hr
   rw [OkT,RowsT]
   refine ⟨⟨⟨o1,o2,o3,hrf.2,by have:=hrf.len;omega,by rw [fk.len];exact o6,by omega⟩,hk.1,hs.1⟩,⟨hrf,fun h1=> ?_,z⟩,hk.2,hs.2⟩
   rw [if_neg (by omega),b h1,h0] at hr
   injection hr with hr;exact hr.symm
section
variable {fo fa:dD} {G:Int→List Cl→List Cl}
def cS (f:dD) (G:Int→List Cl→List Cl):dD:=fun d l=>bE (f d l) fun m=> .ok (G d m)
def aw (G:Int→List Cl→List Cl):dD:=fun d l=> .ok (G d l)
theorem y8 (t:Tm): ∀d,∃t',aO (aw G) (aw G) d t= .ok t':=by
 induction t using lk with
 |h kd n nm r ks sys ih1 ih2=>
  intro d
  have hk: ∀ {l:List Tm} {i:Nat},(∀x∈l,∀d,∃t',aO (aw G) (aw G) d x= .ok t')→ ∃l',bo (aw G) (aw G) d kd i l= .ok l':=by
   intro l
   induction l with
   |nil=>intro i _;exact ⟨[],by rw [bo]⟩
   |cons t l ih=>
    intro i h
    obtain ⟨t',e⟩:=h t (by simp) (d+bK kd i)
    obtain ⟨l',e'⟩:=ih (i:=i+1) fun x hx=>h x (by simp [hx])
    exact ⟨t'::l',by rw [bo,e,ao,e',ao]⟩
  have hm: ∀ {l:List Tm},(∀x∈l,∀d,∃t',aO (aw G) (aw G) d x= .ok t')→ ∃l',bu (aw G) (aw G) d kd l= .ok l':=by
   intro l
   induction l with
   |nil=>intro _;exact ⟨[],by rw [bu]⟩
   |cons t l ih=>
    intro h
    obtain ⟨t',e⟩:=h t (by simp) (d+av kd)
    obtain ⟨l',e'⟩:=ih fun x hx=>h x (by simp [hx])
    exact ⟨t'::l',by rw [bu,e,ao,e',ao]⟩
  have hs: ∀ {l:List (Br Tm)},(∀b∈l,∀x∈b.kids,∀d,∃t',aO (aw G) (aw G) d x= .ok t')→ ∃l',aQ (aw G) (aw G) d kd l= .ok l':=by
   intro l
   induction l with
   |nil=>intro _;exact ⟨[],by rw [aQ]⟩
   |cons b l ih=>
    intro h
    obtain ⟨l',e'⟩:=ih fun b hb=>h b (by simp [hb])
    cases b with
    |mk f ks=>
     obtain ⟨ks',e⟩:=hm (h ⟨f,ks⟩ (by simp))
     have: ∃o,eR (aw G) (aw G) d kd (.mk f ks)= .ok o:=by
      rw [eR,aw,ao]
      split
      ·exact ⟨_,rfl⟩
      ·exact ⟨_,by rw [e,ao]⟩
     obtain ⟨o,e3⟩:=this
     exact ⟨o++l',by rw [aQ,e3,ao,e',ao]⟩
  obtain ⟨ks',ek⟩:=hk (i:=0) ih1
  obtain ⟨sys',es⟩:=hs ih2
  refine ⟨.mk kd n nm (G d r) ks' sys', ?_⟩
  have:(if kd=14 then aw G d r else aw G d r)= .ok (G d r):=by split<;>rfl
  rw [aO,this,ao,ek,ao,es,ao]
theorem aeu (d kd:Int): ∀ (l:List Tm) (i:Nat),∃l',bo (aw G) (aw G) d kd i l= .ok l':=by
 intro l
 induction l with
 |nil=>intro i;exact ⟨[],by rw [bo]⟩
 |cons t l ih=>
  intro i
  obtain ⟨t',e⟩:=y8 (G:=G) t (d+bK kd i)
  obtain ⟨l',e'⟩:=ih (i+1)
  exact ⟨t'::l',by rw [bo,e,ao,e',ao]⟩
theorem PJ (d kd:Int): ∀ (l:List Tm),∃l',bu (aw G) (aw G) d kd l= .ok l':=by
 intro l
 induction l with
 |nil=>exact ⟨[],by rw [bu]⟩
 |cons t l ih=>
  obtain ⟨t',e⟩:=y8 (G:=G) t (d+av kd)
  obtain ⟨l',e'⟩:=ih
  exact ⟨t'::l',by rw [bu,e,ao,e',ao]⟩
theorem aes (d kd:Int) (b:Br Tm): ∃o,eR (aw G) (aw G) d kd b= .ok o:=by
 cases b with
 |mk f ks=>
  obtain ⟨ks',e⟩:=PJ (G:=G) d kd ks
  rw [eR,aw,ao]
  split
  ·exact ⟨_,rfl⟩
  ·exact ⟨_,by rw [e,ao]⟩
theorem aex (d kd:Int): ∀ (l:List (Br Tm)),∃l',aQ (aw G) (aw G) d kd l= .ok l':=by
 intro l
 induction l with
 |nil=>exact ⟨[],by rw [aQ]⟩
 |cons b l ih=>
  obtain ⟨l',e'⟩:=ih
  obtain ⟨o,e⟩:=aes (G:=G) d kd b
  exact ⟨o++l',by rw [aQ,e,ao,e',ao]⟩
theorem aew (d kd:Int): ∀ (a b:List (Br Tm)),aQ fo fa d kd (a++b)=bE (aQ fo fa d kd a) fun a'=>bE (aQ fo fa d kd b) fun b'=> .ok (a'++b'):=by
 intro a
 induction a with
 |nil=>intro b;rw [List.nil_append,aQ,ao];cases aQ fo fa d kd b<;>rfl
 |cons x a ih=>
  intro b
  rw [List.cons_append,aQ,aQ,ih]
  cases eR fo fa d kd x with
  |error e=>rfl
  |ok o=>
   rw [ao,ao]
   cases aQ fo fa d kd a with
   |error e=>rfl
   |ok a'=>
    rw [ao,ao]
    cases aQ fo fa d kd b with
    |error e=>rfl
    |ok b'=>simp only [ao,List.append_assoc]
theorem aez (hfa: ∀d f g,RF f→fa d f= .ok g→RF g) (hG: ∀d f,RF f→((G d f).length=0↔f.length=0)) (t:Tm): ∀d,RowsT t→bE (aO fo fa d t) (aO (aw G) (aw G) d)=aO (cS fo G) (cS fa G) d t:=by
 induction t using lk with
 |h kd n nm r ks sys ih1 ih2=>
  intro d hrows
  rw [RowsT] at hrows
  obtain ⟨_,hrk,hrs⟩:=hrows
  have hk: ∀ {l:List Tm} {i:Nat},(∀x∈l,∀d,RowsT x→bE (aO fo fa d x) (aO (aw G) (aw G) d)=aO (cS fo G) (cS fa G) d x)→dn l→bE (bo fo fa d kd i l) (bo (aw G) (aw G) d kd i)=bo (cS fo G) (cS fa G) d kd i l:=by
   intro l
   induction l with
   |nil=>intro i _ _;rw [bo,bo,ao,bo]
   |cons t l ih=>
    intro i h hr
    rw [dn] at hr
    have h1:=h t (by simp) (d+bK kd i) hr.1
    have h2:=ih (i:=i+1) (fun x hx=>h x (by simp [hx])) hr.2
    rw [bo,bo,←h1,←h2]
    cases aO fo fa (d+bK kd i) t with
    |error e=>rfl
    |ok t'=>
     rw [ao,ao]
     obtain ⟨t'',e⟩:=y8 (G:=G) t' (d+bK kd i)
     rw [e,ao]
     cases bo fo fa d kd (i+1) l with
     |error e=>rfl
     |ok l'=>
      rw [ao,ao,ao,bo,e,ao]
  have hm: ∀ {l:List Tm},(∀x∈l,∀d,RowsT x→bE (aO fo fa d x) (aO (aw G) (aw G) d)=aO (cS fo G) (cS fa G) d x)→dn l→bE (bu fo fa d kd l) (bu (aw G) (aw G) d kd)=bu (cS fo G) (cS fa G) d kd l:=by
   intro l
   induction l with
   |nil=>intro _ _;rw [bu,bu,ao,bu]
   |cons t l ih=>
    intro h hr
    rw [dn] at hr
    have h1:=h t (by simp) (d+av kd) hr.1
    have h2:=ih (fun x hx=>h x (by simp [hx])) hr.2
    rw [bu,bu,←h1,←h2]
    cases aO fo fa (d+av kd) t with
    |error e=>rfl
    |ok t'=>
     rw [ao,ao]
     obtain ⟨t'',e⟩:=y8 (G:=G) t' (d+av kd)
     rw [e,ao]
     cases bu fo fa d kd l with
     |error e=>rfl
     |ok l'=>
      rw [ao,ao,ao,bu,e,ao]
  have hb: ∀ {b:Br Tm},(∀x∈b.kids,∀d,RowsT x→bE (aO fo fa d x) (aO (aw G) (aw G) d)=aO (cS fo G) (cS fa G) d x)→lD b→bE (eR fo fa d kd b) (aQ (aw G) (aw G) d kd)=eR (cS fo G) (cS fa G) d kd b:=by
   intro b h hr
   cases b with
   |mk f ks'=>
    rw [lD] at hr
    have h2:=hm h hr.2
    rw [eR,eR]
    show _=bE (bE (fa d f) fun m=> .ok (G d m)) _
    cases hf:fa d f with
    |error e=>rfl
    |ok f'=>
     rw [ao,ao,ao]
     have hg:=hG d f' (hfa d f f' hr.1 hf)
     by_cases h0:f'.length=0
     ·rw [if_pos h0,if_pos (hg.2 h0),ao,aQ]
     ·rw [if_neg h0,if_neg (fun h=>h0 (hg.1 h)),←h2]
      cases bu fo fa d kd ks' with
      |error e=>rfl
      |ok l'=>
       rw [ao,ao,ao,aQ,eR]
       show bE (bE (.ok (G d f')) _) _=_
       rw [ao,if_neg (fun h=>h0 (hg.1 h))]
       obtain ⟨l'',e⟩:=PJ (G:=G) d kd l'
       rw [e,ao,ao,aQ,ao];rfl
  have hs: ∀ {l:List (Br Tm)},(∀b∈l,∀x∈b.kids,∀d,RowsT x→bE (aO fo fa d x) (aO (aw G) (aw G) d)=aO (cS fo G) (cS fa G) d x)→dQ l→bE (aQ fo fa d kd l) (aQ (aw G) (aw G) d kd)=aQ (cS fo G) (cS fa G) d kd l:=by
   intro l
   induction l with
   |nil=>intro _ _;rw [aQ,aQ,ao,aQ]
   |cons b l ih=>
    intro h hr
    rw [dQ] at hr
    have h1:=hb (h b (by simp)) hr.1
    have h2:=ih (fun b hb=>h b (by simp [hb])) hr.2
    rw [aQ,aQ,←h1,←h2]
    cases eR fo fa d kd b with
    |error e=>rfl
    |ok o=>
     rw [ao,ao]
     obtain ⟨o',e⟩:=aex (G:=G) d kd o
     rw [e,ao]
     cases aQ fo fa d kd l with
     |error e=>rfl
     |ok l'=>
      rw [ao,ao,ao,aew,e,ao]
  rw [aO,aO,←hk (i:=0) ih1 hrk,←hs ih2 hrs]
  have hrow:(if kd=14 then cS fa G d r else cS fo G d r)=bE (if kd=14 then fa d r else fo d r) fun m=> .ok (G d m):=by split<;>rfl
  rw [hrow]
  cases (if kd=14 then fa d r else fo d r) with
  |error e=>rfl
  |ok r'=>
   rw [ao,ao,ao]
   cases bo fo fa d kd 0 ks with
   |error e=>rfl
   |ok ks'=>
    rw [ao,ao]
    obtain ⟨ks'',ek⟩:=aeu (G:=G) d kd ks' 0
    rw [ek,ao]
    cases aQ fo fa d kd sys with
    |error e=>rfl
    |ok sys'=>
     rw [ao,ao,ao,aO]
     have:(if kd=14 then aw G d r' else aw G d r')= .ok (G d r'):=by split<;>rfl
     rw [this,ao,ek,ao]
end
end Go.Proofs.YtapmagaejigpnaaGreatDoor
namespace Go.Proofs.YtapmagaejigpnaaGreatDoor
open Go PI
set_option linter.unusedVariables false
set_option linter.unusedSimpArgs false
set_option maxRecDepth 20000
variable {S:Type} {k:Nat}
theorem HO (kd:Int):(kd<0∨kd>28)∨(∃n:Nat,n<29∧kd=n):=by
 by_cases h:kd<0∨kd>28
 ·exact .inl h
 ·exact .inr ⟨kd.toNat,by omega,by omega⟩
theorem acm (kd:Int) (ret:Int→Option S):wC k kd ret=ret (ef kd):=by
 simp only [wC,Pg]
 rcases HO kd with h|⟨n,hn,rfl⟩
 ·simp only [co,beq_iff_eq]
  unfold ef
  rw [if_pos h]
  repeat rw [if_neg (by omega)]
 ·unfold ef
  rw [if_neg (by omega),Int.toNat_natCast]
  match n,hn with
  |0,_=>rfl
  |1,_=>rfl
  |2,_=>rfl
  |3,_=>rfl
  |4,_=>rfl
  |5,_=>rfl
  |6,_=>rfl
  |7,_=>rfl
  |8,_=>rfl
  |9,_=>rfl
  |10,_=>rfl
  |11,_=>rfl
  |12,_=>rfl
  |13,_=>rfl
  |14,_=>rfl
  |15,_=>rfl
  |16,_=>rfl
  |17,_=>rfl
  |18,_=>rfl
  |19,_=>rfl
  |20,_=>rfl
  |21,_=>rfl
  |22,_=>rfl
  |23,_=>rfl
  |24,_=>rfl
  |25,_=>rfl
  |26,_=>rfl
  |27,_=>rfl
  |28,_=>rfl
  |n+29,h=>exact absurd h (by omega)
theorem ac_ (kd:Int) (ret:Int→Option S):rx k kd ret=ret (ef kd):=by
 simp only [rx,OO,aK]
 unfold ef
 rcases HO kd with h|⟨n,hn,rfl⟩
 ·rw [if_pos h]
  by_cases h0:kd<0
  ·rw [if_pos h0]
  ·rw [if_neg h0,if_pos (by omega)]
 ·rw [if_neg (by omega),if_neg (by omega),if_neg (by omega),nd (by omega),w9,Int.toNat_natCast]
  have h2: ∀l:List Int,n<l.length→l[n]? =some (l.getD n 0):=fun l h=>by
   rw [List.getElem?_eq_getElem h,List.getD_eq_getElem?_getD,List.getElem?_eq_getElem h];rfl
  show Option.bind (kidsT[n]?) _=_
  rw [h2 kidsT (by show n<29;exact hn)];rfl
theorem pA (kd i:Int) (ret:Int×Int→Option S):kf k kd i ret=ret (dE kd i,bK kd i):=by
 simp only [kf,Pe,co,beq_iff_eq]
 unfold dE bK
 repeat' split
 all_goals first|rfl|(exfalso;omega)
theorem DI (hk:Fu k) (kd i:Int) (ret:Int×Int→Option S):nA k kd i ret=ret (dE kd i,bK kd i):=by
 obtain ⟨q,rfl⟩: ∃q,k=q+1:=⟨k-1,by have:4294967296≤k:=hk;omega⟩
 simp only [nA,EY,BT,uZ,xo,Af,co,beq_iff_eq]
 unfold dE bK
 repeat' split
 all_goals first|rfl|(exfalso;omega)
theorem Mx (kd:Int) (ret:Int→Option S):kh k kd ret=ret (b9 kd):=by
 simp only [kh,Ph,co,beq_iff_eq]
 unfold b9
 repeat' split
 all_goals first|rfl|(exfalso;omega)
theorem M6 (kd:Int) (ret:Int→Option S):nD k kd ret=ret (b9 kd):=by
 simp only [nD,OQ,co,beq_iff_eq]
 unfold b9
 repeat' split
 all_goals first|rfl|(exfalso;omega)
theorem DM (kd:Int) (ret:Int→Option S):nC k kd ret=ret (av kd):=by
 simp only [nC,OP,co,beq_iff_eq]
 unfold av
 split<;>rfl
theorem FM (s t:ByteArray):(s==t)=decide (s=t):=by
 obtain ⟨a⟩:=s;obtain ⟨b⟩:=t
 show (a==b)=_
 rw [Bool.eq_iff_iff,beq_iff_eq,decide_eq_true_eq]
 constructor
 ·rintro rfl;rfl
 ·intro h;injection h
theorem Cp (s:ByteArray):(s==ByteArray.empty)=decide (s.size=0):=by
 rw [FM,Bool.eq_iff_iff,decide_eq_true_eq,decide_eq_true_eq]
 constructor
 ·rintro rfl;rfl
 ·intro h
  obtain ⟨⟨l⟩⟩:=s
  have:l.length=0:=h
  rw [List.length_eq_zero_iff] at this
  subst this;rfl
theorem jP (s:ByteArray):(s.size:Int)=(s.data.toList.length:Int):=by
 obtain ⟨⟨l⟩⟩:=s;rfl
theorem afo {p r:List UInt8} {x:UInt8}:jC (p++x::r)=match p with
 |[]=>dX x&&r.all fun d=>dX d||ig d
 |c::l=>(dX c&&l.all fun d=>dX d||ig d)&&((dX x||ig x)&&r.all fun d=>dX d||ig d):=by
 cases p with
 |nil=>rfl
 |cons c l=>simp [jC,Bool.and_assoc]
def fY (p:List UInt8) (r:List UInt8):Bool:=match p with
 |[]=>jC r
 |_::_=>r.all fun d=>dX d||ig d
theorem Js (p:List UInt8) (x:UInt8) (r:List UInt8):fY p (x::r)=((dX x||(decide (p≠[])&&ig x))&&fY (p++[x]) r):=by
 cases p with
 |nil=>simp [fY,jC]
 |cons c l=>simp [fY]
theorem Jt {p:List UInt8}:fY p []=decide (p.length≠0):=by
 cases p with
 |nil=>rfl
 |cons c l=>simp [fY]
theorem Zf (hk:Fu k) (ret:Bool→Option S) {s:ByteArray} (hs:s.size<2147483648):
  ∀ (r p:List UInt8) (m:Nat),s.data.toList=p++r→r.length<m→mw k ret s m (p.length:Int)=ret (fY p r):=by
 obtain ⟨q,rfl⟩: ∃q,k=q+1:=⟨k-1,by have:4294967296≤k:=hk;omega⟩
 have hs':s.data.toList.length<2147483648:=by have:=jP s;omega
 intro r
 induction r with
 |nil=>
  intro p m h hm
  obtain ⟨m,rfl,hm'⟩:=ak hm
  simp only [mw,qQ,jP,aA h,ad,Cp,Jt]
  have:s.size=p.length:=by have:=jP s;rw [h,List.append_nil] at this;omega
  rw [this]
  by_cases h0:p.length=0<;>simp [h0]
 |cons x r ih=>
  intro p m h hm
  obtain ⟨m,rfl,hm'⟩:=ak hm
  obtain ⟨e1,e2,e3,e4⟩:=az h (by omega)
  have hi:=ih (p++[x]) m e4 hm'
  rw [Js]
  simp only [mw,qQ,jP,e1,ae,e2,Option.bind_some,aK,xv,Ah,e3,hi]
  have hl: ∀b:Bool,b=dX x→ab (!b) (ab (((p.length:Nat):Int)==0) (ret false) (if ((x.toNat:Nat):Int)<48 then ret false else if ((x.toNat:Nat):Int)>57 then ret false else ret (fY (p++[x]) r))) (ret (fY (p++[x]) r))=ret ((dX x||(decide (p≠[])&&ig x))&&fY (p++[x]) r):=by
   rintro b rfl
   cases dX x with
   |true=>rw [Bool.not_true,ad];simp
   |false=>
    rw [Bool.not_false,ae,co]
    by_cases hp:p=[]
    ·subst hp;simp
    ·have h0: ¬ (((p.length:Nat):Int)==0)=true:=by
      have:0<p.length:=List.length_pos_iff.2 hp
      simp;exact hp
     rw [if_neg h0,decide_eq_true hp]
     unfold ig
     by_cases c1:x.toNat<48
     ·rw [if_pos (by omega),decide_eq_false (by omega)];simp
     ·rw [if_neg (by omega),decide_eq_true (by omega)]
      by_cases c2:x.toNat>57
      ·rw [if_pos (by omega),decide_eq_false (by omega)];simp
      ·rw [if_neg (by omega),decide_eq_true (by omega)];simp
  have hb: ∀n:Nat,(((n:Nat):Int)==95)=decide (n=95):=fun n=>by
   rw [Bool.eq_iff_iff];simp;omega
  have hlt:dX x=(decide (97≤x.toNat)&&decide (x.toNat≤122)||decide (65≤x.toNat)&&decide (x.toNat≤90)||decide (x.toNat=95)):=rfl
  by_cases c1:97≤x.toNat
  ·rw [if_pos (show ((x.toNat:Nat):Int)≥97 by omega)]
   by_cases c2:x.toNat≤122
   ·rw [if_pos (by omega)]
    exact hl true (by rw [hlt,decide_eq_true c1,decide_eq_true c2];rfl)
   ·rw [if_neg (by omega),if_pos (by omega),if_neg (by omega),hb]
    exact hl _ (by rw [hlt,decide_eq_false c2,decide_eq_false (show ¬x.toNat≤90 by omega)];simp)
  ·rw [if_neg (show ¬ ((x.toNat:Nat):Int)≥97 by omega)]
   by_cases c3:65≤x.toNat
   ·rw [if_pos (show ((x.toNat:Nat):Int)≥65 by omega)]
    by_cases c4:x.toNat≤90
    ·rw [if_pos (by omega)]
     exact hl true (by rw [hlt,decide_eq_true c3,decide_eq_true c4];simp)
    ·rw [if_neg (by omega),hb]
     exact hl _ (by rw [hlt,decide_eq_false c1,decide_eq_false c4];simp)
   ·rw [if_neg (show ¬ ((x.toNat:Nat):Int)≥65 by omega),hb]
    exact hl _ (by rw [hlt,decide_eq_false c1,decide_eq_false c3];simp)
theorem acN (hk:Fu k) {s:ByteArray} (hs:s.size<2147483648) (ret:Bool→Option S):wE k s ret=ret (jC s.data.toList):=by
 simp only [wE,Fj]
 have:=Zf hk ret hs s.data.toList [] k rfl (by have:=jP s;have:4294967296≤k:=hk;omega)
 exact this
theorem ZJ (hk:Fu k) (ret:Bool→Option S) {s:ByteArray} (hs:s.size<2147483648):
  ∀ (r p:List UInt8) (m:Nat),s.data.toList=p++r→r.length<m→mr k ret s m (p.length:Int)=ret (fY p r):=by
 obtain ⟨q,rfl⟩: ∃q,k=q+1:=⟨k-1,by have:4294967296≤k:=hk;omega⟩
 have hs':s.data.toList.length<2147483648:=by have:=jP s;omega
 intro r
 induction r with
 |nil=>
  intro p m h hm
  obtain ⟨m,rfl,hm'⟩:=ak hm
  simp only [mr,qC,jP,aA h,ad,Jt]
  rw [h,List.append_nil]
  congr 1
  rw [Bool.eq_iff_iff,decide_eq_true_eq,decide_eq_true_eq];omega
 |cons x r ih=>
  intro p m h hm
  obtain ⟨m,rfl,hm'⟩:=ak hm
  obtain ⟨e1,e2,e3,e4⟩:=az h (by omega)
  have hi:=ih (p++[x]) m e4 hm'
  rw [Js]
  have hb: ∀n:Nat,(((n:Nat):Int)==95)=decide (n=95):=fun n=>by
   rw [Bool.eq_iff_iff];simp;omega
  simp only [mr,qC,jP,e1,ae,e2,Option.bind_some,aK,xp,Ag,e3,hi,hb]
  have hlt:dX x=(decide (97≤x.toNat)&&decide (x.toNat≤122)||decide (65≤x.toNat)&&decide (x.toNat≤90)||decide (x.toNat=95)):=rfl
  have hdt:ig x=(decide (48≤x.toNat)&&decide (x.toNat≤57)):=rfl
  generalize fY (p++[x]) r=z
  have hj:(ab (!decide (x.toNat=95)) (if ((x.toNat:Nat):Int)<97 then if ((x.toNat:Nat):Int)<65 then ret false else if ((x.toNat:Nat):Int)>90 then ret false else ret z
    else if ((x.toNat:Nat):Int)>122 then if ((x.toNat:Nat):Int)<65 then ret false else if ((x.toNat:Nat):Int)>90 then ret false else ret z else ret z) (ret z))=ret (dX x&&z):=by
   rw [hlt]
   by_cases c0:x.toNat=95
   ·rw [decide_eq_true c0,Bool.not_true,ad,Bool.or_true,Bool.true_and]
   ·rw [decide_eq_false c0,Bool.not_false,ae,Bool.or_false]
    by_cases c1:97≤x.toNat
    ·rw [if_neg (by omega),decide_eq_true c1,decide_eq_false (show ¬x.toNat≤90 by omega),Bool.and_false,Bool.or_false]
     by_cases c2:x.toNat≤122
     ·rw [if_neg (by omega),decide_eq_true c2];rfl
     ·rw [if_pos (by omega),if_neg (by omega),if_pos (by omega),decide_eq_false c2];rfl
    ·rw [if_pos (by omega),decide_eq_false c1,Bool.false_and,Bool.false_or]
     by_cases c2:65≤x.toNat
     ·rw [if_neg (by omega),decide_eq_true c2]
      by_cases c3:x.toNat≤90
      ·rw [if_neg (by omega),decide_eq_true c3];rfl
      ·rw [if_pos (by omega),decide_eq_false c3];rfl
     ·rw [if_pos (by omega),decide_eq_false c2];rfl
  rw [hj]
  have hd:decide (p≠[])=decide (0<p.length):=by rw [decide_eq_decide];exact List.length_pos_iff.symm
  rw [hd,hdt]
  have hdl:48≤x.toNat∧x.toNat≤57→dX x=false:=fun h=>by
   rw [hlt,decide_eq_false (show ¬97≤x.toNat by omega),decide_eq_false (show ¬65≤x.toNat by omega),decide_eq_false (show ¬x.toNat=95 by omega)];rfl
  by_cases c1:48≤x.toNat
  ·rw [if_pos (by omega),decide_eq_true c1]
   by_cases c2:x.toNat≤57
   ·rw [if_pos (by omega),decide_eq_true c2,hdl ⟨c1,c2⟩]
    by_cases c3:0<p.length
    ·rw [if_pos (by omega),decide_eq_true c3];rfl
    ·rw [if_neg (by omega),decide_eq_false c3];rfl
   ·rw [if_neg (by omega),decide_eq_false c2,Bool.true_and,Bool.and_false,Bool.or_false]
  ·rw [if_neg (by omega),decide_eq_false c1,Bool.false_and,Bool.and_false,Bool.or_false]
theorem adh (hk:Fu k) {s:ByteArray} (hs:s.size<2147483648) (ret:Bool→Option S):wn k s ret=ret (jC s.data.toList):=by
 simp only [wn,E3]
 have:=ZJ hk ret hs s.data.toList [] k rfl (by have:=jP s;have:4294967296≤k:=hk;omega)
 exact this
end Go.Proofs.YtapmagaejigpnaaGreatDoor
namespace Go.Proofs.YtapmagaejigpnaaGreatDoor
open Go PI
set_option linter.unusedVariables false
set_option linter.unusedSimpArgs false
set_option maxRecDepth 20000
variable {S:Type} {k:Nat}
theorem oR (n:Nat):(((n:Nat):Int)==0)=decide (n=0):=by rw [Bool.eq_iff_iff];simp
theorem Zj (hk:Fu k) (ret:Bool→Option S) {t:Tm} {dims:Int} (hd:0≤dims) (hd':dims<9223372036854775808) (hs: ∀b∈t.sys,am b.face∧b.face.length<1073741824) (hlen:t.sys.length<1073741824):
  ∀ (r p:List (Br Tm)) (m:Nat),t.sys=p++r→r.length<m→jy k ret t dims m (p.length:Int)=ret (r.all (cX t.kind dims)&&decide (t.r.length=0)):=by
 intro r
 induction r with
 |nil=>
  intro p m h hm
  obtain ⟨m,rfl,hm'⟩:=ak hm
  simp only [jy,vm,aA h,ad,oR,List.all_nil,Bool.true_and]
 |cons x r ih=>
  intro p m h hm
  obtain ⟨m,rfl,hm'⟩:=ak hm
  obtain ⟨e1,e2,e3,e4⟩:=az h (by omega)
  have hx:=hs x (by rw [h];simp)
  have hb:((x.kids.length:Int)==b9 t.kind)=decide ((x.kids.length:Int)=b9 t.kind):=by rw [Bool.eq_iff_iff];simp
  simp only [jy,vm,e1,ae,e2,Option.bind_some,ah hk,Mx,tH hk hx.1 (show x.face.length<2147483648 by omega),Nc hk hx.1 (show x.face.length<4294967296 by omega) hd hd',e3,ih (p++[x]) m e4 hm',List.all_cons,hb]
  have:cX t.kind dims x=(decide ((x.kids.length:Int)=b9 t.kind)&&(bt x.face&&cA x.face dims)):=rfl
  rw [this]
  cases decide ((x.kids.length:Int)=b9 t.kind) with
  |false=>rw [Bool.not_false,ae];rfl
  |true=>
   rw [Bool.not_true,ad]
   cases bt x.face with
   |false=>rw [Bool.not_false,ae];rfl
   |true=>
    rw [Bool.not_true,ad]
    cases cA x.face dims with
    |false=>rw [Bool.not_false,ae];rfl
    |true=>rw [Bool.not_true,ad];rfl
theorem Nf {S:Type} (b c:Bool) (ret:Bool→Option S):ab b (ret c) (ret false)=ret (b&&c):=by
 cases b<;>rfl
def kY (vars dims:Int) (t:Tm):Bool:=
 if t.kind=1 then decide (t.r.length=0)&&(decide (0≤t.n)&&decide (vars<0∨t.n<vars))
   else if t.kind=2 then decide (t.r.length=0)&&jC t.name.data.toList
   else if t.kind=13∨t.kind=21∨t.kind=26 then be t.r&&cA t.r dims
   else if t.kind=14 then bt t.r&&cA t.r dims
   else t.sys.all (cX t.kind dims)&&decide (t.r.length=0)
theorem JF (vars dims:Int) (t:Tm):ep vars dims t=((decide (ef t.kind=t.kids.length)&&(decide (t.kind=1∨t.n=0)&&(decide (t.kind=2∨t.name.size=0)&&decide (b9 t.kind=0→t.sys.length=0))))&&kY vars dims t):=by
 cases t;rfl
def Ue (t:Tm):Prop:=aE t.kind∧aE t.n∧t.name.size<1073741824∧am t.r∧t.r.length<1073741824∧t.kids.length<1073741824∧t.sys.length<1073741824
theorem OkT.no {t:Tm} (h:OkT t):Ue t:=by cases t;exact h.node
theorem OkT.ki {t x:Tm} (h:OkT t) (hx:x∈t.kids):OkT x:=by cases t;exact h.kid hx
theorem OkT.bi {t:Tm} {b:Br Tm} (h:OkT t) (hb:b∈t.sys):(am b.face∧b.face.length<1073741824∧b.kids.length<1073741824)∧ ∀t∈b.kids,OkT t:=by cases t;exact h.br hb
theorem acU (hk:Fu k) {t:Tm} (ht:OkT t) {vars dims:Int} (hd:0≤dims) (hd':dims<9223372036854775808) (ret:Bool→Option S):xw k ret t vars dims k=ret (kY vars dims t):=by
 obtain ⟨o1,o2,o3,o4,o5,o6,o7⟩:=ht.no
 have hb:=fun b hb=>(ht.bi (b:=b) hb).1
 obtain ⟨q,hq⟩: ∃q,k=q+1:=⟨k-1,by have:4294967296≤k:=hk;omega⟩
 have: ∀j,j=q+1→xw k ret t vars dims j=qR k ret t vars dims (fun v109=>jy k ret t dims k v109):=by rintro j rfl;rfl
 rw [this k hq]
 have hl:=Zj hk ret hd hd' (fun b h=>⟨(hb b h).1,(hb b h).2.1⟩) o7 t.sys [] k rfl (by have:4294967296≤k:=hk;omega)
 have hl:jy k ret t dims k 0=_:=hl
 simp only [qR,ah hk,acN hk (show t.name.size<2147483648 by omega),pD hk o4 (show t.r.length<2147483648 by omega),tH hk o4 (show t.r.length<2147483648 by omega),Nc hk o4 (show t.r.length<4294967296 by omega) hd hd',hl,oR,Nf]
 have hv:ab (decide (t.n≥0)) (ab (decide (vars<0)) (ret true) (ret (decide (t.n<vars)))) (ret false)=ret (decide (0≤t.n)&&decide (vars<0∨t.n<vars)):=by
  rw [aK,aK]
  by_cases h1:t.n≥0
  ·rw [if_pos h1,decide_eq_true (show 0≤t.n from h1),Bool.true_and]
   by_cases h2:vars<0
   ·rw [if_pos h2,decide_eq_true (.inl h2)]
   ·rw [if_neg h2];congr 1;rw [decide_eq_decide];omega
  ·rw [if_neg h1,decide_eq_false (show ¬0≤t.n from h1)];rfl
 rw [hv,Nf]
 simp only [co,beq_iff_eq]
 unfold kY
 by_cases c1:t.kind=1
 ·rw [if_pos c1,if_pos c1]
 ·rw [if_neg c1,if_neg c1]
  by_cases c2:t.kind=2
  ·rw [if_pos c2,if_pos c2]
  ·rw [if_neg c2,if_neg c2]
   by_cases c3:t.kind=13
   ·rw [if_pos c3,if_pos (.inl c3)]
   ·rw [if_neg c3]
    by_cases c4:t.kind=21
    ·rw [if_pos c4,if_pos (.inr (.inl c4))]
    ·rw [if_neg c4]
     by_cases c5:t.kind=26
     ·rw [if_pos c5,if_pos (.inr (.inr c5))]
     ·rw [if_neg c5,if_neg (show ¬ (t.kind=13∨t.kind=21∨t.kind=26) by omega)]
      by_cases c6:t.kind=14
      ·rw [if_pos c6,if_pos c6]
      ·rw [if_neg c6,if_neg c6]
theorem acT (hk:Fu k) {t:Tm} (ht:OkT t) {vars dims:Int} (hd:0≤dims) (hd':dims<9223372036854775808) (ret:Bool→Option S):rL k t vars dims ret=ret (ep vars dims t):=by
 have hq:(ef t.kind==(t.kids.length:Int))=decide (ef t.kind=t.kids.length):=by rw [Bool.eq_iff_iff];simp
 have hp:(b9 t.kind==0)=decide (b9 t.kind=0):=a7 _
 simp only [rL,Fk,ah hk,acm,Mx,acU hk ht hd hd',Cp,hq,hp,a7,JF]
 have hsy:ab (decide (b9 t.kind=0)) (ab (decide (((t.sys.length:Nat):Int)>0)) (ret false) (ret (kY vars dims t))) (ret (kY vars dims t))=ret (decide (b9 t.kind=0→t.sys.length=0)&&kY vars dims t):=by
  rw [aK,aK]
  by_cases h1:b9 t.kind=0
  ·rw [if_pos h1]
   by_cases h2:t.sys.length=0
   ·rw [if_neg (by omega),decide_eq_true (fun _=>h2)];rfl
   ·rw [if_pos (by omega),decide_eq_false (fun h=>h2 (h h1))];rfl
  ·rw [if_neg h1,decide_eq_true (fun h=>absurd h h1)];rfl
 simp only [hsy]
 have hk1: ∀n:Int,(t.kind==n)=decide (t.kind=n):=fun n=>by rw [Bool.eq_iff_iff];simp
 rw [hk1,hk1]
 generalize decide (b9 t.kind=0→t.sys.length=0)=P
 generalize kY vars dims t=Q
 cases decide (ef t.kind=t.kids.length) with
 |false=>rw [Bool.not_false,ae];rfl
 |true=>
  rw [Bool.not_true,ad,Bool.true_and]
  by_cases c1:t.kind=1
  ·rw [decide_eq_true c1,Bool.not_true,ad,decide_eq_true (p:=t.kind=1∨t.n=0) (.inl c1),Bool.true_and]
   by_cases c2:t.kind=2
   ·omega
   ·rw [decide_eq_false c2,Bool.not_false,ae]
    by_cases c3:t.name.size=0
    ·rw [decide_eq_true c3,Bool.not_true,ad,decide_eq_true (p:=t.kind=2∨t.name.size=0) (.inr c3),Bool.true_and]
    ·rw [decide_eq_false c3,Bool.not_false,ae,decide_eq_false (p:=t.kind=2∨t.name.size=0) (by omega)];rfl
  ·rw [decide_eq_false c1,Bool.not_false,ae]
   by_cases c4:t.n=0
   ·rw [decide_eq_true c4,Bool.not_true,ad,decide_eq_true (p:=t.kind=1∨t.n=0) (.inr c4),Bool.true_and]
    by_cases c2:t.kind=2
    ·rw [decide_eq_true c2,Bool.not_true,ad,decide_eq_true (p:=t.kind=2∨t.name.size=0) (.inl c2),Bool.true_and]
    ·rw [decide_eq_false c2,Bool.not_false,ae]
     by_cases c3:t.name.size=0
     ·rw [decide_eq_true c3,Bool.not_true,ad,decide_eq_true (p:=t.kind=2∨t.name.size=0) (.inr c3),Bool.true_and]
     ·rw [decide_eq_false c3,Bool.not_false,ae,decide_eq_false (p:=t.kind=2∨t.name.size=0) (by omega)];rfl
   ·rw [decide_eq_false c4,Bool.not_false,ae,decide_eq_false (p:=t.kind=1∨t.n=0) (by omega)];rfl
end Go.Proofs.YtapmagaejigpnaaGreatDoor
namespace Go.Proofs.YtapmagaejigpnaaGreatDoor
open Go PI
set_option linter.unusedVariables false
set_option linter.unusedSimpArgs false
set_option maxRecDepth 20000
variable {S:Type} {k:Nat}
abbrev Fd (k n:Nat):Prop:=4294967296+n≤k
theorem Fd.fu {n:Nat} (h:Fd k n):Fu k:=by have:4294967296+n≤k:=h;show 4294967296≤k;omega
theorem Fd.pos {n:Nat} (h:Fd k n): ∃q,k=q+1∧ ∀j,j+1≤n→Fd q j:=⟨k-1,by have:4294967296+n≤k:=h;omega,fun j hj=>by have:4294967296+n≤k:=h;show 4294967296+j≤k-1;omega⟩
theorem Fd.pos' {n:Nat} (h:Fd k n) (hn:1≤n): ∃q,k=q+1∧Fu q∧ ∀j,j+1≤n→Fd q j:=⟨k-1,by have:4294967296+n≤k:=h;omega,by have:4294967296+n≤k:=h;show 4294967296≤k-1;omega,fun j hj=>by have:4294967296+n≤k:=h;show 4294967296+j≤k-1;omega⟩
theorem c8 (t:Tm):1≤au t:=by cases t;rw [au];omega
theorem rR (t:Tm):au t=max (bk t.kids) (bN t.sys)+1:=by cases t;rw [au];rfl
theorem DS (t:Tm):ay t=1+aI t.kids+aX t.sys:=by cases t;rw [ay];rfl
theorem c7 {t x:Tm} (h:x∈t.kids):au x+1≤au t:=by rw [rR t];have:=Gb h;omega
theorem cZ {t:Tm} {b:Br Tm} {x:Tm} (hb:b∈t.sys) (h:x∈b.kids):au x+1≤au t:=by rw [rR t];have:=Gb h;have:=UY hb;omega
theorem d4 {Q:Tm→Prop} (h: ∀t,(∀x∈t.kids,Q x)→(∀b∈t.sys,∀x∈b.kids,Q x)→Q t) (t:Tm):Q t:=lk (fun kd n nm r ks sys h1 h2=>h (.mk kd n nm r ks sys) h1 h2) t
theorem rP {p q:Prop} [Decidable p] [Decidable q] (h:p↔q):decide p=decide q:=decide_eq_decide.2 h
theorem DP {α:Type} (b c:Bool) (x y:α):ab (!b) y (if c then x else y)=if b&&c then x else y:=by cases b<;>cases c<;>rfl
theorem iF {S:Type} (b c:Bool) (ret:Bool→Option S):ab (!b) (ret false) (ret c)=ret (b&&c):=by cases b<;>rfl
theorem BG {S:Type} (b c:Bool) (ret:Bool→Option S):(if b=true then ret c else ret false)=ret (b&&c):=by cases b<;>rfl
theorem bh {n:Int} (h1: -9223372036854775808≤n) (h2:n<9223372036854775808):IntKind.wrap .i64 n=n:=dq h1 h2
section
variable {hd:Tm→Int→(Bool→Option S)→Option S} {c0:Int} {t:Tm} {Q:Tm→Bool}
theorem YX (hk:Fu k) (ret:Bool→Option S) (rec1:Int→Int→Option S) (hc: -9223372036854775807≤c0) (hc':c0<9223372036854775808) {v more:Int} {x:Br Tm} (hQ: ∀y∈x.kids,∀g,hd y (c0-1) g=g (Q y)) (hl:x.kids.length<1073741824):
  ∀ (r p:List Tm) (m:Nat),x.kids=p++r→r.length<m→kV hd k ret rec1 c0 t v x more m (p.length:Int)=if r.all Q then rec1 (IntKind.wrap .i64 (v+1)) more else ret false:=by
 intro r
 induction r with
 |nil=>
  intro p m h hm
  obtain ⟨m,rfl,hm'⟩:=ak hm
  simp only [kV,vl,aA h,ad];rfl
 |cons y r ih=>
  intro p m h hm
  obtain ⟨m,rfl,hm'⟩:=ak hm
  obtain ⟨e1,e2,e3,e4⟩:=az h (by omega)
  have hy:=hQ y (by rw [h];simp)
  simp only [kV,vl,e1,ae,e2,Option.bind_some,ah hk,rM,Fl,aD,bh (show-9223372036854775808≤c0-1 by omega) (by omega),hy,e3,ih (p++[y]) m e4 hm',DP]
  rfl
theorem YW (hk:Fu k) (ret:Bool→Option S) (hc: -9223372036854775807≤c0) (hc':c0<9223372036854775808) {more:Int} (hQ: ∀b∈t.sys,∀y∈b.kids,∀g,hd y (c0-1) g=g (Q y)) (hl:t.sys.length<1073741824) (hl': ∀b∈t.sys,b.kids.length<1073741824):
  ∀ (r p:List (Br Tm)) (m:Nat),t.sys=p++r→r.length<m→gH hd k ret c0 t m (p.length:Int) more=ret (r.all fun b=>b.kids.all Q):=by
 intro r
 induction r with
 |nil=>
  intro p m h hm
  obtain ⟨m,rfl,hm'⟩:=ak hm
  simp only [gH,qP,aA h,ad];rfl
 |cons x r ih=>
  intro p m h hm
  obtain ⟨m,rfl,hm'⟩:=ak hm
  obtain ⟨e1,e2,e3,e4⟩:=az h (by omega)
  have hx:x∈t.sys:=by rw [h];simp
  have hlx:=hl' x hx
  have:=YX (t:=t) hk ret (gH hd k ret c0 t m) (v:=(p.length:Int)) (more:=more) hc hc' (hQ x hx) hlx x.kids [] k rfl (by have:4294967296≤k:=hk;omega)
  have this:kV hd k ret (gH hd k ret c0 t m) c0 t (p.length:Int) x more k 0=_:=this
  simp only [gH,qP,e1,ae,e2,Option.bind_some,this,e3,ih (p++[x]) m e4 hm',BG]
  rfl
theorem YV (hk:Fu k) (ret:Bool→Option S) (hc: -9223372036854775807≤c0) (hc':c0<9223372036854775808) (hQ: ∀y∈t.kids,∀g,hd y (c0-1) g=g (Q y)) (hQ': ∀b∈t.sys,∀y∈b.kids,∀g,hd y (c0-1) g=g (Q y)) (ht:OkT t):
  ∀ (r p:List Tm) (m:Nat),t.kids=p++r→r.length<m→oM hd k ret c0 t m (p.length:Int)=ret (r.all Q&&t.sys.all fun b=>b.kids.all Q):=by
 obtain ⟨o1,o2,o3,o4,o5,o6,o7⟩:=ht.no
 intro r
 induction r with
 |nil=>
  intro p m h hm
  obtain ⟨m,rfl,hm'⟩:=ak hm
  have hs: ∀more:Int,gH hd k ret c0 t k 0 more=_:=fun more=>YW hk ret hc hc' (more:=more) hQ' o7 (fun b hb=>(ht.bi hb).1.2.2) t.sys [] k rfl (by have:4294967296≤k:=hk;omega)
  simp only [oM,qO,aA h,ad,hs]
  cases (t.kind==15)<;>rfl
 |cons y r ih=>
  intro p m h hm
  obtain ⟨m,rfl,hm'⟩:=ak hm
  obtain ⟨e1,e2,e3,e4⟩:=az h (by omega)
  have hy:=hQ y (by rw [h];simp)
  simp only [oM,qO,e1,ae,e2,Option.bind_some,ah hk,pA,rM,Fl,aD,bh (show-9223372036854775808≤c0-1 by omega) (by omega),hy,e3,ih (p++[y]) m e4 hm',iF,List.all_cons,Bool.and_assoc]
end
theorem F_ {n:Int} (hn:0≤n): ∀ {l:List Tm},(l.all fun x=>decide ((au x:Int)≤n))=decide ((bk l:Int)≤n):=by
 intro l
 induction l with
 |nil=>rw [bk];simp [hn]
 |cons t l ih=>rw [List.all_cons,ih,bk,Bool.eq_iff_iff];simp;omega
theorem UW {n:Int} (hn:0≤n): ∀ {l:List (Br Tm)},(l.all fun b=>b.kids.all fun x=>decide ((au x:Int)≤n))=decide ((bN l:Int)≤n):=by
 intro l
 induction l with
 |nil=>rw [bN];simp [hn]
 |cons b l ih=>rw [List.all_cons,ih,F_ hn,bN,nH,Bool.eq_iff_iff];simp;omega
theorem adl (t:Tm):OkT t→ ∀ {k:Nat} {left:Int} (ret:Bool→Option S),Fd k (au t)→ -4611686018427387904≤left→left<4611686018427387904→h_ k t left ret=ret (decide ((au t:Int)≤left)):=by
 induction t using d4 with
 |h t ih1 ih2=>
  intro ht k left ret hk h1 h2
  obtain ⟨q,rfl,hq,hf⟩:=hk.pos' (c8 t)
  simp only [h_,Pk,aK,aD,ah hq]
  by_cases h0:left>0
  ·rw [if_pos h0]
   have hQ: ∀y∈t.kids,∀g:Bool→Option S,h_ q y (left-1) g=g (decide ((au y:Int)≤left-1)):=fun y hy g=>ih1 y hy (ht.ki hy) g (hf _ (c7 hy)) (by omega) (by omega)
   have hQ': ∀b∈t.sys,∀y∈b.kids,∀g:Bool→Option S,h_ q y (left-1) g=g (decide ((au y:Int)≤left-1)):=fun b hb y hy g=>ih2 b hb y hy ((ht.bi hb).2 y hy) g (hf _ (cZ hb hy)) (by omega) (by omega)
   have:=YV (Q:=fun y=>decide ((au y:Int)≤left-1)) hq ret (by omega) (by omega) hQ hQ' ht t.kids [] q rfl (by have:=ht.no.2.2.2.2.2.1;have:4294967296≤q:=hq;omega)
   simp only [A0,Fi]
   refine Eq.trans this ?_
   rw [F_ (by omega),UW (by omega),rR]
   congr 1
   rw [Bool.eq_iff_iff];simp;omega
  ·rw [if_neg h0,decide_eq_false (by have:=c8 t;omega)]
section
variable {hd:Tm→Int→(Bool×Int→Option S)→Option S} {t:Tm}
def pJ (hd:Tm→Int→(Bool×Int→Option S)→Option S) (k:Nat) (y:Tm):Prop:= ∀ (c:Int) (g:Bool×Int→Option S),0≤c→c<4611686018427387904→
 ∃v,nF hd k y c g=g (decide ((ay y:Int)≤c),v)∧((ay y:Int)≤c→v=c-ay y)
theorem YU (hk:Fu k) (ret:Bool×Int→Option S) (rec1:Int→Int→Int→Option S) {v more:Int} {x:Br Tm} (hQ: ∀y∈x.kids,pJ hd k y) (hl:x.kids.length<1073741824):
  ∀ (r p:List Tm) (m:Nat) (c:Int),0≤c→c<4611686018427387904→x.kids=p++r→r.length<m→
  ((aI r:Int)≤c→gF hd k ret rec1 t v x more m c (p.length:Int)=rec1 (c-aI r) (IntKind.wrap .i64 (v+1)) more)∧(¬ (aI r:Int)≤c→ ∃w,gF hd k ret rec1 t v x more m c (p.length:Int)=ret (false,w)):=by
 intro r
 induction r with
 |nil=>
  intro p m c h0 h1 h hm
  obtain ⟨m,rfl,hm'⟩:=ak hm
  simp only [gF,vj,aA h,ad,aI]
  exact ⟨fun _=>by simp,fun h=>absurd h (by simpa using h0)⟩
 |cons y r ih=>
  intro p m c h0 h1 h hm
  obtain ⟨m,rfl,hm'⟩:=ak hm
  obtain ⟨e1,e2,e3,e4⟩:=az h (by omega)
  have hy:=hQ y (by rw [h];simp)
  obtain ⟨w,hw,hw'⟩:=hy c (fun r1=>(fun r6:Bool×Int=>ab (!r6.1) (ret (false,r6.2)) (gF hd k ret rec1 t v x more m r6.2 (((p++[y]).length:Nat):Int))) (r1.1,r1.2)) h0 h1
  simp only [gF,vj,e1,ae,e2,Option.bind_some,ah hk,rO,Fo,aD,e3,aI]
  rw [hw]
  by_cases hs:(ay y:Int)≤c
  ·have:=hw' hs
   subst this
   obtain ⟨i1,i2⟩:=ih (p++[y]) m (c-ay y) (by omega) (by omega) e4 hm'
   simp only [decide_eq_true hs,Bool.not_true,ad]
   refine ⟨fun h=> ?_,fun h=> ?_⟩
   ·rw [i1 (by omega)];congr 1;omega
   ·exact i2 (by omega)
  ·simp only [decide_eq_false hs,Bool.not_false,ae]
   exact ⟨fun h=>absurd h (by omega),fun _=>⟨w,rfl⟩⟩
theorem YT (hk:Fu k) (ret:Bool×Int→Option S) {more:Int} (hQ: ∀b∈t.sys,∀y∈b.kids,pJ hd k y) (hl:t.sys.length<1073741824) (hl': ∀b∈t.sys,b.kids.length<1073741824):
  ∀ (r p:List (Br Tm)) (m:Nat) (c:Int),0≤c→c<4611686018427387904→t.sys=p++r→r.length<m→
  ((aX r:Int)≤c→fz hd k ret t m c (p.length:Int) more=ret (true,c-aX r))∧(¬ (aX r:Int)≤c→ ∃w,fz hd k ret t m c (p.length:Int) more=ret (false,w)):=by
 intro r
 induction r with
 |nil=>
  intro p m c h0 h1 h hm
  obtain ⟨m,rfl,hm'⟩:=ak hm
  simp only [fz,qL,aA h,ad,aX]
  exact ⟨fun _=>by simp,fun h=>absurd h (by simpa using h0)⟩
 |cons x r ih=>
  intro p m c h0 h1 h hm
  obtain ⟨m,rfl,hm'⟩:=ak hm
  obtain ⟨e1,e2,e3,e4⟩:=az h (by omega)
  have hx:x∈t.sys:=by rw [h];simp
  have hlx:=hl' x hx
  have:=YU (t:=t) hk ret (fz hd k ret t m) (v:=(p.length:Int)) (more:=more) (hQ x hx) hlx x.kids [] k c h0 h1 rfl (by have:4294967296≤k:=hk;omega)
  simp only [fz,qL,e1,ae,e2,Option.bind_some,aX,mV]
  by_cases hs:(aI x.kids:Int)≤c
  ·have e:gF hd k ret (fz hd k ret t m) t (p.length:Int) x more k c 0=_:=this.1 hs
   obtain ⟨i1,i2⟩:=ih (p++[x]) m (c-aI x.kids) (by omega) (by omega) e4 hm'
   rw [e,e3]
   refine ⟨fun h=> ?_,fun h=>i2 (by omega)⟩
   rw [i1 (by omega)];congr 2;omega
  ·obtain ⟨w,e⟩:=this.2 hs
   have e:gF hd k ret (fz hd k ret t m) t (p.length:Int) x more k c 0=_:=e
   rw [e]
   exact ⟨fun h=>absurd h (by omega),fun _=>⟨w,rfl⟩⟩
theorem YS (hk:Fu k) (ret:Bool×Int→Option S) (hQ: ∀y∈t.kids,pJ hd k y) (hQ': ∀b∈t.sys,∀y∈b.kids,pJ hd k y) (ht:OkT t):
  ∀ (r p:List Tm) (m:Nat) (c:Int),0≤c→c<4611686018427387904→t.kids=p++r→r.length<m→
  ∃w,mt hd k ret t m c (p.length:Int)=ret (decide (((aI r+aX t.sys:Nat):Int)≤c),w)∧(((aI r+aX t.sys:Nat):Int)≤c→w=c-((aI r+aX t.sys:Nat):Int)):=by
 obtain ⟨o1,o2,o3,o4,o5,o6,o7⟩:=ht.no
 intro r
 induction r with
 |nil=>
  intro p m c h0 h1 h hm
  obtain ⟨m,rfl,hm'⟩:=ak hm
  have hs: ∀more:Int,_:=fun more=>YT hk ret (more:=more) hQ' o7 (fun b hb=>(ht.bi hb).1.2.2) t.sys [] k c h0 h1 rfl (by have:4294967296≤k:=hk;omega)
  have key: ∀more:Int,∃w,fz hd k ret t k c 0 more=ret (decide (((aX t.sys:Nat):Int)≤c),w)∧(((aX t.sys:Nat):Int)≤c→w=c-((aX t.sys:Nat):Int)):=fun more=>by
   by_cases hc:(aX t.sys:Int)≤c
   ·exact ⟨_,((hs more).1 hc).trans (by rw [decide_eq_true hc]),fun _=>rfl⟩
   ·obtain ⟨w,e⟩:=(hs more).2 hc
    exact ⟨w,Eq.trans e (by rw [decide_eq_false hc]),fun h=>absurd h hc⟩
  have hz:aI []+aX t.sys=aX t.sys:=by rw [aI,Nat.zero_add]
  rw [hz]
  simp only [mt,qK,aA h,ad]
  cases (t.kind==15) with
  |true=>exact key 1
  |false=>exact key 0
 |cons y r ih=>
  intro p m c h0 h1 h hm
  obtain ⟨m,rfl,hm'⟩:=ak hm
  obtain ⟨e1,e2,e3,e4⟩:=az h (by omega)
  have hy:=hQ y (by rw [h];simp)
  obtain ⟨w,hw,hw'⟩:=hy c (fun r1=>(fun r3:Bool×Int=>ab (!r3.1) (ret (false,r3.2)) (mt hd k ret t m r3.2 (((p++[y]).length:Nat):Int))) (r1.1,r1.2)) h0 h1
  have hz:aI (y::r)+aX t.sys=ay y+aI r+aX t.sys:=by rw [aI]
  rw [hz]
  simp only [mt,qK,e1,ae,e2,Option.bind_some,ah hk,pA,rO,Fo,aD,e3]
  rw [hw]
  by_cases hs:(ay y:Int)≤c
  ·have:=hw' hs
   subst this
   obtain ⟨u,i1,i2⟩:=ih (p++[y]) m (c-ay y) (by omega) (by omega) e4 hm'
   simp only [decide_eq_true hs,Bool.not_true,ad]
   refine ⟨u,i1.trans ?_,fun h=> ?_⟩
   ·congr 2;exact rP (by omega)
   ·rw [i2 (by omega)];omega
  ·simp only [decide_eq_false hs,Bool.not_false,ae]
   exact ⟨w,by rw [decide_eq_false (by omega)],fun h=>absurd h (by omega)⟩
end
theorem acx (t:Tm):OkT t→ ∀ {k:Nat} (c:Int) (ret:Bool×Int→Option S),Fd k (au t)→0≤c→c<4611686018427387904→
  ∃w,eT k t c ret=ret (decide ((ay t:Int)-1≤c),w)∧((ay t:Int)-1≤c→w=c-((ay t:Int)-1)):=by
 induction t using d4 with
 |h t ih1 ih2=>
  intro ht k c ret hk h1 h2
  obtain ⟨q,rfl,hq,hf⟩:=hk.pos' (c8 t)
  have cnt: ∀y,(∀ {k:Nat} (c:Int) (ret:Bool×Int→Option S),Fd k (au y)→0≤c→c<4611686018427387904→ ∃w,eT k y c ret=ret (decide ((ay y:Int)-1≤c),w)∧((ay y:Int)-1≤c→w=c-((ay y:Int)-1)))→
    Fd q (au y)→pJ (S:=S) (eT q) q y:=by
   intro y hy hfy c g h0 h1
   simp only [nF,Fp,aD,bh (show-9223372036854775808≤c-1 by omega) (by omega),aK]
   have:=Nj y
   by_cases hc:c-1≥0
   ·rw [if_pos hc]
    obtain ⟨w,e,e'⟩:=hy (c-1) (fun r1=>g (r1.1,r1.2)) hfy (by omega) (by omega)
    refine ⟨w,e.trans ?_,fun h=> ?_⟩
    ·congr 2;exact rP (by omega)
    ·rw [e' (by omega)];omega
   ·rw [if_neg hc]
    exact ⟨c-1,by rw [decide_eq_false (by omega)],fun h=>by omega⟩
  obtain ⟨w,e,e'⟩:=YS hq ret (fun y hy=>cnt y (fun c ret=>ih1 y hy (ht.ki hy) c ret) (hf _ (c7 hy))) (fun b hb y hy=>cnt y (fun c ret=>ih2 b hb y hy ((ht.bi hb).2 y hy) c ret) (hf _ (cZ hb hy))) ht t.kids [] q c h1 h2 rfl (by have:=ht.no.2.2.2.2.2.1;have:4294967296≤q:=hq;omega)
  simp only [eT,Fg]
  have hz:=DS t
  refine ⟨w,Eq.trans e ?_,fun h=> ?_⟩
  ·congr 2;exact rP (by omega)
  ·rw [e' (by omega)];omega
theorem adn {t:Tm} (ht:OkT t) (hk:Fd k (au t)) {most:Int} (h0:0<most) (h1:most<4611686018427387904) (ret:Bool→Option S):wF k t most ret=ret (decide ((ay t:Int)≤most)):=by
 simp only [wF,Pm,ah hk.fu,nF,Fp,aD,bh (show-9223372036854775808≤most-1 by omega) (by omega),aK]
 rw [if_pos (by omega)]
 obtain ⟨w,e,_⟩:=acx t ht (most-1) (fun r1=>ret (r1.1,r1.2).1) hk (by omega) (by omega)
 refine Eq.trans e ?_
 show ret (decide _)=_
 congr 1;exact rP (by omega)
def VD (vars dims:Int) (n:Nat):Prop:= -4611686018427387904≤vars∧vars+n<4611686018427387904∧0≤dims∧dims+n<4611686018427387904
section
variable {hd:Tm→Int→Int→Bool→(Bool→Option S)→Option S} {vars dims:Int} {bd:Bool} {t:Tm}
theorem MB (hv:VD vars dims 1) {v d:Int} (h1:0≤v∧v≤1) (h2:0≤d∧d≤1) (y:Tm) (g:Bool→Option S):rI hd k y v d vars dims bd g=hd y (dp vars v) (dims+d) bd g:=by
 unfold VD at hv
 simp only [rI,Pj,aD,aK,bh (n:=vars+0) (by omega) (by omega),bh (n:=vars+v) (by omega) (by omega),bh (n:=dims+d) (by omega) (by omega)]
 unfold dp
 split
 ·rw [Int.add_zero]
 ·rfl
theorem YR (hk:Fu k) (ret:Bool→Option S) (rec1:Int→Int→Option S) (hv:VD vars dims 1) {v more:Int} {x:Br Tm} (hm:more=av t.kind) (hQ: ∀y∈x.kids,∀g,hd y vars (dims+more) bd g=g (bq bd vars (dims+more) y)) (hl:x.kids.length<1073741824):
  ∀ (r p:List Tm) (m:Nat),x.kids=p++r→r.length<m→kU hd k ret rec1 vars dims bd t v x more m (p.length:Int)=if dr bd vars dims t.kind r then rec1 (IntKind.wrap .i64 (v+1)) more else ret false:=by
 subst hm
 intro r
 induction r with
 |nil=>
  intro p m h hm
  obtain ⟨m,rfl,hm'⟩:=ak hm
  simp only [kU,vk,aA h,ad];rfl
 |cons y r ih=>
  intro p m h hm
  obtain ⟨m,rfl,hm'⟩:=ak hm
  obtain ⟨e1,e2,e3,e4⟩:=az h (by omega)
  have hy:=hQ y (by rw [h];simp)
  have h0:dp vars 0=vars:=by unfold dp;split<;>omega
  simp only [kU,vk,e1,ae,e2,Option.bind_some,ah hk,aD,MB hv (show (0:Int)≤0∧(0:Int)≤1 by omega) (dY t.kind),h0,hy,e3,ih (p++[y]) m e4 hm',DP]
  rw [dr]
theorem YQ (hk:Fu k) (ret:Bool→Option S) (hv:VD vars dims 1) {more:Int} (hm:more=av t.kind) (hQ: ∀b∈t.sys,∀y∈b.kids,∀g,hd y vars (dims+more) bd g=g (bq bd vars (dims+more) y)) (hl:t.sys.length<1073741824) (hl': ∀b∈t.sys,b.kids.length<1073741824):
  ∀ (r p:List (Br Tm)) (m:Nat),t.sys=p++r→r.length<m→gG hd k ret vars dims bd t m (p.length:Int) more=ret (cR bd vars dims t.kind r):=by
 intro r
 induction r with
 |nil=>
  intro p m h hm
  obtain ⟨m,rfl,hm'⟩:=ak hm
  simp only [gG,qN,aA h,ad,cR]
 |cons x r ih=>
  intro p m h hml
  obtain ⟨m,rfl,hm'⟩:=ak hml
  obtain ⟨e1,e2,e3,e4⟩:=az h (by omega)
  have hx:x∈t.sys:=by rw [h];simp
  have hlx:=hl' x hx
  have:=YR (t:=t) (bd:=bd) hk ret (gG hd k ret vars dims bd t m) hv (v:=(p.length:Int)) hm (hQ x hx) hlx x.kids [] k rfl (by have:4294967296≤k:=hk;omega)
  have this:kU hd k ret (gG hd k ret vars dims bd t m) vars dims bd t (p.length:Int) x more k 0=_:=this
  simp only [gG,qN,e1,ae,e2,Option.bind_some,this,e3,ih (p++[x]) m e4 hm']
  have ea:cR bd vars dims t.kind (x::r)=(dr bd vars dims t.kind x.kids&&cR bd vars dims t.kind r):=by cases x;rw [cR,pX]
  rw [ea,BG]
theorem YP (hk:Fu k) (ret:Bool→Option S) (hv:VD vars dims 1) (hQ: ∀y∈t.kids,∀v d,0≤v∧v≤1→0≤d∧d≤1→ ∀g,hd y (dp vars v) (dims+d) bd g=g (bq bd (dp vars v) (dims+d) y)) (hQ': ∀b∈t.sys,∀y∈b.kids,∀g,hd y vars (dims+av t.kind) bd g=g (bq bd vars (dims+av t.kind) y)) (ht:OkT t):
  ∀ (r p:List Tm) (m:Nat),t.kids=p++r→r.length<m→mu hd k ret vars dims bd t m (p.length:Int)=ret (bZ bd vars dims t.kind p.length r&&cR bd vars dims t.kind t.sys):=by
 obtain ⟨o1,o2,o3,o4,o5,o6,o7⟩:=ht.no
 intro r
 induction r with
 |nil=>
  intro p m h hm
  obtain ⟨m,rfl,hm'⟩:=ak hm
  have hs:gG hd k ret vars dims bd t k 0 (av t.kind)=_:=YQ hk ret hv rfl hQ' o7 (fun b hb=>(ht.bi hb).1.2.2) t.sys [] k rfl (by have:4294967296≤k:=hk;omega)
  simp only [mu,qM,aA h,ad]
  rw [bZ,Bool.true_and,←hs]
  unfold av
  rw [co]
  by_cases h15:t.kind=15
  ·rw [if_pos h15,if_pos (by rw [h15];rfl)]
  ·rw [if_neg h15,if_neg (by rw [beq_iff_eq];exact h15)]
 |cons y r ih=>
  intro p m h hm
  obtain ⟨m,rfl,hm'⟩:=ak hm
  obtain ⟨e1,e2,e3,e4⟩:=az h (by omega)
  have b1:=vn t.kind p.length
  have b2:=gi t.kind p.length
  have hy:=hQ y (by rw [h];simp) (dE t.kind p.length) (bK t.kind p.length) b1 b2
  simp only [mu,qM,e1,ae,e2,Option.bind_some,ah hk,pA,aD,MB hv b1 b2,hy,e3,ih (p++[y]) m e4 hm',iF]
  rw [bZ,show (p++[y]).length=p.length+1 by simp,Bool.and_assoc]
end
theorem pY (bd:Bool) (vars dims:Int) (t:Tm):bq bd vars dims t=(!(bd&&decide (dims>24))&&(ep vars dims t&&(bZ bd vars dims t.kind 0 t.kids&&cR bd vars dims t.kind t.sys))):=by cases t;rw [bq];rfl
theorem PF {vars v:Int} (h:0≤v∧v≤1):vars≤dp vars v∧dp vars v≤vars+1:=by unfold dp;split<;>omega
theorem act (t:Tm):OkT t→ ∀ {k:Nat} {vars dims:Int} {bd:Bool} (ret:Bool→Option S),Fd k (au t)→VD vars dims (au t)→fl k t vars dims bd ret=ret (bq bd vars dims t):=by
 induction t using d4 with
 |h t ih1 ih2=>
  intro ht k vars dims bd ret hk hv
  obtain ⟨q,rfl,hq,hf⟩:=hk.pos' (c8 t)
  have hp:=c8 t
  have hv':=hv
  unfold VD at hv'
  have hv1:VD vars dims 1:=by unfold VD;omega
  have hm:=dY t.kind
  have hQ: ∀y∈t.kids,∀v d,0≤v∧v≤1→0≤d∧d≤1→ ∀g:Bool→Option S,fl q y (dp vars v) (dims+d) bd g=g (bq bd (dp vars v) (dims+d) y):=fun y hy v d h1 h2 g=>ih1 y hy (ht.ki hy) g (hf _ (c7 hy)) (by
   have:=c7 hy;have:=PF (vars:=vars) h1;unfold VD;omega)
  have hQ': ∀b∈t.sys,∀y∈b.kids,∀g:Bool→Option S,fl q y vars (dims+av t.kind) bd g=g (bq bd vars (dims+av t.kind) y):=fun b hb y hy g=>ih2 b hb y hy ((ht.bi hb).2 y hy) g (hf _ (cZ hb hy)) (by
   have:=cZ hb hy;unfold VD;omega)
  have:=YP (bd:=bd) hq ret hv1 hQ hQ' ht t.kids [] q rfl (by have:=ht.no.2.2.2.2.2.1;have:4294967296≤q:=hq;omega)
  have this:mu (fl q) q ret vars dims bd t q 0=_:=this
  simp only [fl,Pi,aD,ah hq,acT hq ht (show 0≤dims by omega) (show dims<9223372036854775808 by omega),wD,Fh,this]
  rw [pY]
  cases bd with
  |true=>
   rw [ae,aK,Bool.true_and]
   by_cases h24:dims>24
   ·rw [if_pos h24,decide_eq_true h24];rfl
   ·rw [if_neg h24,decide_eq_false h24]
    cases ep vars dims t<;>rfl
  |false=>
   rw [ad]
   cases ep vars dims t<;>rfl
theorem adm {t:Tm} (ht:OkT t) (hk:Fd k (au t)) (ret:Int→Option S):rN k t ret=ret (if au t>200 then 62 else if ay t>20000 then 221 else 0):=by
 simp only [rN,Pl,aD,adl t ht _ hk (show (-4611686018427387904:Int)≤200 by omega) (show (200:Int)<4611686018427387904 by omega),ah hk.fu,adn ht hk (show (0:Int)<20000 by omega) (show (20000:Int)<4611686018427387904 by omega)]
 by_cases h1:au t>200
 ·rw [if_pos h1,decide_eq_false (by omega)];rfl
 ·rw [if_neg h1,decide_eq_true (by omega),Bool.not_true,ad]
  by_cases h2:ay t>20000
  ·rw [if_pos h2,decide_eq_false (by omega)];rfl
  ·rw [if_neg h2,decide_eq_true (by omega)];rfl
theorem tC {t:Tm} (ht:OkT t) (hk:Fd k (au t)) (hdep:au t<1099511627776) (ret:Int→Option S):kg k t ret=ret (cx t):=by
 simp only [kg,Pf,aD,ah hk.fu,adm ht hk,act t ht _ hk (show VD (-1) 24 (au t) by unfold VD;omega),a7]
 unfold cx
 by_cases h1:au t>200
 ·rw [if_pos h1,if_pos h1];rfl
 ·rw [if_neg h1,if_neg h1]
  by_cases h2:ay t>20000
  ·rw [if_pos h2,if_pos h2];rfl
  ·rw [if_neg h2,if_neg h2,decide_eq_true rfl,Bool.not_true,ad]
   cases bq false (-1) 24 t<;>rfl
end Go.Proofs.YtapmagaejigpnaaGreatDoor
