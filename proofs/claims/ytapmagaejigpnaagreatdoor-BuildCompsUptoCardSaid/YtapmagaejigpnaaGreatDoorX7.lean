/- Part 7 of a proof: the sources, with their names and remarks, lie in wip/. -/
import Derived.Test.YtapmagaejigpnaaGreatDoorX6
namespace Go.Proofs.YtapmagaejigpnaaGreatDoor
open Go PI
set_option linter.unusedVariables false
set_option maxRecDepth 100000
noncomputable section
def LQ {S:Type} (k:Nat):Rw S:=ah tw xn fun s κ=>aa k (ow k s) (av κ)
def Sd {S:Type} (k:Nat):Fx S:=fp 7 [(187,zh k)] [] k Tryz.f211 0
theorem Xn {S:Type} (o:Obj) (ho:ag o) (k:Nat):Tl o 211 (LQ k:Rw S):=ai (Sd k) ⟨Ci o ho k,trivial⟩ Tryz.func211 (by kernel_rfl) fun s κ x h=>Eq.trans (by kernel_rfl) (aj h)
def D7 {S:Type} (k:Nat):Rw S:=ah mU xn fun c κ=>aa k (sG k c) (av κ)
def Se {S:Type} (k:Nat):Fx S:=fp 11 [(211,LQ k)] [] k Tryz.f184 0
theorem HU {S:Type} (o:Obj) (ho:ag o) (k:Nat):Tl o 184 (D7 k:Rw S):=ai (Se k) ⟨Xn o ho k,trivial⟩ Tryz.func184 (by kernel_rfl) fun c κ x h=>Eq.trans (by kernel_rfl) (aj h)
def LR {S:Type} (k:Nat):Rw S:=ah tx xn fun a b κ=>aa k (xk k a b) (av κ)
def Sf {S:Type} (k:Nat):Fx S:=fp 23 [] [] k Tryz.f212 0
theorem Xo {S:Type} (o:Obj) (ho:ag o) (k:Nat):Tl o 212 (LR k:Rw S):=ai (Sf k) trivial Tryz.func212 (by kernel_rfl) fun a b κ x h=>Eq.trans (by kernel_rfl) (aj h)
def LS {S:Type} (k:Nat):Rw S:=ah Jc xn fun l c κ=>aa k (xp k l c) (av κ)
def Aq {S:Type} (k:Nat):Fx S:=fp 26 [(212,LR k)] [(2,a6 [0,3,5] [(3,2)],ap 4 5)] k Tryz.f185 0
def JL (c:Cl) (l:List Cl) (i5:Int):St UU:=⟨[(0,(sC l)),(3,(pt 3)),(5,(iI i5))],[(3,bC c)],[],[]⟩
section
variable {S:Type} (k:Nat) (l:List Cl) (c:Cl) (κ:Out UU→Option S)
theorem Uz: ∀n i5,(Aq k).lp κ 2 [] n (JL c l i5)=pn k (av κ) c l n i5:=ct (vO k (av κ) c l) rfl (fun _=>rfl) fun r i5=>by kernel_rfl
end
theorem Xp {S:Type} (o:Obj) (ho:ag o) (k:Nat):Tl o 185 (LS k:Rw S):=ai (Aq k) ⟨Xo o ho k,trivial⟩ Tryz.func185 (by kernel_rfl) fun l c κ x h=>Eq.trans (b:=Gg k (av κ) (fun i5=>(Aq k).lp κ 2 [] k (JL c l i5)) l c) (by kernel_rfl) (Eq.trans (by simp only [Uz];rfl) (aj h))
def LU {S:Type} (k:Nat):Rw S:=ah tx xn fun a b κ=>aa k (xl k a b) (av κ)
def Sg {S:Type} (k:Nat):Fx S:=fp 24 [] [] k Tryz.f186 0
theorem Xq {S:Type} (o:Obj) (ho:ag o) (k:Nat):Tl o 186 (LU k:Rw S):=ai (Sg k) trivial Tryz.func186 (by kernel_rfl) fun a b κ x h=>Eq.trans (by kernel_rfl) (aj h)
def lX {S:Type} (k:Nat):Rw S:=ah dU xn fun l κ=>aa k (iV k l) (au κ)
def ml {S:Type} (k:Nat):Fx S:=fp 84 [(184,D7 k),(185,LS k),(186,LU k)] [(2,a6 [0,4] [],ap 4 5),(8,⟨[(0,.none),(5,some (100005,false)),(6,.none)],[]⟩,ap 6 23),(12,⟨[(0,.none),(5,some (100005,false)),(6,.none),(7,.none)],[]⟩,ap 14 3223)] k Tryz.f136 0
def Dq (l:List Cl) (i4:Int):St UU:=⟨[(0,(sC l)),(4,(iI i4))],[],[],[]⟩
def tL (l:List Cl) (out5:List Cl) (i6:Int):St UU:=⟨[(0,(sC l)),(5,(.own 100005 0)),(6,(iI i6))],[],[(100005,⟨0,ET.C,out5⟩)],[(100005,.app)]⟩
def JM (l out5:List Cl) (i6:Int) (v7:Int):St UU:=⟨[(0,(sC l)),(5,(.own 100005 0)),(6,(iI i6)),(7,(iI v7))],[],[(100005,⟨0,ET.C,out5⟩)],[(100005,.app)]⟩
section
variable {S:Type} (k:Nat) (l:List Cl) (κ:Out UU→Option S)
theorem UC (out5 i6 κ1): ∀n v7,(ml k).lp κ 12 [κ1] n (JM l out5 i6 v7)=m8 k (au κ) (fun out5 i6=>κ1 (tL l out5 i6)) l out5 i6 n v7:=ct (vM k (au κ) l out5 i6 (fun out5 i6=>κ1 (tL l out5 i6))) rfl (fun _=>rfl) fun r v7=>by kernel_rfl
theorem UB: ∀n out5 i6,(ml k).lp κ 8 [] n (tL l out5 i6)=j8 k (au κ) l n out5 i6:=aV (fun own=>rl k (au κ) l (fun out5 i6 v7=>m8 k (au κ) own l out5 i6 k v7) own) rfl (fun _=>rfl) fun r out5 i6=>Eq.trans (b:=rl k (au κ) l (fun out5 i6 v7=>(ml k).lp κ 12 [r] k (JM l out5 i6 v7)) (fun out5 i6=>r (tL l out5 i6)) out5 i6) (by kernel_rfl) (by simp only [UC])
theorem UA: ∀n i4,(ml k).lp κ 2 [] n (Dq l i4)=pm k (au κ) l n i4:=ct (fun own=>rk k (au κ) l (fun out5 i6=>j8 k (au κ) l k out5 i6) own) rfl (fun _=>rfl) fun r i4=>Eq.trans (b:=rk k (au κ) l (fun out5 i6=>(ml k).lp κ 8 [] k (tL l out5 i6)) (fun i4=>r (Dq l i4)) i4) (by kernel_rfl) (by simp only [UB])
end
theorem mK {S:Type} (o:Obj) (ho:ag o) (k:Nat):Tl o 136 (lX k:Rw S):=ai (ml k) ⟨HU o ho k,Xp o ho k,Xq o ho k,trivial⟩ Tryz.func136 (by kernel_rfl) fun l κ x h=>Eq.trans (b:=Gf k (au κ) (fun i4=>(ml k).lp κ 2 [] k (Dq l i4)) l) (by kernel_rfl) (Eq.trans (by simp only [UA];rfl) (aj h))
def jp {S:Type} (k:Nat):Rw S:=ah dU xn fun f κ=>aa k (d9 k f) (av κ)
def Sh {S:Type} (k:Nat):Fx S:=fp 17 [(24,zf k),(136,lX k)] [] k Tryz.f88 0
theorem jS {S:Type} (o:Obj) (ho:ag o) (k:Nat):Tl o 88 (jp k:Rw S):=ai (Sh k) ⟨Cg o ho k,mK o ho k,trivial⟩ Tryz.func88 (by kernel_rfl) fun f κ x h=>Eq.trans (by kernel_rfl) (aj h)
def lY {S:Type} (k:Nat):Rw S:=ah lq xn fun s i κ=>aa k (dS k s i) (av κ)
def Si {S:Type} (k:Nat):Fx S:=fp 20 [(187,zh k)] [] k Tryz.f137 0
theorem mL {S:Type} (o:Obj) (ho:ag o) (k:Nat):Tl o 137 (lY k:Rw S):=ai (Si k) ⟨Ci o ho k,trivial⟩ Tryz.func137 (by kernel_rfl) fun s i κ x h=>Eq.trans (by kernel_rfl) (aj h)
def nC {S:Type} (k:Nat):Rw S:=ah aae xn fun l κ=>aa k (iR k l) (bX κ)
def Ar {S:Type} (k:Nat):Fx S:=fp 20 [(187,zh k)] [(3,a6 [0,3,4] [],ap 5 11)] k Tryz.f228 0
def JN (l:List Int) (v3 i4:Int):St UU:=⟨[(0,(mb l .none)),(3,(iI v3)),(4,(iI i4))],[],[],[]⟩
section
variable {S:Type} (k:Nat) (l:List Int) (κ:Out UU→Option S)
theorem UD: ∀n v3 i4,(Ar k).lp κ 3 [] n (JN l v3 i4)=ph k (bX κ) l n v3 i4:=aV (vI k (bX κ) l) rfl (fun _=>rfl) fun r v3 i4=>by kernel_rfl
end
theorem oL {S:Type} (o:Obj) (ho:ag o) (k:Nat):Tl o 228 (nC k:Rw S):=ai (Ar k) ⟨Ci o ho k,trivial⟩ Tryz.func228 (by kernel_rfl) fun l κ x h=>Eq.trans (b:=Ga k (bX κ) (fun v3 i4=>(Ar k).lp κ 3 [] k (JN l v3 i4)) l) (by kernel_rfl) (Eq.trans (by simp only [UD];rfl) (aj h))
def D8 {S:Type} (k:Nat):Rw S:=ah dU xn fun f κ=>aa k (sI k f) (bX κ)
def qO {S:Type} (k:Nat):Fx S:=fp 43 [(137,lY k),(228,nC k)] [(3,⟨[(0,.none),(3,some (100003,true)),(4,.none)],[]⟩,ap 5 11),(7,⟨[(0,.none),(3,some (100003,true)),(4,.none),(5,.none),(6,.none)],[]⟩,ap 13 2635)] k Tryz.f210 0
def tM (f:List Cl) (l3:List Int) (i4:Int):St UU:=⟨[(0,(sC f)),(3,(.own 100003 0)),(4,(iI i4))],[],[(100003,⟨0,ET.I,l3⟩)],[(100003,.wr)]⟩
def JO (f:List Cl) (l3:List Int) (i4:Int) (v5:Bool) (v6:Int):St UU:=⟨[(0,(sC f)),(3,(.own 100003 0)),(4,(iI i4)),(5,(.bool v5)),(6,(iI v6))],[],[(100003,⟨0,ET.I,l3⟩)],[(100003,.wr)]⟩
section
variable {S:Type} (k:Nat) (f:List Cl) (κ:Out UU→Option S)
theorem UF (l3 i4 κ0): ∀n v5 v6,(qO k).lp κ 7 [κ0] n (JO f l3 i4 v5 v6)=m9 k (bX κ) (fun l3 i4=>κ0 (tM f l3 i4)) f l3 i4 n v5 v6:=aV (vQ k (bX κ) f l3 i4 (fun l3 i4=>κ0 (tM f l3 i4))) rfl (fun _=>rfl) fun r v5 v6=>by kernel_rfl
theorem UE: ∀n l3 i4,(qO k).lp κ 3 [] n (tM f l3 i4)=lE k (bX κ) f n l3 i4:=aV (fun own=>rm k (bX κ) f (fun l3 i4 v5 v6=>m9 k (bX κ) own f l3 i4 k v5 v6) own) rfl (fun _=>rfl) fun r l3 i4=>Eq.trans (b:=rm k (bX κ) f (fun l3 i4 v5 v6=>(qO k).lp κ 7 [r] k (JO f l3 i4 v5 v6)) (fun l3 i4=>r (tM f l3 i4)) l3 i4) (by kernel_rfl) (by simp only [UF])
end
theorem HV {S:Type} (o:Obj) (ho:ag o) (k:Nat):Tl o 210 (D8 k:Rw S):=ai (qO k) ⟨mL o ho k,oL o ho k,trivial⟩ Tryz.func210 (by kernel_rfl) fun f κ x h=>Eq.trans (b:=Gj k (bX κ) (fun l3 i4=>(qO k).lp κ 3 [] k (tM f l3 i4)) f) (by kernel_rfl) (Eq.trans (by simp only [UE];rfl) (aj h))
def nD {S:Type} (k:Nat):Rw S:=ah tw xn fun s κ=>aa k (iQ k s) (za κ)
def As {S:Type} (k:Nat):Fx S:=fx 17 (fun _=>[]) (fun _=>false) [(137,lY k)] [(3,⟨[(0,.none),(3,some (100003,true)),(4,.none)],[]⟩,ap 5 11)] k Tryz.f209 false [true] 0
def JQ (s:Int) (out3:List Int) (i4:Int):St UU:=⟨[(0,(iU s)),(3,(.own 100003 0)),(4,(iI i4))],[],[(100003,⟨0,ET.I,out3⟩)],[(100003,.wr)]⟩
section
variable {S:Type} (k:Nat) (s:Int) (κ:Out UU→Option S)
theorem UI: ∀n out3 i4,(As k).lp κ 3 [] n (JQ s out3 i4)=pg k (za κ) s n out3 i4:=aV (vH k (za κ) s) rfl (fun _=>rfl) fun r out3 i4=>by kernel_rfl
end
theorem oM {S:Type} (o:Obj) (ho:ag o) (k:Nat):Tl o 209 (nD k:Rw S):=ai (As k) ⟨mL o ho k,trivial⟩ Tryz.func209 (by kernel_rfl) fun s κ x h=>Eq.trans (b:=F_ k (za κ) (fun out3 i4=>(As k).lp κ 3 [] k (JQ s out3 i4)) s) (by kernel_rfl) (Eq.trans (by simp only [UI];rfl) (aj h))
def LW {S:Type} (k:Nat):Rw S:=ah CX xn fun f dims κ=>aa k (sL k f dims) (av κ)
def Sk {S:Type} (k:Nat):Fx S:=fp 22 [(209,nD k),(210,D8 k)] [] k Tryz.f181 0
theorem Xs {S:Type} (o:Obj) (ho:ag o) (k:Nat):Tl o 181 (LW k:Rw S):=ai (Sk k) ⟨oM o ho k,HV o ho k,trivial⟩ Tryz.func181 (by kernel_rfl) fun f dims κ x h=>Eq.trans (by kernel_rfl) (aj h)
def zi {S:Type} (k:Nat):Rw S:=ah I4 xn fun kind kid κ=>aa k (oz k kind kid) (kn κ)
def qP {S:Type} (k:Nat):Fx S:=fp 44 [] [(1000003,a6 [0,1] [],ap 2 3),(1000005,a6 [0,1] [],ap 3 7)] k Tryz.f182 0
def JR (kind kid:Int):St UU:=⟨[(0,(iI kind)),(1,(iI kid))],[],[],[]⟩
def JS (kind kid:Int):St UU:=⟨[(0,(iI kind)),(1,(iI kid))],[],[],[]⟩
section
variable {S:Type} (k:Nat) (kind kid:Int) (κ:Out UU→Option S)
theorem UK: ∀n,(qP k).jn κ 1000005 [] n (JS kind kid)=yz k (kn κ) kind kid n:=lm (Bj k (kn κ) kind kid) rfl (fun _=>rfl) (by kernel_rfl)
theorem UJ: ∀n,(qP k).jn κ 1000003 [] n (JR kind kid)=C6 k (kn κ) kind kid n:=lm (wa k (kn κ) kind kid (yz k (kn κ) kind kid k)) rfl (fun _=>rfl) (Eq.trans (b:=wa k (kn κ) kind kid ((qP k).jn κ 1000005 [] k (JS kind kid))) (by kernel_rfl) (by simp only [UK]))
end
theorem Cj {S:Type} (o:Obj) (ho:ag o) (k:Nat):Tl o 182 (zi k:Rw S):=ai (qP k) trivial Tryz.func182 (by kernel_rfl) fun kind kid κ x h=>Eq.trans (b:=Gv k (kn κ) ((qP k).jn κ 1000003 [] k (JR kind kid)) kind kid) (by kernel_rfl) (Eq.trans (by simp only [UJ];rfl) (aj h))
def D9 {S:Type} (k:Nat):Rw S:=ah mU xn fun c κ=>aa k (sE k c) (av κ)
def Au {S:Type} (k:Nat):Fx S:=fp 18 [(137,lY k)] [(2,a6 [1,3] [(1,2)],ap 4 5)] k Tryz.f89 0
def JT (c:Cl) (i3:Int):St UU:=⟨[(1,(pt 1)),(3,(iI i3))],[(1,bC c)],[],[]⟩
section
variable {S:Type} (k:Nat) (c:Cl) (κ:Out UU→Option S)
theorem UL: ∀n i3,(Au k).lp κ 2 [] n (JT c i3)=pk k (av κ) c n i3:=ct (vL k (av κ) c) rfl (fun _=>rfl) fun r i3=>by kernel_rfl
end
theorem HW {S:Type} (o:Obj) (ho:ag o) (k:Nat):Tl o 89 (D9 k:Rw S):=ai (Au k) ⟨mL o ho k,trivial⟩ Tryz.func89 (by kernel_rfl) fun c κ x h=>Eq.trans (b:=Ge k (av κ) (fun i3=>(Au k).lp κ 2 [] k (JT c i3)) c) (by kernel_rfl) (Eq.trans (by simp only [UL];rfl) (aj h))
def nE {S:Type} (k:Nat):Rw S:=ah dU xn fun f κ=>aa k (gi k f) (av κ)
def Av {S:Type} (k:Nat):Fx S:=fp 18 [(88,jp k),(89,D9 k)] [(4,a6 [0,3] [],ap 5 11)] k Tryz.f43 0
def JU (f:List Cl) (i3:Int):St UU:=⟨[(0,(sC f)),(3,(iI i3))],[],[],[]⟩
section
variable {S:Type} (k:Nat) (f:List Cl) (κ:Out UU→Option S)
theorem UM: ∀n i3,(Av k).lp κ 4 [] n (JU f i3)=px k (av κ) f n i3:=ct (vY k (av κ) f) rfl (fun _=>rfl) fun r i3=>by kernel_rfl
end
theorem oN {S:Type} (o:Obj) (ho:ag o) (k:Nat):Tl o 43 (nE k:Rw S):=ai (Av k) ⟨jS o ho k,HW o ho k,trivial⟩ Tryz.func43 (by kernel_rfl) fun f κ x h=>Eq.trans (b:=Gs k (av κ) (fun i3=>(Av k).lp κ 4 [] k (JU f i3)) f) (by kernel_rfl) (Eq.trans (by simp only [UM];rfl) (aj h))
def zj {S:Type} (k:Nat):Rw S:=ah eV xn fun kind κ=>aa k (oC k kind) (aQ κ)
def Sl {S:Type} (k:Nat):Fx S:=fp 5 [] [] k Tryz.f183 0
theorem Ck {S:Type} (o:Obj) (ho:ag o) (k:Nat):Tl o 183 (zj k:Rw S):=ai (Sl k) trivial Tryz.func183 (by kernel_rfl) fun kind κ x h=>Eq.trans (by kernel_rfl) (aj h)
def D_ {S:Type} (hd:dN S):Rw S:=ah I6 xn fun t vars dims bound κ=>hd t vars dims bound (av κ)
def eO {S:Type} (hd:dN S) (k:Nat):Fx S:=fp 187 [(43,nE k),(88,jp k),(119,D6 k),(135,D_ hd),(179,LN k),(180,LO k),(181,LW k),(182,zi k),(183,zj k)] [(1000003,a6 [1,2,3,4] [(4,6)],ap 2 3),(1000008,a6 [1,2,3,4] [(4,6)],ap 3 7),(1000010,a6 [1,2,3,4] [(4,6)],ap 4 15),(1000021,a6 [1,2,3,4] [(4,6)],ap 5 31),(24,a6 [1,2,3,4,9] [(4,6)],ap 9 191),(32,a6 [1,2,3,4,12] [(4,6)],ap 10 383),(38,a6 [1,2,3,4,12,13,14] [(4,6),(13,2)],ap 18 117119)] k Tryz.f135 0
def JV (t:Tm) (vars dims:Int) (bound:Bool):St UU:=⟨[(1,(iI vars)),(2,(iI dims)),(3,(.bool bound)),(4,(pt 4))],[(4,bT t)],[],[]⟩
def JW (t:Tm) (vars dims:Int) (bound:Bool):St UU:=⟨[(1,(iI vars)),(2,(iI dims)),(3,(.bool bound)),(4,(pt 4))],[(4,bT t)],[],[]⟩
def JX (t:Tm) (vars dims:Int) (bound:Bool):St UU:=⟨[(1,(iI vars)),(2,(iI dims)),(3,(.bool bound)),(4,(pt 4))],[(4,bT t)],[],[]⟩
def JY (t:Tm) (vars dims:Int) (bound:Bool):St UU:=⟨[(1,(iI vars)),(2,(iI dims)),(3,(.bool bound)),(4,(pt 4))],[(4,bT t)],[],[]⟩
def Dr (t:Tm) (vars dims:Int) (bound:Bool) (i9:Int):St UU:=⟨[(1,(iI vars)),(2,(iI dims)),(3,(.bool bound)),(4,(pt 4)),(9,(iI i9))],[(4,bT t)],[],[]⟩
def tO (t:Tm) (vars dims:Int) (bound:Bool) (i12:Int):St UU:=⟨[(1,(iI vars)),(2,(iI dims)),(3,(.bool bound)),(4,(pt 4)),(12,(iI i12))],[(4,bT t)],[],[]⟩
def JZ (x11:(Br Tm)) (t:Tm) (vars i12 dims:Int) (bound:Bool) (v14:Int):St UU:=⟨[(1,(iI vars)),(2,(iI dims)),(3,(.bool bound)),(4,(pt 4)),(12,(iI i12)),(13,(pt 13)),(14,(iI v14))],[(4,bT t),(13,bB x11)],[],[]⟩
section
variable {S:Type} (hd:dN S) (k:Nat) (t:Tm) (vars dims:Int) (bound:Bool) (κ:Out UU→Option S)
theorem UT (x11 i12 κ5): ∀n v14,(eO hd k).lp κ 38 [κ5] n (JZ x11 t vars i12 dims bound v14)=lK hd k (av κ) (fun i12=>κ5 (tO t vars dims bound i12)) x11 t vars i12 dims bound n v14:=ct (v_ hd k (av κ) x11 t vars i12 dims bound (fun i12=>κ5 (tO t vars dims bound i12))) rfl (fun _=>rfl) fun r v14=>by kernel_rfl
theorem US: ∀n i12,(eO hd k).lp κ 32 [] n (tO t vars dims bound i12)=g7 hd k (av κ) t vars dims bound n i12:=ct (fun own=>rB hd k (av κ) t vars dims bound (fun x11 i12 v14=>lK hd k (av κ) own x11 t vars i12 dims bound k v14) own) rfl (fun _=>rfl) fun r i12=>Eq.trans (b:=rB hd k (av κ) t vars dims bound (fun x11 i12 v14=>(eO hd k).lp κ 38 [r] k (JZ x11 t vars i12 dims bound v14)) (fun i12=>r (tO t vars dims bound i12)) i12) (by kernel_rfl) (by simp only [UT])
theorem UR: ∀n i9,(eO hd k).lp κ 24 [] n (Dr t vars dims bound i9)=jf hd k (av κ) t vars dims bound n i9:=ct (fun own=>rA hd k (av κ) t vars dims bound (fun i12=>g7 hd k (av κ) t vars dims bound k i12) own) rfl (fun _=>rfl) fun r i9=>Eq.trans (b:=rA hd k (av κ) t vars dims bound (fun i12=>(eO hd k).lp κ 32 [] k (tO t vars dims bound i12)) (fun i9=>r (Dr t vars dims bound i9)) i9) (by kernel_rfl) (by simp only [US])
theorem UQ: ∀n,(eO hd k).jn κ 1000021 [] n (JY t vars dims bound)=pB hd k (av κ) t vars dims bound n:=lm (rz hd k (av κ) t vars dims bound (fun i9=>jf hd k (av κ) t vars dims bound k i9)) rfl (fun _=>rfl) (Eq.trans (b:=rz hd k (av κ) t vars dims bound (fun i9=>(eO hd k).lp κ 24 [] k (Dr t vars dims bound i9))) (by kernel_rfl) (by simp only [UR]))
theorem UP: ∀n,(eO hd k).jn κ 1000010 [] n (JX t vars dims bound)=pA hd k (av κ) t vars dims bound n:=lm (ry hd k (av κ) t vars dims bound (pB hd k (av κ) t vars dims bound k)) rfl (fun _=>rfl) (Eq.trans (b:=ry hd k (av κ) t vars dims bound ((eO hd k).jn κ 1000021 [] k (JY t vars dims bound))) (by kernel_rfl) (by simp only [UQ]))
theorem UO: ∀n,(eO hd k).jn κ 1000008 [] n (JW t vars dims bound)=pz hd k (av κ) t vars dims bound n:=lm (rx hd k (av κ) t vars dims bound (pA hd k (av κ) t vars dims bound k)) rfl (fun _=>rfl) (Eq.trans (b:=rx hd k (av κ) t vars dims bound ((eO hd k).jn κ 1000010 [] k (JX t vars dims bound))) (by kernel_rfl) (by simp only [UP]))
theorem UN: ∀n,(eO hd k).jn κ 1000003 [] n (JV t vars dims bound)=yy hd k (av κ) t vars dims bound n:=lm (rt hd k (av κ) t vars dims bound (pz hd k (av κ) t vars dims bound k)) rfl (fun _=>rfl) (Eq.trans (b:=rt hd k (av κ) t vars dims bound ((eO hd k).jn κ 1000008 [] k (JW t vars dims bound))) (by kernel_rfl) (by simp only [UO]))
end
theorem IP {S:Type} (o:Obj) (ho:ag o): ∀k:Nat,Tl o 135 (D_ (cj k:dN S))
 |0=>e9 fun t vars dims bound κ x h=>by cases h
 |k+1=>ai (eO (cj k) k) ⟨oN o ho k,jS o ho k,HT o ho k,IP o ho k,Xk o ho k,Xl o ho k,Xs o ho k,Cj o ho k,Ck o ho k,trivial⟩ Tryz.func135 (by kernel_rfl) fun t vars dims bound κ x h=>Eq.trans (b:=Gu (cj k) k (av κ) ((eO (cj k) k).jn κ 1000003 [] k (JV t vars dims bound)) t vars dims bound) (by kernel_rfl) (Eq.trans (by simp only [UN];rfl) h)
def zk {S:Type} (k:Nat):Rw S:=ah fK xn fun t κ=>aa k (oA k t) (aQ κ)
def Sm {S:Type} (k:Nat):Fx S:=fp 14 [(134,LM k),(135,D_ (cj k))] [] k Tryz.f87 0
theorem Cm {S:Type} (o:Obj) (ho:ag o) (k:Nat):Tl o 87 (zk k:Rw S):=ai (Sm k) ⟨Xj o ho k,IP o ho k,trivial⟩ Tryz.func87 (by kernel_rfl) fun t κ x h=>Eq.trans (by kernel_rfl) (aj h)
def lZ {S:Type} (k:Nat):Rw S:=ah CY xn fun l κ=>aa k (gV k l) (aQ κ)
def Aw {S:Type} (k:Nat):Fx S:=fp 19 [(87,zk k)] [(2,a6 [0,3] [],ap 4 5)] k Tryz.f42 0
def J7 (l:List Tm) (i3:Int):St UU:=⟨[(0,(sT l)),(3,(iI i3))],[],[],[]⟩
section
variable {S:Type} (k:Nat) (l:List Tm) (κ:Out UU→Option S)
theorem UV: ∀n i3,(Aw k).lp κ 2 [] n (J7 l i3)=pJ k (aQ κ) l n i3:=ct (wm k (aQ κ) l) rfl (fun _=>rfl) fun r i3=>by kernel_rfl
end
theorem mM {S:Type} (o:Obj) (ho:ag o) (k:Nat):Tl o 42 (lZ k:Rw S):=ai (Aw k) ⟨Cm o ho k,trivial⟩ Tryz.func42 (by kernel_rfl) fun l κ x h=>Eq.trans (b:=GM k (aQ κ) (fun i3=>(Aw k).lp κ 2 [] k (J7 l i3)) l) (by kernel_rfl) (Eq.trans (by simp only [UV];rfl) (aj h))
def LX {S:Type} (k:Nat):Rw S:=ah I9 xn fun s a_from a_by κ=>aa k (kR k s a_from a_by) (uk κ)
def Ax {S:Type} (k:Nat):Fx S:=fp 48 [(209,nD k),(228,nC k)] [(5,⟨[(1,.none),(2,.none),(8,some (100008,true)),(9,.none)],[]⟩,ap 6 23)] k Tryz.f208 0
def J8 (a_from a_by:Int) (l8:List Int) (v9:Int):St UU:=⟨[(1,(iI a_from)),(2,(iI a_by)),(8,(.own 100008 0)),(9,(iI v9))],[],[(100008,⟨0,ET.I,l8⟩)],[(100008,.wr)]⟩
section
variable {S:Type} (k:Nat) (s a_from a_by:Int) (κ:Out UU→Option S)
theorem UW: ∀n l8 v9,(Ax k).lp κ 5 [] n (J8 a_from a_by l8 v9)=m7 k (uk κ) a_from a_by n l8 v9:=aV (vG k (uk κ) a_from a_by) rfl (fun _=>rfl) fun r l8 v9=>by kernel_rfl
end
theorem Xt {S:Type} (o:Obj) (ho:ag o) (k:Nat):Tl o 208 (LX k:Rw S):=ai (Ax k) ⟨oM o ho k,oL o ho k,trivial⟩ Tryz.func208 (by kernel_rfl) fun s a_from a_by κ x h=>Eq.trans (b:=uT k (uk κ) (fun l8 v9=>(Ax k).lp κ 5 [] k (J8 a_from a_by l8 v9)) s a_from a_by) (by kernel_rfl) (Eq.trans (by simp only [UW];rfl) (aj h))
def LY {S:Type} (k:Nat):Rw S:=ah I_ xn fun c a_from a_by κ=>aa k (xo k c a_from a_by) (Lu κ)
def So {S:Type} (k:Nat):Fx S:=fp 42 [(184,D7 k),(208,LX k)] [] k Tryz.f167 0
theorem Xu {S:Type} (o:Obj) (ho:ag o) (k:Nat):Tl o 167 (LY k:Rw S):=ai (So k) ⟨HU o ho k,Xt o ho k,trivial⟩ Tryz.func167 (by kernel_rfl) fun c a_from a_by κ x h=>Eq.trans (by kernel_rfl) (aj h)
def qh {S:Type} (k:Nat):Rw S:=ah CZ xn fun f a_from a_by κ=>aa k (jM k f a_from a_by) (au κ)
def Ay {S:Type} (k:Nat):Fx S:=fp 42 [(88,jp k),(136,lX k),(167,LY k)] [(5,⟨[(0,.none),(1,.none),(2,.none),(8,some (100008,true)),(9,.none)],[]⟩,ap 6 23)] k Tryz.f123 0
def J9 (f:List Cl) (a_from a_by:Int) (out8:List Cl) (i9:Int):St UU:=⟨[(0,(sC f)),(1,(iI a_from)),(2,(iI a_by)),(8,(.own 100008 0)),(9,(iI i9))],[],[(100008,⟨0,ET.C,out8⟩)],[(100008,.wr)]⟩
section
variable {S:Type} (k:Nat) (f:List Cl) (a_from a_by:Int) (κ:Out UU→Option S)
theorem UX: ∀n out8 i9,(Ay k).lp κ 5 [] n (J9 f a_from a_by out8 i9)=pq k (au κ) f a_from a_by n out8 i9:=aV (vR k (au κ) f a_from a_by) rfl (fun _=>rfl) fun r out8 i9=>by kernel_rfl
end
theorem tc {S:Type} (o:Obj) (ho:ag o) (k:Nat):Tl o 123 (qh k:Rw S):=ai (Ay k) ⟨jS o ho k,mK o ho k,Xu o ho k,trivial⟩ Tryz.func123 (by kernel_rfl) fun f a_from a_by κ x h=>Eq.trans (b:=Gk k (au κ) (fun out8 i9=>(Ay k).lp κ 5 [] k (J9 f a_from a_by out8 i9)) f a_from a_by) (by kernel_rfl) (Eq.trans (by simp only [UX];rfl) (aj h))
def uq {S:Type} (k:Nat):Rw S:=ah dU xn fun l κ=>aa k (mH k l) (au κ)
def Az {S:Type} (k:Nat):Fx S:=fp 29 [(89,D9 k),(136,lX k)] [(3,⟨[(0,.none),(4,some (100004,true)),(5,.none)],[]⟩,ap 5 11)] k Tryz.f188 0
def J_ (l:List Cl) (out4:List Cl) (i5:Int):St UU:=⟨[(0,(sC l)),(4,(.own 100004 0)),(5,(iI i5))],[],[(100004,⟨0,ET.C,out4⟩)],[(100004,.wr)]⟩
section
variable {S:Type} (k:Nat) (l:List Cl) (κ:Out UU→Option S)
theorem UY: ∀n out4 i5,(Az k).lp κ 3 [] n (J_ l out4 i5)=py k (au κ) l n out4 i5:=aV (vZ k (au κ) l) rfl (fun _=>rfl) fun r out4 i5=>by kernel_rfl
end
theorem xS {S:Type} (o:Obj) (ho:ag o) (k:Nat):Tl o 188 (uq k:Rw S):=ai (Az k) ⟨HW o ho k,mK o ho k,trivial⟩ Tryz.func188 (by kernel_rfl) fun l κ x h=>Eq.trans (b:=Gt k (au κ) (fun out4 i5=>(Az k).lp κ 3 [] k (J_ l out4 i5)) l) (by kernel_rfl) (Eq.trans (by simp only [UY];rfl) (aj h))
def Eb {S:Type} (k:Nat):Rw S:=ah g5 xn fun f g κ=>aa k (fG k f g) (au κ)
def Sp {S:Type} (k:Nat):Fx S:=fp 22 [(43,nE k),(188,uq k)] [] k Tryz.f138 0
theorem HY {S:Type} (o:Obj) (ho:ag o) (k:Nat):Tl o 138 (Eb k:Rw S):=ai (Sp k) ⟨oN o ho k,xS o ho k,trivial⟩ Tryz.func138 (by kernel_rfl) fun f g κ x h=>Eq.trans (by kernel_rfl) (aj h)
def nF {S:Type} (k:Nat):Rw S:=ah eV xn fun a_e κ=>aa k (d_ k a_e) (DR κ)
def Sq {S:Type} (k:Nat):Fx S:=fx 6 (fun _=>[]) (fun _=>false) [] [] k Tryz.f124 true [] 0
theorem oO {S:Type} (o:Obj) (ho:ag o) (k:Nat):Tl o 124 (nF k:Rw S):=ai (Sq k) trivial Tryz.func124 (by kernel_rfl) fun a_e κ x h=>Eq.trans (by kernel_rfl) (aj h)
def LZ {S:Type} (k:Nat):Rw S:=ah mV xn fun t a b κ=>aa k (BZ k t a b) (aQ κ)
def Sr {S:Type} (k:Nat):Fx S:=fp 21 [(87,zk k)] [] k Tryz.f206 0
theorem Xv {S:Type} (o:Obj) (ho:ag o) (k:Nat):Tl o 206 (LZ k:Rw S):=ai (Sr k) ⟨Cm o ho k,trivial⟩ Tryz.func206 (by kernel_rfl) fun t a b κ x h=>Eq.trans (by kernel_rfl) (aj h)
def L0 {S:Type} (k:Nat):Rw S:=ah CZ xn fun f a_from a_by κ=>aa k (sM k f a_from a_by) (au κ)
def Ss {S:Type} (k:Nat):Fx S:=fp 17 [(123,qh k)] [] k Tryz.f203 0
theorem Xw {S:Type} (o:Obj) (ho:ag o) (k:Nat):Tl o 203 (L0 k:Rw S):=ai (Ss k) ⟨tc o ho k,trivial⟩ Tryz.func203 (by kernel_rfl) fun f a_from a_by κ x h=>Eq.trans (by kernel_rfl) (aj h)
def zl {S:Type} (hd:fC S):Rw S:=ah aaf xn fun t v vby d dby κ=>hd t v vby d dby (aL κ)
def jB {S:Type} (hd:fC S) (k:Nat):Fx S:=fp 174 [(124,nF k),(164,zl hd),(182,zi k),(183,zj k),(203,L0 k)] [(1000006,⟨[(1,.none),(2,.none),(3,.none),(4,.none),(5,.none),(10,.none),(11,.none)],[(5,[.none,.none,.none,.none,.none,.none]),(10,[.none,.none,.none,some (200643,true),some (200644,true),some (200645,true)]),(11,[.none,.none,.none,some (200707,true),some (200708,true),some (200709,true)])]⟩,ap 3 7),(11,⟨[(1,.none),(2,.none),(3,.none),(4,.none),(5,.none),(10,.none),(11,.none),(14,.none)],[(5,[.none,.none,.none,.none,.none,.none]),(10,[.none,.none,.none,some (200643,true),some (200644,true),some (200645,true)]),(11,[.none,.none,.none,.none,some (200708,true),some (200709,true)])]⟩,ap 9 191),(19,⟨[(1,.none),(2,.none),(3,.none),(4,.none),(5,.none),(10,.none),(11,.none),(18,.none)],[(5,[.none,.none,.none,.none,.none,.none]),(10,[.none,.none,.none,some (200643,true),some (200644,true),some (200645,true)]),(11,[.none,.none,.none,.none,some (200708,true),some (200709,true)])]⟩,ap 10 383),(26,⟨[(1,.none),(2,.none),(3,.none),(4,.none),(5,.none),(10,.none),(11,.none),(18,.none),(21,.none),(22,.none)],[(5,[.none,.none,.none,.none,.none,.none]),(10,[.none,.none,.none,some (200643,true),some (200644,true),some (200645,true)]),(11,[.none,.none,.none,.none,some (200708,true),some (200709,true)]),(21,[.none,some (201345,true)])]⟩,ap 20 379263)] k Tryz.f164 0
def Ka (t:Tm) (v vby d dby:Int) (b11_1:Int):St UU:=⟨[(1,(iI v)),(2,(iI vby)),(3,(iI d)),(4,(iI dby)),(5,(pt 5)),(10,(pt 10)),(11,(pt 11))],[(5,bT t),(10,.cells [(iI 0),(iI 0),(.str ByteArray.empty),(.own 200643 0),(.own 200644 0),(.own 200645 0)]),(11,.cells [(iI t.kind),(iI b11_1),(.str t.name),(.own 200707 0),(.own 200708 0),(.own 200709 0)])],[(200709,⟨0,ET.B,([]:List (Br Tm))⟩),(200708,⟨0,ET.T,([]:List Tm)⟩),(200707,⟨0,ET.C,([]:List Cl)⟩),(200645,⟨0,ET.B,([]:List (Br Tm))⟩),(200644,⟨0,ET.T,([]:List Tm)⟩),(200643,⟨0,ET.C,([]:List Cl)⟩)],[(200709,.wr),(200708,.wr),(200707,.wr),(200645,.wr),(200644,.wr),(200643,.wr)]⟩
def Ds (t:Tm) (b11_1:Int) (r2:List Cl×Int) (v vby d dby:Int) (b11_4:List Tm) (i14:Int):St UU:=⟨[(1,(iI v)),(2,(iI vby)),(3,(iI d)),(4,(iI dby)),(5,(pt 5)),(10,(pt 10)),(11,(pt 11)),(14,(iI i14))],[(5,bT t),(10,.cells [(iI 0),(iI 0),(.str ByteArray.empty),(.own 200643 0),(.own 200644 0),(.own 200645 0)]),(11,.cells [(iI t.kind),(iI b11_1),(.str t.name),(sC r2.1),(.own 200708 0),(.own 200709 0)])],[(200709,⟨0,ET.B,([]:List (Br Tm))⟩),(200708,⟨0,ET.T,b11_4⟩),(200645,⟨0,ET.B,([]:List (Br Tm))⟩),(200644,⟨0,ET.T,([]:List Tm)⟩),(200643,⟨0,ET.C,([]:List Cl)⟩)],[(200709,.wr),(200708,.wr),(200645,.wr),(200644,.wr),(200643,.wr)]⟩
def tP (t:Tm) (b11_1:Int) (r2:List Cl×Int) (b11_4:List Tm) (v vby d dby:Int) (b11_5:List (Br Tm)) (i18:Int):St UU:=⟨[(1,(iI v)),(2,(iI vby)),(3,(iI d)),(4,(iI dby)),(5,(pt 5)),(10,(pt 10)),(11,(pt 11)),(18,(iI i18))],[(5,bT t),(10,.cells [(iI 0),(iI 0),(.str ByteArray.empty),(.own 200643 0),(.own 200644 0),(.own 200645 0)]),(11,.cells [(iI t.kind),(iI b11_1),(.str t.name),(sC r2.1),(.own 200708 0),(.own 200709 0)])],[(200709,⟨0,ET.B,b11_5⟩),(200708,⟨0,ET.T,b11_4⟩),(200645,⟨0,ET.B,([]:List (Br Tm))⟩),(200644,⟨0,ET.T,([]:List Tm)⟩),(200643,⟨0,ET.C,([]:List Cl)⟩)],[(200709,.wr),(200708,.wr),(200645,.wr),(200644,.wr),(200643,.wr)]⟩
def Kb (t:Tm) (b11_1:Int) (r2:List Cl×Int) (b11_4:List Tm) (b11_5:List (Br Tm)) (r9:List Cl×Int) (v i18 vby d dby:Int) (b21_1:List Tm) (v22:Int):St UU:=⟨[(1,(iI v)),(2,(iI vby)),(3,(iI d)),(4,(iI dby)),(5,(pt 5)),(10,(pt 10)),(11,(pt 11)),(18,(iI i18)),(21,(pt 21)),(22,(iI v22))],[(5,bT t),(10,.cells [(iI 0),(iI 0),(.str ByteArray.empty),(.own 200643 0),(.own 200644 0),(.own 200645 0)]),(11,.cells [(iI t.kind),(iI b11_1),(.str t.name),(sC r2.1),(.own 200708 0),(.own 200709 0)]),(21,.cells [(sC r9.1),(.own 201345 0)])],[(201345,⟨0,ET.T,b21_1⟩),(200709,⟨0,ET.B,b11_5⟩),(200708,⟨0,ET.T,b11_4⟩),(200645,⟨0,ET.B,([]:List (Br Tm))⟩),(200644,⟨0,ET.T,([]:List Tm)⟩),(200643,⟨0,ET.C,([]:List Cl)⟩)],[(201345,.wr),(200709,.wr),(200708,.wr),(200645,.wr),(200644,.wr),(200643,.wr)]⟩
section
variable {S:Type} (hd:fC S) (k:Nat) (t:Tm) (v vby d dby:Int) (κ:Out UU→Option S)
theorem U2 (b11_1 r2 b11_4 b11_5 r9 i18 κ2): ∀n b21_1 v22,(jB hd k).lp κ 26 [κ2] n (Kb t b11_1 r2 b11_4 b11_5 r9 v i18 vby d dby b21_1 v22)=jh hd k (aL κ) (fun b11_5 i18=>κ2 (tP t b11_1 r2 b11_4 v vby d dby b11_5 i18)) t b11_1 r2 b11_4 b11_5 r9 v i18 vby d dby n b21_1 v22:=aV (wi hd k (aL κ) t b11_1 r2 b11_4 b11_5 r9 v i18 vby d dby (fun b11_5 i18=>κ2 (tP t b11_1 r2 b11_4 v vby d dby b11_5 i18))) rfl (fun _=>rfl) fun r b21_1 v22=>by kernel_rfl
theorem U1 (b11_1 r2 b11_4): ∀n b11_5 i18,(jB hd k).lp κ 19 [] n (tP t b11_1 r2 b11_4 v vby d dby b11_5 i18)=eX hd k (aL κ) t b11_1 r2 b11_4 v vby d dby n b11_5 i18:=aV (fun own=>rN hd k (aL κ) t b11_1 r2 b11_4 v vby d dby (fun b11_5 r9 i18 b21_1 v22=>jh hd k (aL κ) own t b11_1 r2 b11_4 b11_5 r9 v i18 vby d dby k b21_1 v22) own) rfl (fun _=>rfl) fun r b11_5 i18=>Eq.trans (b:=rN hd k (aL κ) t b11_1 r2 b11_4 v vby d dby (fun b11_5 r9 i18 b21_1 v22=>(jB hd k).lp κ 26 [r] k (Kb t b11_1 r2 b11_4 b11_5 r9 v i18 vby d dby b21_1 v22)) (fun b11_5 i18=>r (tP t b11_1 r2 b11_4 v vby d dby b11_5 i18)) b11_5 i18) (by kernel_rfl) (by simp only [U2])
theorem U0 (b11_1 r2): ∀n b11_4 i14,(jB hd k).lp κ 11 [] n (Ds t b11_1 r2 v vby d dby b11_4 i14)=hJ hd k (aL κ) t b11_1 r2 v vby d dby n b11_4 i14:=aV (fun own=>rM hd k (aL κ) t b11_1 r2 v vby d dby (fun b11_4 b11_5 i18=>eX hd k (aL κ) t b11_1 r2 b11_4 v vby d dby k b11_5 i18) own) rfl (fun _=>rfl) fun r b11_4 i14=>Eq.trans (b:=rM hd k (aL κ) t b11_1 r2 v vby d dby (fun b11_4 b11_5 i18=>(jB hd k).lp κ 19 [] k (tP t b11_1 r2 b11_4 v vby d dby b11_5 i18)) (fun b11_4 i14=>r (Ds t b11_1 r2 v vby d dby b11_4 i14)) b11_4 i14) (by kernel_rfl) (by simp only [U1])
theorem UZ: ∀n b11_1,(jB hd k).jn κ 1000006 [] n (Ka t v vby d dby b11_1)=yB hd k (aL κ) t v vby d dby n b11_1:=tu (rL hd k (aL κ) t v vby d dby (fun b11_1 r2 b11_4 i14=>hJ hd k (aL κ) t b11_1 r2 v vby d dby k b11_4 i14)) rfl (fun _=>rfl) (fun b11_1=>Eq.trans (b:=rL hd k (aL κ) t v vby d dby (fun b11_1 r2 b11_4 i14=>(jB hd k).lp κ 11 [] k (Ds t b11_1 r2 v vby d dby b11_4 i14)) b11_1) (by kernel_rfl) (by simp only [U0]))
end
theorem CK {S:Type} (o:Obj) (ho:ag o): ∀k:Nat,Tl o 164 (zl (dh k:fC S))
 |0=>e9 fun t v vby d dby κ x h=>by cases h
 |k+1=>ai (jB (dh k) k) ⟨oO o ho k,CK o ho k,Cj o ho k,Ck o ho k,Xw o ho k,trivial⟩ Tryz.func164 (by kernel_rfl) fun t v vby d dby κ x h=>Eq.trans (b:=GD (dh k) k (aL κ) (fun b11_1=>(jB (dh k) k).jn κ 1000006 [] k (Ka t v vby d dby b11_1)) t v vby d dby) (by kernel_rfl) (Eq.trans (by simp only [UZ];rfl) h)
def L3 {S:Type} (k:Nat):Rw S:=ah fK xn fun t κ=>aa k (xA k t) (bY κ)
def Su {S:Type} (k:Nat):Fx S:=fp 12 [] [] k Tryz.f207 0
theorem Xx {S:Type} (o:Obj) (ho:ag o) (k:Nat):Tl o 207 (L3 k:Rw S):=ai (Su k) trivial Tryz.func207 (by kernel_rfl) fun t κ x h=>Eq.trans (by kernel_rfl) (aj h)
def L4 {S:Type} (k:Nat):Rw S:=ah mV xn fun t a_from a_by κ=>aa k (xz k t a_from a_by) (bY κ)
def Sv {S:Type} (k:Nat):Fx S:=fp 26 [(164,zl (dh k)),(206,LZ k),(207,L3 k)] [] k Tryz.f166 0
theorem Xy {S:Type} (o:Obj) (ho:ag o) (k:Nat):Tl o 166 (L4 k:Rw S):=ai (Sv k) ⟨CK o ho k,Xv o ho k,Xx o ho k,trivial⟩ Tryz.func166 (by kernel_rfl) fun t a_from a_by κ x h=>Eq.trans (by kernel_rfl) (aj h)
def ur {S:Type} (k:Nat):Rw S:=ah lq xn fun s i κ=>aa k (gh k s i) (bX κ)
def AB {S:Type} (k:Nat):Fx S:=fp 31 [(209,nD k),(228,nC k)] [(4,⟨[(1,.none),(5,some (100005,true)),(6,some (100006,true)),(7,.none)],[]⟩,ap 6 23)] k Tryz.f235 0
def Kc (i:Int) (r1:List Int) (out6:List Int) (v7:Int):St UU:=⟨[(1,(iI i)),(5,(.own 100005 0)),(6,(.own 100006 0)),(7,(iI v7))],[],[(100006,⟨0,ET.I,out6⟩),(100005,⟨0,ET.I,r1⟩)],[(100006,.wr),(100005,.wr)]⟩
section
variable {S:Type} (k:Nat) (s i:Int) (κ:Out UU→Option S)
theorem U3 (r1): ∀n out6 v7,(AB k).lp κ 4 [] n (Kc i r1 out6 v7)=pi k (bX κ) i r1 n out6 v7:=aV (vJ k (bX κ) i r1) rfl (fun _=>rfl) fun r out6 v7=>by kernel_rfl
end
theorem xU {S:Type} (o:Obj) (ho:ag o) (k:Nat):Tl o 235 (ur k:Rw S):=ai (AB k) ⟨oM o ho k,oL o ho k,trivial⟩ Tryz.func235 (by kernel_rfl) fun s i κ x h=>Eq.trans (b:=Gb k (bX κ) (fun r1 out6 v7=>(AB k).lp κ 4 [] k (Kc i r1 out6 v7)) s i) (by kernel_rfl) (Eq.trans (by simp only [U3];rfl) (aj h))
def L5 {S:Type} (k:Nat):Rw S:=ah dU xn fun f κ=>aa k (xv k f) (au κ)
def Sx {S:Type} (k:Nat):Fx S:=fp 11 [(88,jp k),(188,uq k)] [] k Tryz.f236 0
theorem Xz {S:Type} (o:Obj) (ho:ag o) (k:Nat):Tl o 236 (L5 k:Rw S):=ai (Sx k) ⟨jS o ho k,xS o ho k,trivial⟩ Tryz.func236 (by kernel_rfl) fun f κ x h=>Eq.trans (by kernel_rfl) (aj h)
def L6 {S:Type} (k:Nat):Rw S:=ah mU xn fun c κ=>aa k (xu k c) (fq κ)
def AC {S:Type} (k:Nat):Fx S:=fp 37 [(136,lX k),(137,lY k),(228,nC k)] [(3,⟨[(1,.none),(3,some (100003,true)),(4,.none)],[(1,[.none,.none])]⟩,ap 5 11)] k Tryz.f246 0
def Kd (c:Cl) (out3:List Cl) (i4:Int):St UU:=⟨[(1,(pt 1)),(3,(.own 100003 0)),(4,(iI i4))],[(1,bC c)],[(100003,⟨0,ET.C,out3⟩)],[(100003,.wr)]⟩
section
variable {S:Type} (k:Nat) (c:Cl) (κ:Out UU→Option S)
theorem U4: ∀n out3 i4,(AC k).lp κ 3 [] n (Kd c out3 i4)=pw k (fq κ) c n out3 i4:=aV (vV k (fq κ) c) rfl (fun _=>rfl) fun r out3 i4=>by kernel_rfl
end
theorem XA {S:Type} (o:Obj) (ho:ag o) (k:Nat):Tl o 246 (L6 k:Rw S):=ai (AC k) ⟨mK o ho k,mL o ho k,oL o ho k,trivial⟩ Tryz.func246 (by kernel_rfl) fun c κ x h=>Eq.trans (b:=Gp k (fq κ) (fun out3 i4=>(AC k).lp κ 3 [] k (Kd c out3 i4)) c) (by kernel_rfl) (Eq.trans (by simp only [U4];rfl) (aj h))
def L7 {S:Type} (k:Nat):Rw S:=ah lq xn fun s i κ=>aa k (sD k s i) (bX κ)
def Sy {S:Type} (k:Nat):Fx S:=fp 21 [(209,nD k),(228,nC k),(235,ur k)] [] k Tryz.f248 0
theorem XB {S:Type} (o:Obj) (ho:ag o) (k:Nat):Tl o 248 (L7 k:Rw S):=ai (Sy k) ⟨oM o ho k,oL o ho k,xU o ho k,trivial⟩ Tryz.func248 (by kernel_rfl) fun s i κ x h=>Eq.trans (by kernel_rfl) (aj h)
end
end Go.Proofs.YtapmagaejigpnaaGreatDoor
namespace Go.Proofs.YtapmagaejigpnaaGreatDoor
open Go PI
set_option linter.unusedVariables false
set_option maxRecDepth 100000
noncomputable section
def L8 {S:Type} (k:Nat):Rw S:=ah aag xn fun a b κ=>aa k (sH k a b) (bX κ)
def AD {S:Type} (k:Nat):Fx S:=fp 22 [(209,nD k),(248,L7 k)] [(3,⟨[(0,.none),(5,some (100005,true)),(6,.none)],[]⟩,ap 5 11)] k Tryz.f247 0
def Ke (r1:List Int) (a0 i6:Int):St UU:=⟨[(0,(iU a0)),(5,(.own 100005 0)),(6,(iI i6))],[],[(100005,⟨0,ET.I,r1⟩)],[(100005,.wr)]⟩
section
variable {S:Type} (k:Nat) (a b:Int) (κ:Out UU→Option S)
theorem U5 (r1): ∀n a0 i6,(AD k).lp κ 3 [] n (Ke r1 a0 i6)=po k (bX κ) r1 n a0 i6:=aV (vP k (bX κ) r1) rfl (fun _=>rfl) fun r a0 i6=>by kernel_rfl
end
theorem XC {S:Type} (o:Obj) (ho:ag o) (k:Nat):Tl o 247 (L8 k:Rw S):=ai (AD k) ⟨oM o ho k,XB o ho k,trivial⟩ Tryz.func247 (by kernel_rfl) fun a b κ x h=>Eq.trans (b:=Gi k (bX κ) (fun r1 a0 i6=>(AD k).lp κ 3 [] k (Ke r1 a0 i6)) a b) (by kernel_rfl) (Eq.trans (by simp only [U5];rfl) (aj h))
def Ec {S:Type} (k:Nat):Rw S:=ah tx xn fun a b κ=>aa k (sF k a b) (Ly κ)
def Sz {S:Type} (k:Nat):Fx S:=fp 16 [(247,L8 k)] [] k Tryz.f245 0
theorem HZ {S:Type} (o:Obj) (ho:ag o) (k:Nat):Tl o 245 (Ec k:Rw S):=ai (Sz k) ⟨XC o ho k,trivial⟩ Tryz.func245 (by kernel_rfl) fun a b κ x h=>Eq.trans (by kernel_rfl) (aj h)
def Ed {S:Type} (k:Nat):Rw S:=ah g5 xn fun f g κ=>aa k (jN k f g) (au κ)
def qQ {S:Type} (k:Nat):Fx S:=fp 45 [(88,jp k),(136,lX k),(245,Ec k)] [(5,⟨[(0,.none),(1,.none),(6,some (100006,true)),(7,.none)],[]⟩,ap 6 23),(8,⟨[(0,.none),(1,.none),(6,some (100006,true)),(7,.none),(8,.none)],[]⟩,ap 12 1175)] k Tryz.f239 0
def tQ (f g:List Cl) (out6:List Cl) (i7:Int):St UU:=⟨[(0,(sC f)),(1,(sC g)),(6,(.own 100006 0)),(7,(iI i7))],[],[(100006,⟨0,ET.C,out6⟩)],[(100006,.wr)]⟩
def Kf (f g:List Cl) (i7:Int) (out6':List Cl) (v8:Int):St UU:=⟨[(0,(sC f)),(1,(sC g)),(6,(.own 100006 0)),(7,(iI i7)),(8,(iI v8))],[],[(100006,⟨0,ET.C,out6'⟩)],[(100006,.wr)]⟩
section
variable {S:Type} (k:Nat) (f g:List Cl) (κ:Out UU→Option S)
theorem U7 (i7 κ0): ∀n out6' v8,(qQ k).lp κ 8 [κ0] n (Kf f g i7 out6' v8)=m_ k (au κ) (fun out6 i7=>κ0 (tQ f g out6 i7)) f g i7 n out6' v8:=aV (vS k (au κ) f g i7 (fun out6 i7=>κ0 (tQ f g out6 i7))) rfl (fun _=>rfl) fun r out6' v8=>by kernel_rfl
theorem U6: ∀n out6 i7,(qQ k).lp κ 5 [] n (tQ f g out6 i7)=lG k (au κ) f g n out6 i7:=aV (fun own=>rn k (au κ) f g (fun i7 out6' v8=>m_ k (au κ) own f g i7 k out6' v8) own) rfl (fun _=>rfl) fun r out6 i7=>Eq.trans (b:=rn k (au κ) f g (fun i7 out6' v8=>(qQ k).lp κ 8 [r] k (Kf f g i7 out6' v8)) (fun out6 i7=>r (tQ f g out6 i7)) out6 i7) (by kernel_rfl) (by simp only [U7])
end
theorem H0 {S:Type} (o:Obj) (ho:ag o) (k:Nat):Tl o 239 (Ed k:Rw S):=ai (qQ k) ⟨jS o ho k,mK o ho k,HZ o ho k,trivial⟩ Tryz.func239 (by kernel_rfl) fun f g κ x h=>Eq.trans (b:=Gl k (au κ) (fun out6 i7=>(qQ k).lp κ 5 [] k (tQ f g out6 i7)) f g) (by kernel_rfl) (Eq.trans (by simp only [U6];rfl) (aj h))
def Ee {S:Type} (k:Nat):Rw S:=ah dU xn fun f κ=>aa k (oy k f) (au κ)
def AE {S:Type} (k:Nat):Fx S:=fp 34 [(88,jp k),(239,Ed k),(246,L6 k)] [(6,a6 [0,4,5,6] [],ap 7 47)] k Tryz.f240 0
def Kg (f:List Cl) (v4:List Cl) (v5 i6:Int):St UU:=⟨[(0,(sC f)),(4,(sC v4)),(5,(iI v5)),(6,(iI i6))],[],[],[]⟩
section
variable {S:Type} (k:Nat) (f:List Cl) (κ:Out UU→Option S)
theorem U8: ∀n v4 v5 i6,(AE k).lp κ 6 [] n (Kg f v4 v5 i6)=pr k (au κ) f n v4 v5 i6:=jj (vT k (au κ) f) rfl (fun _=>rfl) fun r v4 v5 i6=>by kernel_rfl
end
theorem H1 {S:Type} (o:Obj) (ho:ag o) (k:Nat):Tl o 240 (Ee k:Rw S):=ai (AE k) ⟨jS o ho k,H0 o ho k,XA o ho k,trivial⟩ Tryz.func240 (by kernel_rfl) fun f κ x h=>Eq.trans (b:=Gm k (au κ) (fun v4 v5 i6=>(AE k).lp κ 6 [] k (Kg f v4 v5 i6)) f) (by kernel_rfl) (Eq.trans (by simp only [U8];rfl) (aj h))
def L9 {S:Type} (k:Nat):Rw S:=ah dU xn fun f κ=>aa k (sJ k f) (au κ)
def SA {S:Type} (k:Nat):Fx S:=fp 18 [(188,uq k),(240,Ee k)] [] k Tryz.f237 0
theorem XD {S:Type} (o:Obj) (ho:ag o) (k:Nat):Tl o 237 (L9 k:Rw S):=ai (SA k) ⟨xS o ho k,H1 o ho k,trivial⟩ Tryz.func237 (by kernel_rfl) fun f κ x h=>Eq.trans (by kernel_rfl) (aj h)
def L_ {S:Type} (k:Nat):Rw S:=ah g5 xn fun f g κ=>aa k (kS k f g) (au κ)
def qR {S:Type} (k:Nat):Fx S:=fp 45 [(43,nE k),(188,uq k),(245,Ec k)] [(5,⟨[(0,.none),(1,.none),(6,some (100006,true)),(7,.none)],[]⟩,ap 6 23),(8,⟨[(0,.none),(1,.none),(6,some (100006,true)),(7,.none),(8,.none)],[]⟩,ap 12 1175)] k Tryz.f238 0
def tR (f g:List Cl) (out6:List Cl) (i7:Int):St UU:=⟨[(0,(sC f)),(1,(sC g)),(6,(.own 100006 0)),(7,(iI i7))],[],[(100006,⟨0,ET.C,out6⟩)],[(100006,.wr)]⟩
def Kh (f g:List Cl) (i7:Int) (out6':List Cl) (v8:Int):St UU:=⟨[(0,(sC f)),(1,(sC g)),(6,(.own 100006 0)),(7,(iI i7)),(8,(iI v8))],[],[(100006,⟨0,ET.C,out6'⟩)],[(100006,.wr)]⟩
section
variable {S:Type} (k:Nat) (f g:List Cl) (κ:Out UU→Option S)
theorem U_ (i7 κ0): ∀n out6' v8,(qR k).lp κ 8 [κ0] n (Kh f g i7 out6' v8)=na k (au κ) (fun out6 i7=>κ0 (tR f g out6 i7)) f g i7 n out6' v8:=aV (vW k (au κ) f g i7 (fun out6 i7=>κ0 (tR f g out6 i7))) rfl (fun _=>rfl) fun r out6' v8=>by kernel_rfl
theorem U9: ∀n out6 i7,(qR k).lp κ 5 [] n (tR f g out6 i7)=lJ k (au κ) f g n out6 i7:=aV (fun own=>rq k (au κ) f g (fun i7 out6' v8=>na k (au κ) own f g i7 k out6' v8) own) rfl (fun _=>rfl) fun r out6 i7=>Eq.trans (b:=rq k (au κ) f g (fun i7 out6' v8=>(qR k).lp κ 8 [r] k (Kh f g i7 out6' v8)) (fun out6 i7=>r (tR f g out6 i7)) out6 i7) (by kernel_rfl) (by simp only [U_])
end
theorem XE {S:Type} (o:Obj) (ho:ag o) (k:Nat):Tl o 238 (L_ k:Rw S):=ai (qR k) ⟨oN o ho k,xS o ho k,HZ o ho k,trivial⟩ Tryz.func238 (by kernel_rfl) fun f g κ x h=>Eq.trans (b:=Gq k (au κ) (fun out6 i7=>(qR k).lp κ 5 [] k (tR f g out6 i7)) f g) (by kernel_rfl) (Eq.trans (by simp only [U9];rfl) (aj h))
def Mb {S:Type} (k:Nat):Rw S:=ah yv xn fun f i a_r κ=>aa k (xw k f i a_r) (au κ)
def AF {S:Type} (k:Nat):Fx S:=fp 90 [(43,nE k),(88,jp k),(137,lY k),(138,Eb k),(235,ur k),(236,L5 k),(237,L9 k),(238,L_ k)] [(5,a6 [0,1,2,8,9] [],ap 6 23)] k Tryz.f225 0
def Ki (f:List Cl) (i:Int) (a_r:List Cl) (v8:List Cl) (v9:Int):St UU:=⟨[(0,(sC f)),(1,(iI i)),(2,(sC a_r)),(8,(sC v8)),(9,(iI v9))],[],[],[]⟩
section
variable {S:Type} (k:Nat) (f:List Cl) (i:Int) (a_r:List Cl) (κ:Out UU→Option S)
theorem Va: ∀n v8 v9,(AF k).lp κ 5 [] n (Ki f i a_r v8 v9)=nc k (au κ) f i a_r n v8 v9:=aV (vX k (au κ) f i a_r) rfl (fun _=>rfl) fun r v8 v9=>by kernel_rfl
end
theorem XG {S:Type} (o:Obj) (ho:ag o) (k:Nat):Tl o 225 (Mb k:Rw S):=ai (AF k) ⟨oN o ho k,jS o ho k,mL o ho k,HY o ho k,xU o ho k,Xz o ho k,XD o ho k,XE o ho k,trivial⟩ Tryz.func225 (by kernel_rfl) fun f i a_r κ x h=>Eq.trans (b:=Gr k (au κ) (fun v8 v9=>(AF k).lp κ 5 [] k (Ki f i a_r v8 v9)) f i a_r) (by kernel_rfl) (Eq.trans (by simp only [Va];rfl) (aj h))
def Mc {S:Type} (k:Nat):Rw S:=ah g5 xn fun f g κ=>aa k (xq k f g) (au κ)
def SC {S:Type} (k:Nat):Fx S:=fp 22 [(88,jp k),(136,lX k)] [] k Tryz.f241 0
theorem XH {S:Type} (o:Obj) (ho:ag o) (k:Nat):Tl o 241 (Mc k:Rw S):=ai (SC k) ⟨jS o ho k,mK o ho k,trivial⟩ Tryz.func241 (by kernel_rfl) fun f g κ x h=>Eq.trans (by kernel_rfl) (aj h)
def Md {S:Type} (k:Nat):Rw S:=ah yv xn fun f i a_r κ=>aa k (xt k f i a_r) (au κ)
def qS {S:Type} (k:Nat):Fx S:=fp 93 [(88,jp k),(137,lY k),(235,ur k),(239,Ed k),(240,Ee k),(241,Mc k)] [(5,a6 [0,1,2,8,9] [],ap 6 23),(1000017,a6 [0,1,2,8,9,11,12] [],ap 15 31895)] k Tryz.f226 0
def tT (f:List Cl) (i:Int) (a_r:List Cl) (v8:List Cl) (v9:Int):St UU:=⟨[(0,(sC f)),(1,(iI i)),(2,(sC a_r)),(8,(sC v8)),(9,(iI v9))],[],[],[]⟩
def Kj (f:List Cl) (i:Int) (a_r v8:List Cl) (v9:Int) (g11:List Cl) (v12:Int):St UU:=⟨[(0,(sC f)),(1,(iI i)),(2,(sC a_r)),(8,(sC v8)),(9,(iI v9)),(11,(sC g11)),(12,(iI v12))],[],[],[]⟩
section
variable {S:Type} (k:Nat) (f:List Cl) (i:Int) (a_r:List Cl) (κ:Out UU→Option S)
theorem Vc (v8 v9 κ0): ∀n g11 v12,(qS k).jn κ 1000017 [κ0] n (Kj f i a_r v8 v9 g11 v12)=pu k (au κ) (fun v8 v9=>κ0 (tT f i a_r v8 v9)) f i a_r v8 v9 n g11 v12:=IZ (vU k (au κ) f i a_r v8 v9 (fun v8 v9=>κ0 (tT f i a_r v8 v9))) rfl (fun _=>rfl) (fun g11 v12=>by kernel_rfl)
theorem Vb: ∀n v8 v9,(qS k).lp κ 5 [] n (tT f i a_r v8 v9)=lH k (au κ) f i a_r n v8 v9:=aV (fun own=>rp k (au κ) f i a_r (fun v8 v9 g11 v12=>pu k (au κ) own f i a_r v8 v9 k g11 v12) own) rfl (fun _=>rfl) fun r v8 v9=>Eq.trans (b:=rp k (au κ) f i a_r (fun v8 v9 g11 v12=>(qS k).jn κ 1000017 [r] k (Kj f i a_r v8 v9 g11 v12)) (fun v8 v9=>r (tT f i a_r v8 v9)) v8 v9) (by kernel_rfl) (by simp only [Vc])
end
theorem XI {S:Type} (o:Obj) (ho:ag o) (k:Nat):Tl o 226 (Md k:Rw S):=ai (qS k) ⟨jS o ho k,mL o ho k,xU o ho k,H0 o ho k,H1 o ho k,XH o ho k,trivial⟩ Tryz.func226 (by kernel_rfl) fun f i a_r κ x h=>Eq.trans (b:=Gn k (au κ) (fun v8 v9=>(qS k).lp κ 5 [] k (tT f i a_r v8 v9)) f i a_r) (by kernel_rfl) (Eq.trans (by simp only [Vb];rfl) (aj h))
def Me {S:Type} (k:Nat):Rw S:=ah aah xn fun f isFace i a_r depth κ=>aa k (sO k f isFace i a_r depth) (au κ)
def SD {S:Type} (k:Nat):Fx S:=fp 48 [(123,qh k),(137,lY k),(210,D8 k),(225,Mb k),(226,Md k)] [] k Tryz.f204 0
theorem XJ {S:Type} (o:Obj) (ho:ag o) (k:Nat):Tl o 204 (Me k:Rw S):=ai (SD k) ⟨tc o ho k,mL o ho k,HV o ho k,XG o ho k,XI o ho k,trivial⟩ Tryz.func204 (by kernel_rfl) fun f isFace i a_r depth κ x h=>Eq.trans (by kernel_rfl) (aj h)
def Mf {S:Type} (k:Nat):Rw S:=ah lq xn fun s i κ=>aa k (ov k s i) (bX κ)
def AG {S:Type} (k:Nat):Fx S:=fp 35 [(209,nD k),(228,nC k),(235,ur k)] [(3,⟨[(1,.none),(5,some (100005,true)),(6,.none)],[]⟩,ap 5 11)] k Tryz.f227 0
def Kk (i:Int) (l5:List Int) (v6:Int):St UU:=⟨[(1,(iI i)),(5,(.own 100005 0)),(6,(iI v6))],[],[(100005,⟨0,ET.I,l5⟩)],[(100005,.wr)]⟩
section
variable {S:Type} (k:Nat) (s i:Int) (κ:Out UU→Option S)
theorem Vd: ∀n l5 v6,(AG k).lp κ 3 [] n (Kk i l5 v6)=m6 k (bX κ) i n l5 v6:=aV (vF k (bX κ) i) rfl (fun _=>rfl) fun r l5 v6=>by kernel_rfl
end
theorem XK {S:Type} (o:Obj) (ho:ag o) (k:Nat):Tl o 227 (Mf k:Rw S):=ai (AG k) ⟨oM o ho k,oL o ho k,xU o ho k,trivial⟩ Tryz.func227 (by kernel_rfl) fun s i κ x h=>Eq.trans (b:=F9 k (bX κ) (fun l5 v6=>(AG k).lp κ 3 [] k (Kk i l5 v6)) s i) (by kernel_rfl) (Eq.trans (by simp only [Vd];rfl) (aj h))
def Mg {S:Type} (k:Nat):Rw S:=ah CX xn fun f i κ=>aa k (sN k f i) (fq κ)
def AH {S:Type} (k:Nat):Fx S:=fp 37 [(136,lX k),(227,Mf k)] [(3,⟨[(0,.none),(1,.none),(5,some (100005,true)),(6,.none)],[]⟩,ap 5 11)] k Tryz.f205 0
def Kl (f:List Cl) (i:Int) (out5:List Cl) (v6:Int):St UU:=⟨[(0,(sC f)),(1,(iI i)),(5,(.own 100005 0)),(6,(iI v6))],[],[(100005,⟨0,ET.C,out5⟩)],[(100005,.wr)]⟩
section
variable {S:Type} (k:Nat) (f:List Cl) (i:Int) (κ:Out UU→Option S)
theorem Ve: ∀n out5 v6,(AH k).lp κ 3 [] n (Kl f i out5 v6)=pG k (fq κ) f i n out5 v6:=aV (wj k (fq κ) f i) rfl (fun _=>rfl) fun r out5 v6=>by kernel_rfl
end
theorem XL {S:Type} (o:Obj) (ho:ag o) (k:Nat):Tl o 205 (Mg k:Rw S):=ai (AH k) ⟨mK o ho k,XK o ho k,trivial⟩ Tryz.func205 (by kernel_rfl) fun f i κ x h=>Eq.trans (b:=GE k (fq κ) (fun out5 v6=>(AH k).lp κ 3 [] k (Kl f i out5 v6)) f i) (by kernel_rfl) (Eq.trans (by simp only [Ve];rfl) (aj h))
def Ef {S:Type} (hd:gN S):Rw S:=ah aai xn fun t i a_r depth drop κ=>hd t i a_r depth drop (aL κ)
def mm {S:Type} (hd:gN S) (k:Nat):Fx S:=fp 174 [(124,nF k),(165,Ef hd),(182,zi k),(183,zj k),(204,Me k),(205,Mg k)] [(9,⟨[(1,.none),(2,.none),(3,.none),(4,.none),(5,.none),(10,.none),(11,.none),(14,.none)],[(5,[.none,.none,.none,.none,.none,.none]),(10,[.none,.none,.none,some (200643,true),some (200644,true),some (200645,true)]),(11,[.none,.none,.none,.none,some (200708,true),some (200709,true)])]⟩,ap 9 191),(17,⟨[(1,.none),(2,.none),(3,.none),(4,.none),(5,.none),(10,.none),(11,.none),(18,.none)],[(5,[.none,.none,.none,.none,.none,.none]),(10,[.none,.none,.none,some (200643,true),some (200644,true),some (200645,true)]),(11,[.none,.none,.none,.none,some (200708,true),some (200709,true)])]⟩,ap 10 383),(27,⟨[(1,.none),(2,.none),(3,.none),(4,.none),(5,.none),(10,.none),(11,.none),(18,.none),(21,.none),(22,.none)],[(5,[.none,.none,.none,.none,.none,.none]),(10,[.none,.none,.none,some (200643,true),some (200644,true),some (200645,true)]),(11,[.none,.none,.none,.none,some (200708,true),some (200709,true)]),(21,[.none,some (201345,true)])]⟩,ap 22 1558911)] k Tryz.f165 0
def Dt (t:Tm) (i:Int) (a_r:List Cl) (depth:Int) (drop:Bool) (b11_3:List Cl) (b11_4:List Tm) (v14:Int):St UU:=⟨[(1,(iI i)),(2,(sC a_r)),(3,(iI depth)),(4,(.bool drop)),(5,(pt 5)),(10,(pt 10)),(11,(pt 11)),(14,(iI v14))],[(5,bT t),(10,.cells [(iI 0),(iI 0),(.str ByteArray.empty),(.own 200643 0),(.own 200644 0),(.own 200645 0)]),(11,.cells [(iI t.kind),(iI t.n),(.str t.name),(sC b11_3),(.own 200708 0),(.own 200709 0)])],[(200709,⟨0,ET.B,([]:List (Br Tm))⟩),(200708,⟨0,ET.T,b11_4⟩),(200645,⟨0,ET.B,([]:List (Br Tm))⟩),(200644,⟨0,ET.T,([]:List Tm)⟩),(200643,⟨0,ET.C,([]:List Cl)⟩)],[(200709,.wr),(200708,.wr),(200645,.wr),(200644,.wr),(200643,.wr)]⟩
def tU (t:Tm) (b11_3:List Cl) (b11_4:List Tm) (i:Int) (a_r:List Cl) (depth:Int) (drop:Bool) (b11_5:List (Br Tm)) (v18:Int):St UU:=⟨[(1,(iI i)),(2,(sC a_r)),(3,(iI depth)),(4,(.bool drop)),(5,(pt 5)),(10,(pt 10)),(11,(pt 11)),(18,(iI v18))],[(5,bT t),(10,.cells [(iI 0),(iI 0),(.str ByteArray.empty),(.own 200643 0),(.own 200644 0),(.own 200645 0)]),(11,.cells [(iI t.kind),(iI t.n),(.str t.name),(sC b11_3),(.own 200708 0),(.own 200709 0)])],[(200709,⟨0,ET.B,b11_5⟩),(200708,⟨0,ET.T,b11_4⟩),(200645,⟨0,ET.B,([]:List (Br Tm))⟩),(200644,⟨0,ET.T,([]:List Tm)⟩),(200643,⟨0,ET.C,([]:List Cl)⟩)],[(200709,.wr),(200708,.wr),(200645,.wr),(200644,.wr),(200643,.wr)]⟩
def Km (t:Tm) (b11_3:List Cl) (b11_4:List Tm) (b11_5:List (Br Tm)) (i v18:Int) (a_r:List Cl) (depth:Int) (drop:Bool) (b21_0:List Cl) (b21_1:List Tm) (v22:Int):St UU:=⟨[(1,(iI i)),(2,(sC a_r)),(3,(iI depth)),(4,(.bool drop)),(5,(pt 5)),(10,(pt 10)),(11,(pt 11)),(18,(iI v18)),(21,(pt 21)),(22,(iI v22))],[(5,bT t),(10,.cells [(iI 0),(iI 0),(.str ByteArray.empty),(.own 200643 0),(.own 200644 0),(.own 200645 0)]),(11,.cells [(iI t.kind),(iI t.n),(.str t.name),(sC b11_3),(.own 200708 0),(.own 200709 0)]),(21,.cells [(sC b21_0),(.own 201345 0)])],[(201345,⟨0,ET.T,b21_1⟩),(200709,⟨0,ET.B,b11_5⟩),(200708,⟨0,ET.T,b11_4⟩),(200645,⟨0,ET.B,([]:List (Br Tm))⟩),(200644,⟨0,ET.T,([]:List Tm)⟩),(200643,⟨0,ET.C,([]:List Cl)⟩)],[(201345,.wr),(200709,.wr),(200708,.wr),(200645,.wr),(200644,.wr),(200643,.wr)]⟩
section
variable {S:Type} (hd:gN S) (k:Nat) (t:Tm) (i:Int) (a_r:List Cl) (depth:Int) (drop:Bool) (κ:Out UU→Option S)
theorem Vh (b11_3 b11_4 b11_5 v18 κ1): ∀n b21_0 b21_1 v22,(mm hd k).lp κ 27 [κ1] n (Km t b11_3 b11_4 b11_5 i v18 a_r depth drop b21_0 b21_1 v22)=kc hd k (aL κ) (fun b11_5 v18=>κ1 (tU t b11_3 b11_4 i a_r depth drop b11_5 v18)) t b11_3 b11_4 b11_5 i v18 a_r depth drop n b21_0 b21_1 v22:=jj (wk hd k (aL κ) t b11_3 b11_4 b11_5 i v18 a_r depth drop (fun b11_5 v18=>κ1 (tU t b11_3 b11_4 i a_r depth drop b11_5 v18))) rfl (fun _=>rfl) fun r b21_0 b21_1 v22=>by kernel_rfl
theorem Vg (b11_3 b11_4): ∀n b11_5 v18,(mm hd k).lp κ 17 [] n (tU t b11_3 b11_4 i a_r depth drop b11_5 v18)=hU hd k (aL κ) t b11_3 b11_4 i a_r depth drop n b11_5 v18:=aV (fun own=>rP hd k (aL κ) t b11_3 b11_4 i a_r depth drop (fun b11_5 v18 b21_0 b21_1 v22=>kc hd k (aL κ) own t b11_3 b11_4 b11_5 i v18 a_r depth drop k b21_0 b21_1 v22) own) rfl (fun _=>rfl) fun r b11_5 v18=>Eq.trans (b:=rP hd k (aL κ) t b11_3 b11_4 i a_r depth drop (fun b11_5 v18 b21_0 b21_1 v22=>(mm hd k).lp κ 27 [r] k (Km t b11_3 b11_4 b11_5 i v18 a_r depth drop b21_0 b21_1 v22)) (fun b11_5 v18=>r (tU t b11_3 b11_4 i a_r depth drop b11_5 v18)) b11_5 v18) (by kernel_rfl) (by simp only [Vh])
theorem Vf: ∀n b11_3 b11_4 v14,(mm hd k).lp κ 9 [] n (Dt t i a_r depth drop b11_3 b11_4 v14)=lN hd k (aL κ) t i a_r depth drop n b11_3 b11_4 v14:=jj (fun own=>rO hd k (aL κ) t i a_r depth drop (fun b11_3 b11_4 b11_5 v18=>hU hd k (aL κ) t b11_3 b11_4 i a_r depth drop k b11_5 v18) own) rfl (fun _=>rfl) fun r b11_3 b11_4 v14=>Eq.trans (b:=rO hd k (aL κ) t i a_r depth drop (fun b11_3 b11_4 b11_5 v18=>(mm hd k).lp κ 17 [] k (tU t b11_3 b11_4 i a_r depth drop b11_5 v18)) (fun b11_3 b11_4 v14=>r (Dt t i a_r depth drop b11_3 b11_4 v14)) b11_3 b11_4 v14) (by kernel_rfl) (by simp only [Vg])
end
theorem IQ {S:Type} (o:Obj) (ho:ag o): ∀k:Nat,Tl o 165 (Ef (fH k:gN S))
 |0=>e9 fun t i a_r depth drop κ x h=>by cases h
 |k+1=>ai (mm (fH k) k) ⟨oO o ho k,IQ o ho k,Cj o ho k,Ck o ho k,XJ o ho k,XL o ho k,trivial⟩ Tryz.func165 (by kernel_rfl) fun t i a_r depth drop κ x h=>Eq.trans (b:=GF (fH k) k (aL κ) (fun b11_3 b11_4 v14=>(mm (fH k) k).lp κ 9 [] k (Dt t i a_r depth drop b11_3 b11_4 v14)) t i a_r depth drop) (by kernel_rfl) (Eq.trans (by simp only [Vf];rfl) h)
def Eg {S:Type} (k:Nat):Rw S:=ah C0 xn fun t i a_r κ=>aa k (oE k t i a_r) (aL κ)
def SE {S:Type} (k:Nat):Fx S:=fp 27 [(123,qh k),(124,nF k),(165,Ef (fH k))] [] k Tryz.f120 0
theorem H2 {S:Type} (o:Obj) (ho:ag o) (k:Nat):Tl o 120 (Eg k:Rw S):=ai (SE k) ⟨tc o ho k,oO o ho k,IQ o ho k,trivial⟩ Tryz.func120 (by kernel_rfl) fun t i a_r κ x h=>Eq.trans (by kernel_rfl) (aj h)
def zn {S:Type} (k:Nat):Rw S:=ah aaj xn fun line a_r κ=>aa k (jO k line a_r) (aL κ)
def SF {S:Type} (k:Nat):Fx S:=fp 23 [(120,Eg k),(124,nF k),(166,L4 k)] [] k Tryz.f121 0
theorem Co {S:Type} (o:Obj) (ho:ag o) (k:Nat):Tl o 121 (zn k:Rw S):=ai (SF k) ⟨H2 o ho k,oO o ho k,Xy o ho k,trivial⟩ Tryz.func121 (by kernel_rfl) fun line a_r κ x h=>Eq.trans (by kernel_rfl) (aj h)
def qi {S:Type} (k:Nat):Rw S:=ah mV xn fun t vars dims κ=>aa k (dl k t vars dims) (aL κ)
def SG {S:Type} (k:Nat):Fx S:=fp 22 [(164,zl (dh k))] [] k Tryz.f117 0
theorem td {S:Type} (o:Obj) (ho:ag o) (k:Nat):Tl o 117 (qi k:Rw S):=ai (SG k) ⟨CK o ho k,trivial⟩ Tryz.func117 (by kernel_rfl) fun t vars dims κ x h=>Eq.trans (by kernel_rfl) (aj h)
def zo {S:Type} (k:Nat):Rw S:=ah Jh xn fun kind kids κ=>aa k (oF k kind kids) (aL κ)
def AI {S:Type} (k:Nat):Fx S:=fp 25 [] [(2,⟨[(0,.none),(1,.none),(4,.none),(5,.none)],[(4,[.none,.none,.none,some (200259,true),some (200260,true),some (200261,true)])]⟩,ap 4 5)] k Tryz.f118 0
def Ko (kind:Int) (kids:List Tm) (i5:Int):St UU:=⟨[(0,(iI kind)),(1,(sT kids)),(4,(pt 4)),(5,(iI i5))],[(4,.cells [(iI 0),(iI 0),(.str ByteArray.empty),(.own 200259 0),(.own 200260 0),(.own 200261 0)])],[(200261,⟨0,ET.B,([]:List (Br Tm))⟩),(200260,⟨0,ET.T,([]:List Tm)⟩),(200259,⟨0,ET.C,([]:List Cl)⟩)],[(200261,.wr),(200260,.wr),(200259,.wr)]⟩
section
variable {S:Type} (k:Nat) (kind:Int) (kids:List Tm) (κ:Out UU→Option S)
theorem Vi: ∀n i5,(AI k).lp κ 2 [] n (Ko kind kids i5)=pI k (aL κ) kind kids n i5:=ct (wl k (aL κ) kind kids) rfl (fun _=>rfl) fun r i5=>by kernel_rfl
end
theorem Cp {S:Type} (o:Obj) (ho:ag o) (k:Nat):Tl o 118 (zo k:Rw S):=ai (AI k) trivial Tryz.func118 (by kernel_rfl) fun kind kids κ x h=>Eq.trans (b:=zZ k (aL κ) (fun i5=>(AI k).lp κ 2 [] k (Ko kind kids i5)) kind kids) (by kernel_rfl) (Eq.trans (by simp only [Vi];rfl) (aj h))
def l6 {S:Type} (k:Nat):Rw S:=ah aak xn fun kind a b κ=>aa k (bV k kind a b) (aL κ)
def SI {S:Type} (k:Nat):Fx S:=fp 12 [(118,zo k)] [] k Tryz.f72 0
theorem mN {S:Type} (o:Obj) (ho:ag o) (k:Nat):Tl o 72 (l6 k:Rw S):=ai (SI k) ⟨Cp o ho k,trivial⟩ Tryz.func72 (by kernel_rfl) fun kind a b κ x h=>Eq.trans (by kernel_rfl) (aj h)
def Eh {S:Type} (k:Nat):Rw S:=ah Ji xn fun line phi a a_end a_r κ=>aa k (sQ k line phi a a_end a_r) (aL κ)
def SJ {S:Type} (k:Nat):Fx S:=fp 44 [(72,l6 k),(117,qi k),(121,zn k),(123,qh k),(124,nF k),(138,Eb k)] [] k Tryz.f90 0
theorem H3 {S:Type} (o:Obj) (ho:ag o) (k:Nat):Tl o 90 (Eh k:Rw S):=ai (SJ k) ⟨mN o ho k,td o ho k,Co o ho k,tc o ho k,oO o ho k,HY o ho k,trivial⟩ Tryz.func90 (by kernel_rfl) fun line phi a a_end a_r κ x h=>Eq.trans (by kernel_rfl) (aj h)
def Mi {S:Type} (k:Nat):Rw S:=ah lr xn fun line phi a κ=>aa k (B1 k line phi a) (aL κ)
def SK {S:Type} (k:Nat):Fx S:=fp 14 [(90,Eh k)] [] k Tryz.f45 0
theorem XN {S:Type} (o:Obj) (ho:ag o) (k:Nat):Tl o 45 (Mi k:Rw S):=ai (SK k) ⟨H3 o ho k,trivial⟩ Tryz.func45 (by kernel_rfl) fun line phi a κ x h=>Eq.trans (by kernel_rfl) (aj h)
def l7 {S:Type} (k:Nat):Rw S:=ah fK xn fun t κ=>aa k (gU k t) (bY κ)
def SL {S:Type} (k:Nat):Fx S:=fp 19 [(87,zk k)] [] k Tryz.f44 0
theorem mO {S:Type} (o:Obj) (ho:ag o) (k:Nat):Tl o 44 (l7 k:Rw S):=ai (SL k) ⟨Cm o ho k,trivial⟩ Tryz.func44 (by kernel_rfl) fun t κ x h=>Eq.trans (by kernel_rfl) (aj h)
def Mj {S:Type} (k:Nat):Rw S:=ah lr xn fun line phi a κ=>aa k (xL k line phi a) (bY κ)
def AJ {S:Type} (k:Nat):Fx S:=fp 31 [(42,lZ k),(43,nE k),(44,l7 k),(45,Mi k)] [(1000004,⟨[(1,.none),(3,.none),(5,.none),(6,.none),(8,.none)],[(3,[.none,.none,.none,.none,.none,.none]),(5,[.none,.none,.none,.none,.none,.none]),(6,[.none,.none,.none,some (200387,true),some (200388,true),some (200389,true)])]⟩,ap 3 7)] k Tryz.f12 0
def Kp (line a:Tm) (phi:List Cl) (v8:Int):St UU:=⟨[(1,(sC phi)),(3,(pt 3)),(5,(pt 5)),(6,(pt 6)),(8,(iI v8))],[(3,bT line),(5,bT a),(6,.cells [(iI 0),(iI 0),(.str ByteArray.empty),(.own 200387 0),(.own 200388 0),(.own 200389 0)])],[(200389,⟨0,ET.B,([]:List (Br Tm))⟩),(200388,⟨0,ET.T,([]:List Tm)⟩),(200387,⟨0,ET.C,([]:List Cl)⟩)],[(200389,.wr),(200388,.wr),(200387,.wr)]⟩
section
variable {S:Type} (k:Nat) (line:Tm) (phi:List Cl) (a:Tm) (κ:Out UU→Option S)
theorem Vj: ∀n v8,(AJ k).jn κ 1000004 [] n (Kp line a phi v8)=yD k (bY κ) line a phi n v8:=tu (rR k (bY κ) line a phi) rfl (fun _=>rfl) (fun v8=>by kernel_rfl)
end
theorem XO {S:Type} (o:Obj) (ho:ag o) (k:Nat):Tl o 12 (Mj k:Rw S):=ai (AJ k) ⟨mM o ho k,oN o ho k,mO o ho k,XN o ho k,trivial⟩ Tryz.func12 (by kernel_rfl) fun line phi a κ x h=>Eq.trans (b:=GL k (bY κ) (fun v8=>(AJ k).jn κ 1000004 [] k (Kp line a phi v8)) line phi a) (by kernel_rfl) (Eq.trans (by simp only [Vj];rfl) (aj h))
def Mk {S:Type} (k:Nat):Rw S:=ah lr xn fun line phi a κ=>aa k (wG k line phi a) (bY κ)
def SM {S:Type} (k:Nat):Fx S:=fp 18 [(41,DW k)] [] k Tryz.f13 0
theorem XP {S:Type} (o:Obj) (ho:ag o) (k:Nat):Tl o 13 (Mk k:Rw S):=ai (SM k) ⟨HO o ho k,trivial⟩ Tryz.func13 (by kernel_rfl) fun line phi a κ x h=>Eq.trans (by kernel_rfl) (aj h)
def Ml {S:Type} (k:Nat):Rw S:=ah lr xn fun line phi a κ=>aa k (B0 k line phi a) (aL κ)
def SN {S:Type} (k:Nat):Fx S:=fp 15 [(90,Eh k)] [] k Tryz.f46 0
theorem XQ {S:Type} (o:Obj) (ho:ag o) (k:Nat):Tl o 46 (Ml k:Rw S):=ai (SN k) ⟨H3 o ho k,trivial⟩ Tryz.func46 (by kernel_rfl) fun line phi a κ x h=>Eq.trans (by kernel_rfl) (aj h)
def Mm {S:Type} (k:Nat):Rw S:=ah lr xn fun line phi a κ=>aa k (xD k line phi a) (bY κ)
def AL {S:Type} (k:Nat):Fx S:=fp 31 [(42,lZ k),(43,nE k),(44,l7 k),(46,Ml k)] [(1000004,⟨[(1,.none),(3,.none),(5,.none),(6,.none),(8,.none)],[(3,[.none,.none,.none,.none,.none,.none]),(5,[.none,.none,.none,.none,.none,.none]),(6,[.none,.none,.none,some (200387,true),some (200388,true),some (200389,true)])]⟩,ap 3 7)] k Tryz.f14 0
def Kq (line a:Tm) (phi:List Cl) (v8:Int):St UU:=⟨[(1,(sC phi)),(3,(pt 3)),(5,(pt 5)),(6,(pt 6)),(8,(iI v8))],[(3,bT line),(5,bT a),(6,.cells [(iI 0),(iI 0),(.str ByteArray.empty),(.own 200387 0),(.own 200388 0),(.own 200389 0)])],[(200389,⟨0,ET.B,([]:List (Br Tm))⟩),(200388,⟨0,ET.T,([]:List Tm)⟩),(200387,⟨0,ET.C,([]:List Cl)⟩)],[(200389,.wr),(200388,.wr),(200387,.wr)]⟩
section
variable {S:Type} (k:Nat) (line:Tm) (phi:List Cl) (a:Tm) (κ:Out UU→Option S)
theorem Vk: ∀n v8,(AL k).jn κ 1000004 [] n (Kq line a phi v8)=yC k (bY κ) line a phi n v8:=tu (rQ k (bY κ) line a phi) rfl (fun _=>rfl) (fun v8=>by kernel_rfl)
end
theorem XR {S:Type} (o:Obj) (ho:ag o) (k:Nat):Tl o 14 (Mm k:Rw S):=ai (AL k) ⟨mM o ho k,oN o ho k,mO o ho k,XQ o ho k,trivial⟩ Tryz.func14 (by kernel_rfl) fun line phi a κ x h=>Eq.trans (b:=GI k (bY κ) (fun v8=>(AL k).jn κ 1000004 [] k (Kq line a phi v8)) line phi a) (by kernel_rfl) (Eq.trans (by simp only [Vk];rfl) (aj h))
def qj {S:Type} (hd:eP S):Rw S:=ah yw xn fun a b κ=>hd a b (av κ)
def Mp {S:Type} (hd:eP S) (k:Nat):Rw S:=ah aal xn fun a b κ=>aa k (sK hd k a b) (av κ)
def AO {S:Type} (hd:eP S) (k:Nat):Fx S:=fp 27 [(22,qj hd)] [(4,a6 [0,1,5] [],ap 5 11)] k Tryz.f61 0
def Ks (a b:List Tm) (i5:Int):St UU:=⟨[(0,(sT a)),(1,(sT b)),(5,(iI i5))],[],[],[]⟩
section
variable {S:Type} (hd:eP S) (k:Nat) (a b:List Tm) (κ:Out UU→Option S)
theorem Vm: ∀n i5,(AO hd k).lp κ 4 [] n (Ks a b i5)=pF hd k (av κ) a b n i5:=ct (wh hd k (av κ) a b) rfl (fun _=>rfl) fun r i5=>by kernel_rfl
end
theorem XT {S:Type} (o:Obj) (ho:ag o) (hd:eP S) (Hd:Tl o 22 (qj hd)) (k:Nat):Tl o 61 (Mp hd k:Rw S):=ai (AO hd k) ⟨Hd,trivial⟩ Tryz.func61 (by kernel_rfl) fun a b κ x h=>Eq.trans (b:=GA hd k (av κ) (fun i5=>(AO hd k).lp κ 4 [] k (Ks a b i5)) a b) (by kernel_rfl) (Eq.trans (by simp only [Vm];rfl) (aj h))
def AM {S:Type} (hd:eP S) (k:Nat):Fx S:=fp 87 [(24,zf k),(61,Mp hd k)] [(4,a6 [2,3,5] [(2,6),(3,6)],ap 5 11)] k Tryz.f22 0
def Kr (a b:Tm) (i5:Int):St UU:=⟨[(2,(pt 2)),(3,(pt 3)),(5,(iI i5))],[(2,bT a),(3,bT b)],[],[]⟩
section
variable {S:Type} (hd:eP S) (k:Nat) (a b:Tm) (κ:Out UU→Option S)
theorem Vl: ∀n i5,(AM hd k).lp κ 4 [] n (Kr a b i5)=nf hd k (av κ) a b n i5:=ct (we hd k (av κ) a b) rfl (fun _=>rfl) fun r i5=>by kernel_rfl
end
theorem yo {S:Type} (o:Obj) (ho:ag o): ∀k:Nat,Tl o 22 (qj (dz k:eP S))
 |0=>e9 fun a b κ x h=>by cases h
 |k+1=>ai (AM (dz k) k) ⟨Cg o ho k,XT o ho (dz k) (yo o ho k) k,trivial⟩ Tryz.func22 (by kernel_rfl) fun a b κ x h=>Eq.trans (b:=Gy (dz k) k (av κ) (fun i5=>(AM (dz k) k).lp κ 4 [] k (Kr a b i5)) a b) (by kernel_rfl) (Eq.trans (by simp only [Vl];rfl) h)
def zp {S:Type} (k:Nat):Rw S:=ah aam xn fun a a_e b a_bad κ=>aa k (gg k a a_e b a_bad) (av κ)
def SO {S:Type} (k:Nat):Fx S:=fp 17 [(22,qj (dz k))] [] k Tryz.f15 0
theorem Cq {S:Type} (o:Obj) (ho:ag o) (k:Nat):Tl o 15 (zp k:Rw S):=ai (SO k) ⟨yo o ho k,trivial⟩ Tryz.func15 (by kernel_rfl) fun a a_e b a_bad κ x h=>Eq.trans (by kernel_rfl) (aj h)
def Mq {S:Type} (k:Nat):Rw S:=ah lr xn fun line phi t κ=>aa k (BV k line phi t) (av κ)
def SP {S:Type} (k:Nat):Fx S:=fp 67 [(9,zd k),(10,zg k),(11,DX k),(12,Mj k),(13,Mk k),(14,Mm k),(15,zp k)] [] k Tryz.f3 0
theorem XU {S:Type} (o:Obj) (ho:ag o) (k:Nat):Tl o 3 (Mq k:Rw S):=ai (SP k) ⟨Ce o ho k,Ch o ho k,HP o ho k,XO o ho k,XP o ho k,XR o ho k,Cq o ho k,trivial⟩ Tryz.func3 (by kernel_rfl) fun line phi t κ x h=>Eq.trans (by kernel_rfl) (aj h)
def nG {S:Type} (hd:eQ S):Rw S:=ah fK xn fun t κ=>hd t (aL κ)
def Mr {S:Type} (hd:eQ S) (k:Nat):Rw S:=ah CY xn fun l κ=>aa k (sW hd k l) (zb κ)
def AQ {S:Type} (hd:eQ S) (k:Nat):Fx S:=fp 19 [(65,nG hd)] [(3,⟨[(3,some (100003,true)),(6,.none),(7,.none),(8,.none)],[]⟩,ap 5 11)] k Tryz.f115 0
def Ku (l:List Tm) (out3:List Tm) (v8:Int):St UU:=⟨[(3,(.own 100003 0)),(6,(sT l)),(7,(.int .i64 (l.length:Int))),(8,(iI v8))],[],[(100003,⟨0,ET.T,out3⟩)],[(100003,.wr)]⟩
section
variable {S:Type} (hd:eQ S) (k:Nat) (l:List Tm) (κ:Out UU→Option S)
theorem Vo: ∀n out3 v8,(AQ hd k).lp κ 3 [] n (Ku l out3 v8)=pO hd k (zb κ) l n out3 v8:=aV (wv hd k (zb κ) l) rfl (fun _=>rfl) fun r out3 v8=>by kernel_rfl
end
theorem XV {S:Type} (o:Obj) (ho:ag o) (hd:eQ S) (Hd:Tl o 65 (nG hd)) (k:Nat):Tl o 115 (Mr hd k:Rw S):=ai (AQ hd k) ⟨Hd,trivial⟩ Tryz.func115 (by kernel_rfl) fun l κ x h=>Eq.trans (b:=GR hd k (zb κ) (fun out3 v8=>(AQ hd k).lp κ 3 [] k (Ku l out3 v8)) l) (by kernel_rfl) (Eq.trans (by simp only [Vo];rfl) (aj h))
def AP {S:Type} (hd:eQ S) (k:Nat):Fx S:=fp 40 [(114,EQ),(115,Mr hd k)] [(3,⟨[(2,.none),(3,.none),(20,.none),(21,.none),(22,.none)],[(2,[.none,.none,.none,some (200131,true),some (200132,true),some (200133,true)]),(3,[.none,.none,.none,.none,.none,some (200197,true)])]⟩,ap 5 11)] k Tryz.f65 0
def Kt (t:Tm) (r1:List Cl) (r2:List Tm) (b3_5:List (Br Tm)) (v22:Int):St UU:=⟨[(2,(pt 2)),(3,(pt 3)),(20,(sB t.sys)),(21,(.int .i64 (t.sys.length:Int))),(22,(iI v22))],[(2,.cells [(iI 0),(iI 0),(.str ByteArray.empty),(.own 200131 0),(.own 200132 0),(.own 200133 0)]),(3,.cells [(iI t.kind),(iI t.n),(.str t.name),(sC r1),(sT r2),(.own 200197 0)])],[(200197,⟨0,ET.B,b3_5⟩),(200133,⟨0,ET.B,([]:List (Br Tm))⟩),(200132,⟨0,ET.T,([]:List Tm)⟩),(200131,⟨0,ET.C,([]:List Cl)⟩)],[(200197,.wr),(200133,.wr),(200132,.wr),(200131,.wr)]⟩
section
variable {S:Type} (hd:eQ S) (k:Nat) (t:Tm) (κ:Out UU→Option S)
theorem Vn (r1 r2): ∀n b3_5 v22,(AP hd k).lp κ 3 [] n (Kt t r1 r2 b3_5 v22)=pN hd k (aL κ) t r1 r2 n b3_5 v22:=aV (wt hd k (aL κ) t r1 r2) rfl (fun _=>rfl) fun r b3_5 v22=>by kernel_rfl
end
theorem tq {S:Type} (o:Obj) (ho:ag o): ∀k:Nat,Tl o 65 (nG (dF k:eQ S))
 |0=>e9 fun t κ x h=>by cases h
 |k+1=>ai (AP (dF k) k) ⟨agi o ho,XV o ho (dF k) (tq o ho k) k,trivial⟩ Tryz.func65 (by kernel_rfl) fun t κ x h=>Eq.trans (b:=GQ (dF k) k (aL κ) (fun r1 r2 b3_5 v22=>(AP (dF k) k).lp κ 3 [] k (Kt t r1 r2 b3_5 v22)) t) (by kernel_rfl) (Eq.trans (by simp only [Vn];rfl) h)
def Ei {S:Type} (k:Nat):Rw S:=ah aan eN fun t a f y c0 κ=>aa k (n_ k t a f y c0) (Lx κ)
def SQ {S:Type} (k:Nat):Fx S:=fx 28 (fun _=>[]) (fun _=>false) [(50,jo k),(51,qe k),(69,qf k)] [] k Tryz.f64 true [] 1
theorem H4 {S:Type} (o:Obj) (ho:ag o) (k:Nat):Tl o 64 (Ei k:Rw S):=ai (SQ k) ⟨jR o ho k,ta o ho k,tb o ho k,trivial⟩ Tryz.func64 (by kernel_rfl) fun t a f y c0 κ x h=>Eq.trans (by kernel_rfl) (aj h)
def Ms {S:Type} (k:Nat):Rw S:=ah yx xn fun t a f y κ=>aa k (wK k t a f y) (bY κ)
def SR {S:Type} (k:Nat):Fx S:=fp 28 [(48,nI k),(55,nB k),(64,Ei k),(65,nG (dF k))] [] k Tryz.f25 0
theorem XW {S:Type} (o:Obj) (ho:ag o) (k:Nat):Tl o 25 (Ms k:Rw S):=ai (SR k) ⟨oQ o ho k,oK o ho k,H4 o ho k,tq o ho k,trivial⟩ Tryz.func25 (by kernel_rfl) fun t a f y κ x h=>Eq.trans (by kernel_rfl) (aj h)
def qk {S:Type} (k:Nat):Rw S:=ah eV xn fun a_n κ=>aa k (eS k a_n) (DR κ)
def SS {S:Type} (k:Nat):Fx S:=fx 5 (fun _=>[]) (fun _=>false) [] [] k Tryz.f75 true [] 0
theorem te {S:Type} (o:Obj) (ho:ag o) (k:Nat):Tl o 75 (qk k:Rw S):=ai (SS k) trivial Tryz.func75 (by kernel_rfl) fun a_n κ x h=>Eq.trans (by kernel_rfl) (aj h)
def zq {S:Type} (k:Nat):Rw S:=ah aao xn fun kind a b c κ=>aa k (kT k kind a b c) (aL κ)
def ST {S:Type} (k:Nat):Fx S:=fp 15 [(118,zo k)] [] k Tryz.f116 0
theorem Cr {S:Type} (o:Obj) (ho:ag o) (k:Nat):Tl o 116 (zq k:Rw S):=ai (ST k) ⟨Cp o ho k,trivial⟩ Tryz.func116 (by kernel_rfl) fun kind a b c κ x h=>Eq.trans (by kernel_rfl) (aj h)
def Ej {S:Type} (k:Nat):Rw S:=ah yx xn fun t a f y κ=>aa k (mJ k t a f y) (aL κ)
def SU {S:Type} (k:Nat):Fx S:=fp 22 [(72,l6 k),(75,qk k),(116,zq k),(117,qi k)] [] k Tryz.f66 0
theorem H5 {S:Type} (o:Obj) (ho:ag o) (k:Nat):Tl o 66 (Ej k:Rw S):=ai (SU k) ⟨mN o ho k,te o ho k,Cr o ho k,td o ho k,trivial⟩ Tryz.func66 (by kernel_rfl) fun t a f y κ x h=>Eq.trans (by kernel_rfl) (aj h)
def Mu {S:Type} (k:Nat):Rw S:=ah yx xn fun t a f y κ=>aa k (xH k t a f y) (bY κ)
def SX {S:Type} (k:Nat):Fx S:=fp 29 [(42,lZ k),(44,l7 k),(66,Ej k)] [] k Tryz.f26 0
theorem XY {S:Type} (o:Obj) (ho:ag o) (k:Nat):Tl o 26 (Mu k:Rw S):=ai (SX k) ⟨mM o ho k,mO o ho k,H5 o ho k,trivial⟩ Tryz.func26 (by kernel_rfl) fun t a f y κ x h=>Eq.trans (by kernel_rfl) (aj h)
def Ek {S:Type} (k:Nat):Rw S:=ah C3 eN fun t c0 κ=>aa k (n9 k t c0) (Lx κ)
def SY {S:Type} (k:Nat):Fx S:=fx 20 (fun _=>[]) (fun _=>false) [(50,jo k),(51,qe k),(69,qf k)] [] k Tryz.f67 true [] 1
theorem H6 {S:Type} (o:Obj) (ho:ag o) (k:Nat):Tl o 67 (Ek k:Rw S):=ai (SY k) ⟨jR o ho k,ta o ho k,tb o ho k,trivial⟩ Tryz.func67 (by kernel_rfl) fun t c0 κ x h=>Eq.trans (by kernel_rfl) (aj h)
def Mv {S:Type} (k:Nat):Rw S:=ah fK xn fun t κ=>aa k (wI k t) (bY κ)
def SZ {S:Type} (k:Nat):Fx S:=fp 16 [(48,nI k),(55,nB k),(65,nG (dF k)),(67,Ek k)] [] k Tryz.f27 0
theorem XZ {S:Type} (o:Obj) (ho:ag o) (k:Nat):Tl o 27 (Mv k:Rw S):=ai (SZ k) ⟨oQ o ho k,oK o ho k,tq o ho k,H6 o ho k,trivial⟩ Tryz.func27 (by kernel_rfl) fun t κ x h=>Eq.trans (by kernel_rfl) (aj h)
end
end Go.Proofs.YtapmagaejigpnaaGreatDoor
namespace Go.Proofs.YtapmagaejigpnaaGreatDoor
open Go PI
set_option linter.unusedVariables false
set_option maxRecDepth 100000
noncomputable section
def Em {S:Type} (k:Nat):Rw S:=ah fK xn fun t κ=>aa k (mI k t) (aL κ)
def S0 {S:Type} (k:Nat):Fx S:=fp 15 [(72,l6 k),(75,qk k),(116,zq k),(117,qi k)] [] k Tryz.f68 0
theorem H7 {S:Type} (o:Obj) (ho:ag o) (k:Nat):Tl o 68 (Em k:Rw S):=ai (S0 k) ⟨mN o ho k,te o ho k,Cr o ho k,td o ho k,trivial⟩ Tryz.func68 (by kernel_rfl) fun t κ x h=>Eq.trans (by kernel_rfl) (aj h)
def Mw {S:Type} (k:Nat):Rw S:=ah fK xn fun t κ=>aa k (xF k t) (bY κ)
def S1 {S:Type} (k:Nat):Fx S:=fp 17 [(42,lZ k),(44,l7 k),(68,Em k)] [] k Tryz.f28 0
theorem X0 {S:Type} (o:Obj) (ho:ag o) (k:Nat):Tl o 28 (Mw k:Rw S):=ai (S1 k) ⟨mM o ho k,mO o ho k,H7 o ho k,trivial⟩ Tryz.func28 (by kernel_rfl) fun t κ x h=>Eq.trans (by kernel_rfl) (aj h)
def Mx {S:Type} (k:Nat):Rw S:=ah yw xn fun t a κ=>aa k (wJ k t a) (bY κ)
def S2 {S:Type} (k:Nat):Fx S:=fp 47 [(48,nI k),(50,jo k),(51,qe k),(55,nB k),(64,Ei k),(65,nG (dF k)),(67,Ek k),(69,qf k)] [] k Tryz.f29 0
theorem X1 {S:Type} (o:Obj) (ho:ag o) (k:Nat):Tl o 29 (Mx k:Rw S):=ai (S2 k) ⟨oQ o ho k,jR o ho k,ta o ho k,oK o ho k,H4 o ho k,tq o ho k,H6 o ho k,tb o ho k,trivial⟩ Tryz.func29 (by kernel_rfl) fun t a κ x h=>Eq.trans (by kernel_rfl) (aj h)
def My {S:Type} (k:Nat):Rw S:=ah yw xn fun t a κ=>aa k (sS k t a) (aL κ)
def S3 {S:Type} (k:Nat):Fx S:=fp 27 [(66,Ej k),(68,Em k),(72,l6 k),(75,qk k),(117,qi k)] [] k Tryz.f70 0
theorem X2 {S:Type} (o:Obj) (ho:ag o) (k:Nat):Tl o 70 (My k:Rw S):=ai (S3 k) ⟨H5 o ho k,H7 o ho k,mN o ho k,te o ho k,td o ho k,trivial⟩ Tryz.func70 (by kernel_rfl) fun t a κ x h=>Eq.trans (by kernel_rfl) (aj h)
def Mz {S:Type} (k:Nat):Rw S:=ah yw xn fun t a κ=>aa k (xG k t a) (bY κ)
def S4 {S:Type} (k:Nat):Fx S:=fp 21 [(42,lZ k),(44,l7 k),(70,My k)] [] k Tryz.f30 0
theorem X3 {S:Type} (o:Obj) (ho:ag o) (k:Nat):Tl o 30 (Mz k:Rw S):=ai (S4 k) ⟨mM o ho k,mO o ho k,X2 o ho k,trivial⟩ Tryz.func30 (by kernel_rfl) fun t a κ x h=>Eq.trans (by kernel_rfl) (aj h)
def En {S:Type} (k:Nat):Rw S:=ah aap xn fun kind a κ=>aa k (jP k kind a) (aL κ)
def S5 {S:Type} (k:Nat):Fx S:=fp 9 [(118,zo k)] [] k Tryz.f74 0
theorem H8 {S:Type} (o:Obj) (ho:ag o) (k:Nat):Tl o 74 (En k:Rw S):=ai (S5 k) ⟨Cp o ho k,trivial⟩ Tryz.func74 (by kernel_rfl) fun kind a κ x h=>Eq.trans (by kernel_rfl) (aj h)
def MA {S:Type} (k:Nat):Rw S:=ah dU xn fun a_r κ=>aa k (B2 k a_r) (aL κ)
def S6 {S:Type} (k:Nat):Fx S:=fp 13 [(74,En k),(75,qk k),(116,zq k)] [] k Tryz.f73 0
theorem X4 {S:Type} (o:Obj) (ho:ag o) (k:Nat):Tl o 73 (MA k:Rw S):=ai (S6 k) ⟨H8 o ho k,te o ho k,Cr o ho k,trivial⟩ Tryz.func73 (by kernel_rfl) fun a_r κ x h=>Eq.trans (by kernel_rfl) (aj h)
def MC {S:Type} (k:Nat):Rw S:=ah cn xn fun κ=>aa k (xK k) (aL κ)
def S8 {S:Type} (k:Nat):Fx S:=fp 24 [(72,l6 k),(73,MA k),(74,En k),(75,qk k)] [] k Tryz.f32 0
theorem X6 {S:Type} (o:Obj) (ho:ag o) (k:Nat):Tl o 32 (MC k:Rw S):=ai (S8 k) ⟨mN o ho k,X4 o ho k,H8 o ho k,te o ho k,trivial⟩ Tryz.func32 (by kernel_rfl) fun κ x h=>Eq.trans (by kernel_rfl) (aj h)
def MD {S:Type} (k:Nat):Rw S:=ah yx xn fun t u f y κ=>aa k (BW k t u f y) (av κ)
def S9 {S:Type} (k:Nat):Fx S:=fp 85 [(9,zd k),(10,zg k),(15,zp k),(22,qj (dz k)),(25,Ms k),(26,Mu k),(27,Mv k),(28,Mw k),(29,Mx k),(30,Mz k),(31,D0 k),(32,MC k)] [] k Tryz.f6 0
theorem X7 {S:Type} (o:Obj) (ho:ag o) (k:Nat):Tl o 6 (MD k:Rw S):=ai (S9 k) ⟨Ce o ho k,Ch o ho k,Cq o ho k,yo o ho k,XW o ho k,XY o ho k,XZ o ho k,X0 o ho k,X1 o ho k,X3 o ho k,HS o ho k,X6 o ho k,trivial⟩ Tryz.func6 (by kernel_rfl) fun t u f y κ x h=>Eq.trans (by kernel_rfl) (aj h)
def Eo {S:Type} (hd:gK S):Rw S:=ah fK xn fun t κ=>hd t (aL κ)
def mn {S:Type} (hd:gK S) (k:Nat):Fx S:=fp 86 [(33,Eo hd)] [(3,⟨[(1,.none),(2,.none),(3,.none),(4,.none)],[(1,[.none,.none,.none,.none,.none,.none]),(2,[.none,.none,.none,some (200131,true),some (200132,true),some (200133,true)]),(3,[.none,.none,.none,some (200195,false),some (200196,true),some (200197,true)])]⟩,ap 5 11),(7,⟨[(1,.none),(2,.none),(3,.none),(5,.none)],[(1,[.none,.none,.none,.none,.none,.none]),(2,[.none,.none,.none,some (200131,true),some (200132,true),some (200133,true)]),(3,[.none,.none,.none,some (200195,false),some (200196,true),some (200197,true)])]⟩,ap 6 23),(11,⟨[(1,.none),(2,.none),(3,.none),(5,.none),(6,.none),(7,.none)],[(1,[.none,.none,.none,.none,.none,.none]),(2,[.none,.none,.none,some (200131,true),some (200132,true),some (200133,true)]),(3,[.none,.none,.none,some (200195,false),some (200196,true),some (200197,true)]),(6,[some (200384,false),some (200385,true)])]⟩,ap 14 5271)] k Tryz.f33 0
def Du (t:Tm) (b3_4:List Tm) (i4:Int):St UU:=⟨[(1,(pt 1)),(2,(pt 2)),(3,(pt 3)),(4,(iI i4))],[(1,bT t),(2,.cells [(iI 0),(iI 0),(.str ByteArray.empty),(.own 200131 0),(.own 200132 0),(.own 200133 0)]),(3,.cells [(iI t.kind),(iI t.n),(.str t.name),(.own 200195 0),(.own 200196 0),(.own 200197 0)])],[(200197,⟨0,ET.B,([]:List (Br Tm))⟩),(200196,⟨0,ET.T,b3_4⟩),(200195,⟨0,ET.C,([]:List Cl)++t.r⟩),(200133,⟨0,ET.B,([]:List (Br Tm))⟩),(200132,⟨0,ET.T,([]:List Tm)⟩),(200131,⟨0,ET.C,([]:List Cl)⟩)],[(200197,.wr),(200196,.wr),(200195,.app),(200133,.wr),(200132,.wr),(200131,.wr)]⟩
def tV (t:Tm) (b3_4:List Tm) (b3_5:List (Br Tm)) (i5:Int):St UU:=⟨[(1,(pt 1)),(2,(pt 2)),(3,(pt 3)),(5,(iI i5))],[(1,bT t),(2,.cells [(iI 0),(iI 0),(.str ByteArray.empty),(.own 200131 0),(.own 200132 0),(.own 200133 0)]),(3,.cells [(iI t.kind),(iI t.n),(.str t.name),(.own 200195 0),(.own 200196 0),(.own 200197 0)])],[(200197,⟨0,ET.B,b3_5⟩),(200196,⟨0,ET.T,b3_4⟩),(200195,⟨0,ET.C,([]:List Cl)++t.r⟩),(200133,⟨0,ET.B,([]:List (Br Tm))⟩),(200132,⟨0,ET.T,([]:List Tm)⟩),(200131,⟨0,ET.C,([]:List Cl)⟩)],[(200197,.wr),(200196,.wr),(200195,.app),(200133,.wr),(200132,.wr),(200131,.wr)]⟩
def Kw (t:Tm) (b3_4:List Tm) (b3_5:List (Br Tm)) (x5:(Br Tm)) (i5:Int) (b6_1:List Tm) (v7:Int):St UU:=⟨[(1,(pt 1)),(2,(pt 2)),(3,(pt 3)),(5,(iI i5)),(6,(pt 6)),(7,(iI v7))],[(1,bT t),(2,.cells [(iI 0),(iI 0),(.str ByteArray.empty),(.own 200131 0),(.own 200132 0),(.own 200133 0)]),(3,.cells [(iI t.kind),(iI t.n),(.str t.name),(.own 200195 0),(.own 200196 0),(.own 200197 0)]),(6,.cells [(.own 200384 0),(.own 200385 0)])],[(200385,⟨0,ET.T,b6_1⟩),(200384,⟨0,ET.C,([]:List Cl)++x5.face⟩),(200197,⟨0,ET.B,b3_5⟩),(200196,⟨0,ET.T,b3_4⟩),(200195,⟨0,ET.C,([]:List Cl)++t.r⟩),(200133,⟨0,ET.B,([]:List (Br Tm))⟩),(200132,⟨0,ET.T,([]:List Tm)⟩),(200131,⟨0,ET.C,([]:List Cl)⟩)],[(200385,.wr),(200384,.app),(200197,.wr),(200196,.wr),(200195,.app),(200133,.wr),(200132,.wr),(200131,.wr)]⟩
section
variable {S:Type} (hd:gK S) (k:Nat) (t:Tm) (κ:Out UU→Option S)
theorem Vs (b3_4 b3_5 x5 i5 κ1): ∀n b6_1 v7,(mn hd k).lp κ 11 [κ1] n (Kw t b3_4 b3_5 x5 i5 b6_1 v7)=lL hd k (aL κ) (fun b3_5 i5=>κ1 (tV t b3_4 b3_5 i5)) t b3_4 b3_5 x5 i5 n b6_1 v7:=aV (wc hd k (aL κ) t b3_4 b3_5 x5 i5 (fun b3_5 i5=>κ1 (tV t b3_4 b3_5 i5))) rfl (fun _=>rfl) fun r b6_1 v7=>by kernel_rfl
theorem Vr (b3_4): ∀n b3_5 i5,(mn hd k).lp κ 7 [] n (tV t b3_4 b3_5 i5)=jg hd k (aL κ) t b3_4 n b3_5 i5:=aV (fun own=>rD hd k (aL κ) t b3_4 (fun b3_5 x5 i5 b6_1 v7=>lL hd k (aL κ) own t b3_4 b3_5 x5 i5 k b6_1 v7) own) rfl (fun _=>rfl) fun r b3_5 i5=>Eq.trans (b:=rD hd k (aL κ) t b3_4 (fun b3_5 x5 i5 b6_1 v7=>(mn hd k).lp κ 11 [r] k (Kw t b3_4 b3_5 x5 i5 b6_1 v7)) (fun b3_5 i5=>r (tV t b3_4 b3_5 i5)) b3_5 i5) (by kernel_rfl) (by simp only [Vs])
theorem Vq: ∀n b3_4 i4,(mn hd k).lp κ 3 [] n (Du t b3_4 i4)=pC hd k (aL κ) t n b3_4 i4:=aV (fun own=>rC hd k (aL κ) t (fun b3_4 b3_5 i5=>jg hd k (aL κ) t b3_4 k b3_5 i5) own) rfl (fun _=>rfl) fun r b3_4 i4=>Eq.trans (b:=rC hd k (aL κ) t (fun b3_4 b3_5 i5=>(mn hd k).lp κ 7 [] k (tV t b3_4 b3_5 i5)) (fun b3_4 i4=>r (Du t b3_4 i4)) b3_4 i4) (by kernel_rfl) (by simp only [Vr])
end
theorem IR {S:Type} (o:Obj) (ho:ag o): ∀k:Nat,Tl o 33 (Eo (gj k:gK S))
 |0=>e9 fun t κ x h=>by cases h
 |k+1=>ai (mn (gj k) k) ⟨IR o ho k,trivial⟩ Tryz.func33 (by kernel_rfl) fun t κ x h=>Eq.trans (b:=Gw (gj k) k (aL κ) (fun b3_4 i4=>(mn (gj k) k).lp κ 3 [] k (Du t b3_4 i4)) t) (by kernel_rfl) (Eq.trans (by simp only [Vq];rfl) h)
def ME {S:Type} (k:Nat):Rw S:=ah C3 eN fun line c0 κ=>aa k (wL k line c0) (DQ κ)
def S_ {S:Type} (k:Nat):Fx S:=fp 25 [(19,DV k),(20,EC k),(52,kq k),(85,ko k)] [] k Tryz.f76 1
theorem X8 {S:Type} (o:Obj) (ho:ag o) (k:Nat):Tl o 76 (ME k:Rw S):=ai (S_ k) ⟨HN o ho k,Ij o ho k,lc o ho k,lb o ho k,trivial⟩ Tryz.func76 (by kernel_rfl) fun line c0 κ x h=>Eq.trans (by kernel_rfl) (aj h)
def MF {S:Type} (k:Nat):Rw S:=ah ln xn fun line a sys κ=>aa k (wH k line a sys) (bY κ)
def AR {S:Type} (k:Nat):Fx S:=fp 78 [(48,nI k),(49,DY k),(50,jo k),(52,kq k),(54,ze k),(55,nB k),(65,nG (dF k)),(76,ME k)] [(5,⟨[(3,.none),(6,.none),(8,.none),(9,.none),(36,.none),(37,.none),(38,.none)],[(3,[.none,.none,.none,.none,.none,.none]),(6,[.none,.none,.none,some (200387,true),some (200388,true),some (200389,true)]),(9,[.none,.none,.none,some (200579,true),.none,some (200581,true)]),(19000,[.none])]⟩,ap 7 47)] k Tryz.f34 0
def Kx (r3:Tm) (r9:Int×Int×ByteArray×List Tm) (r6:Tm) (b19000_0:Int) (b9_5:List (Br Tm)) (v38:Int):St UU:=⟨[(3,(pt 3)),(6,(pt 6)),(8,(pt 19000)),(9,(pt 9)),(36,(sB r6.sys)),(37,(.int .i64 (r6.sys.length:Int))),(38,(iI v38))],[(3,bT r3),(6,.cells [(iI 0),(iI 0),(.str ByteArray.empty),(.own 200387 0),(.own 200388 0),(.own 200389 0)]),(9,.cells [(iI r9.1),(iI r9.2.1),(.str r9.2.2.1),(.own 200579 0),(sT r9.2.2.2),(.own 200581 0)]),(19000,bI b19000_0)],[(200581,⟨0,ET.B,b9_5⟩),(200579,⟨0,ET.C,([]:List Cl)⟩),(200389,⟨0,ET.B,([]:List (Br Tm))⟩),(200388,⟨0,ET.T,([]:List Tm)⟩),(200387,⟨0,ET.C,([]:List Cl)⟩)],[(200581,.wr),(200579,.wr),(200389,.wr),(200388,.wr),(200387,.wr)]⟩
section
variable {S:Type} (k:Nat) (line a:Tm) (sys:List (Br Tm)) (κ:Out UU→Option S)
theorem Vt (r3 r9 r6): ∀n b19000_0 b9_5 v38,(AR k).lp κ 5 [] n (Kx r3 r9 r6 b19000_0 b9_5 v38)=j6 k (bY κ) r3 r9 r6 n b19000_0 b9_5 v38:=jj (nT k (bY κ) r3 r9 r6) rfl (fun _=>rfl) fun r b19000_0 b9_5 v38=>by kernel_rfl
end
theorem X9 {S:Type} (o:Obj) (ho:ag o) (k:Nat):Tl o 34 (MF k:Rw S):=ai (AR k) ⟨oQ o ho k,HQ o ho k,jR o ho k,lc o ho k,Cf o ho k,oK o ho k,tq o ho k,X8 o ho k,trivial⟩ Tryz.func34 (by kernel_rfl) fun line a sys κ x h=>Eq.trans (b:=Ft k (bY κ) (fun r3 r9 r6 b19000_0 b9_5 v38=>(AR k).lp κ 5 [] k (Kx r3 r9 r6 b19000_0 b9_5 v38)) line a sys) (by kernel_rfl) (Eq.trans (by simp only [Vt];rfl) (aj h))
def Ep {S:Type} (k:Nat):Rw S:=ah aaq xn fun kind l κ=>aa k (sP k kind l) (aL κ)
def AT {S:Type} (k:Nat):Fx S:=fp 23 [(119,D6 k)] [(3,⟨[(0,.none),(4,.none),(5,.none),(6,.none)],[(4,[.none,.none,.none,some (200259,true),some (200260,true),some (200261,true)]),(5,[.none,.none,.none,some (200323,true),some (200324,true),.none])]⟩,ap 5 11)] k Tryz.f77 0
def Ky (kind:Int) (l:List (Br Tm)) (b5_4:List Tm) (i6:Int):St UU:=⟨[(0,(iI kind)),(4,(pt 4)),(5,(pt 5)),(6,(iI i6))],[(4,.cells [(iI 0),(iI 0),(.str ByteArray.empty),(.own 200259 0),(.own 200260 0),(.own 200261 0)]),(5,.cells [(iI kind),(iI 0),(.str ByteArray.empty),(.own 200323 0),(.own 200324 0),(sB l)])],[(200324,⟨0,ET.T,b5_4⟩),(200323,⟨0,ET.C,([]:List Cl)⟩),(200261,⟨0,ET.B,([]:List (Br Tm))⟩),(200260,⟨0,ET.T,([]:List Tm)⟩),(200259,⟨0,ET.C,([]:List Cl)⟩)],[(200324,.wr),(200323,.wr),(200261,.wr),(200260,.wr),(200259,.wr)]⟩
section
variable {S:Type} (k:Nat) (kind:Int) (l:List (Br Tm)) (κ:Out UU→Option S)
theorem Vu: ∀n b5_4 i6,(AT k).lp κ 3 [] n (Ky kind l b5_4 i6)=pH k (aL κ) kind l n b5_4 i6:=aV (Bm k (aL κ) kind l) rfl (fun _=>rfl) fun r b5_4 i6=>by kernel_rfl
end
theorem H9 {S:Type} (o:Obj) (ho:ag o) (k:Nat):Tl o 77 (Ep k:Rw S):=ai (AT k) ⟨HT o ho k,trivial⟩ Tryz.func77 (by kernel_rfl) fun kind l κ x h=>Eq.trans (b:=GG k (aL κ) (fun b5_4 i6=>(AT k).lp κ 3 [] k (Ky kind l b5_4 i6)) kind l) (by kernel_rfl) (Eq.trans (by simp only [Vu];rfl) (aj h))
def Er {S:Type} (k:Nat):Rw S:=ah lr xn fun t f kid κ=>aa k (gk k t f kid) (aL κ)
def Ta {S:Type} (k:Nat):Fx S:=fp 27 [] [] k Tryz.f122 0
theorem H_ {S:Type} (o:Obj) (ho:ag o) (k:Nat):Tl o 122 (Er k:Rw S):=ai (Ta k) trivial Tryz.func122 (by kernel_rfl) fun t f kid κ x h=>Eq.trans (by kernel_rfl) (aj h)
def MG {S:Type} (k:Nat):Rw S:=ah ln xn fun line a sys κ=>aa k (sR k line a sys) (aL κ)
def AU {S:Type} (k:Nat):Fx S:=fp 61 [(72,l6 k),(120,Eg k),(121,zn k),(122,Er k)] [(5,⟨[(2,.none),(3,.none),(6,.none),(7,.none),(8,.none)],[(3,[.none,.none,.none,.none,.none,.none]),(6,[.none,.none,.none,some (200387,true),some (200388,true),some (200389,true)]),(7,[.none,.none,.none,.none,.none,.none])]⟩,ap 6 23)] k Tryz.f78 0
def Kz (line:Tm) (sys:List (Br Tm)) (b7:Tm) (i8:Int):St UU:=⟨[(2,(sB sys)),(3,(pt 3)),(6,(pt 6)),(7,(pt 7)),(8,(iI i8))],[(3,bT line),(6,.cells [(iI 0),(iI 0),(.str ByteArray.empty),(.own 200387 0),(.own 200388 0),(.own 200389 0)]),(7,bT b7)],[(200389,⟨0,ET.B,([]:List (Br Tm))⟩),(200388,⟨0,ET.T,([]:List Tm)⟩),(200387,⟨0,ET.C,([]:List Cl)⟩)],[(200389,.wr),(200388,.wr),(200387,.wr)]⟩
section
variable {S:Type} (k:Nat) (line a:Tm) (sys:List (Br Tm)) (κ:Out UU→Option S)
theorem Vv: ∀n b7 i8,(AU k).lp κ 5 [] n (Kz line sys b7 i8)=hY k (aL κ) line sys n b7 i8:=aV (nX k (aL κ) line sys) rfl (fun _=>rfl) fun r b7 i8=>by kernel_rfl
end
theorem X_ {S:Type} (o:Obj) (ho:ag o) (k:Nat):Tl o 78 (MG k:Rw S):=ai (AU k) ⟨mN o ho k,H2 o ho k,Co o ho k,H_ o ho k,trivial⟩ Tryz.func78 (by kernel_rfl) fun line a sys κ x h=>Eq.trans (b:=GJ k (aL κ) (fun b7 i8=>(AU k).lp κ 5 [] k (Kz line sys b7 i8)) line a sys) (by kernel_rfl) (Eq.trans (by simp only [Vv];rfl) (aj h))
def MH {S:Type} (k:Nat):Rw S:=ah ln xn fun line a sys κ=>aa k (xE k line a sys) (bY κ)
def Tb {S:Type} (k:Nat):Fx S:=fp 26 [(42,lZ k),(44,l7 k),(77,Ep k),(78,MG k)] [] k Tryz.f35 0
theorem Ya {S:Type} (o:Obj) (ho:ag o) (k:Nat):Tl o 35 (MH k:Rw S):=ai (Tb k) ⟨mM o ho k,mO o ho k,H9 o ho k,X_ o ho k,trivial⟩ Tryz.func35 (by kernel_rfl) fun line a sys κ x h=>Eq.trans (by kernel_rfl) (aj h)
def MI {S:Type} (k:Nat):Rw S:=ah ln xn fun t a sys κ=>aa k (sU k t a sys) (aL κ)
def AV {S:Type} (k:Nat):Fx S:=fp 59 [(72,l6 k),(117,qi k),(121,zn k),(122,Er k),(123,qh k),(124,nF k)] [(3,⟨[(2,.none),(4,.none),(6,.none),(7,.none),(8,.none)],[(4,[.none,.none,.none,.none,.none,.none]),(6,[.none,.none,.none,some (200387,true),some (200388,true),some (200389,true)]),(7,[.none,.none,.none,.none,.none,.none])]⟩,ap 5 11)] k Tryz.f79 0
def KA (a:Tm) (sys:List (Br Tm)) (b7:Tm) (i8:Int):St UU:=⟨[(2,(sB sys)),(4,(pt 4)),(6,(pt 6)),(7,(pt 7)),(8,(iI i8))],[(4,bT a),(6,.cells [(iI 0),(iI 0),(.str ByteArray.empty),(.own 200387 0),(.own 200388 0),(.own 200389 0)]),(7,bT b7)],[(200389,⟨0,ET.B,([]:List (Br Tm))⟩),(200388,⟨0,ET.T,([]:List Tm)⟩),(200387,⟨0,ET.C,([]:List Cl)⟩)],[(200389,.wr),(200388,.wr),(200387,.wr)]⟩
section
variable {S:Type} (k:Nat) (t a:Tm) (sys:List (Br Tm)) (κ:Out UU→Option S)
theorem Vw: ∀n b7 i8,(AV k).lp κ 3 [] n (KA a sys b7 i8)=ke k (aL κ) a sys n b7 i8:=aV (nY k (aL κ) a sys) rfl (fun _=>rfl) fun r b7 i8=>by kernel_rfl
end
theorem Yb {S:Type} (o:Obj) (ho:ag o) (k:Nat):Tl o 79 (MI k:Rw S):=ai (AV k) ⟨mN o ho k,td o ho k,Co o ho k,H_ o ho k,tc o ho k,oO o ho k,trivial⟩ Tryz.func79 (by kernel_rfl) fun t a sys κ x h=>Eq.trans (b:=GK k (aL κ) (fun b7 i8=>(AV k).lp κ 3 [] k (KA a sys b7 i8)) t a sys) (by kernel_rfl) (Eq.trans (by simp only [Vw];rfl) (aj h))
def MJ {S:Type} (k:Nat):Rw S:=ah ln xn fun t a sys κ=>aa k (xJ k t a sys) (bY κ)
def Tc {S:Type} (k:Nat):Fx S:=fp 26 [(42,lZ k),(44,l7 k),(77,Ep k),(79,MI k)] [] k Tryz.f36 0
theorem Yc {S:Type} (o:Obj) (ho:ag o) (k:Nat):Tl o 36 (MJ k:Rw S):=ai (Tc k) ⟨mM o ho k,mO o ho k,H9 o ho k,Yb o ho k,trivial⟩ Tryz.func36 (by kernel_rfl) fun t a sys κ x h=>Eq.trans (by kernel_rfl) (aj h)
def MK {S:Type} (k:Nat):Rw S:=ah ln xn fun line t sys κ=>aa k (BU k line t sys) (av κ)
def Td {S:Type} (k:Nat):Fx S:=fp 91 [(9,zd k),(10,zg k),(15,zp k),(18,DZ k),(22,qj (dz k)),(33,Eo (gj k)),(34,MF k),(35,MH k),(36,MJ k)] [] k Tryz.f7 0
theorem Yd {S:Type} (o:Obj) (ho:ag o) (k:Nat):Tl o 7 (MK k:Rw S):=ai (Td k) ⟨Ce o ho k,Ch o ho k,Cq o ho k,HR o ho k,yo o ho k,IR o ho k,X9 o ho k,Ya o ho k,Yc o ho k,trivial⟩ Tryz.func7 (by kernel_rfl) fun line t sys κ x h=>Eq.trans (by kernel_rfl) (aj h)
theorem ahF {S:Type} (o:Obj) (ho:ag o) (k:Nat):Tl o 3 (Mq k:Rw S):=XU o ho k
theorem ahG {S:Type} (o:Obj) (ho:ag o) (k:Nat):Tl o 6 (MD k:Rw S):=X7 o ho k
theorem agf {S:Type} (o:Obj) (ho:ag o) (k:Nat):Tl o 7 (MK k:Rw S):=Yd o ho k
end
end Go.Proofs.YtapmagaejigpnaaGreatDoor
namespace Go.Proofs.YtapmagaejigpnaaGreatDoor
open Go PI
set_option linter.unusedVariables false
set_option linter.unusedSimpArgs false
variable {S:Type} {k:Nat}
def bE {α β:Type} (x:Except Int α) (f:α→Except Int β):Except Int β:=match x with
 | .error e=> .error e
 | .ok a=>f a
theorem ao {α β:Type} (a:α) (f:α→Except Int β):bE (.ok a) f=f a:=rfl
theorem dx {α β:Type} (e:Int) (f:α→Except Int β):bE (.error e) f= .error e:=rfl
theorem aK {α β:Type} {x:Except Int α} {f:α→Except Int β} {b:β} (h:bE x f= .ok b): ∃a,x= .ok a∧f a= .ok b:=by
 cases x with
 |error e=>cases h
 |ok a=>exact ⟨a,rfl,h⟩
theorem a_ {α β:Type} {x:Except Int α} {f:α→Except Int β} {e:Int} (h:bE x f= .error e):x= .error e∨ ∃a,x= .ok a∧f a= .error e:=by
 cases x with
 |error e=>injection h with h;subst h;exact .inl rfl
 |ok a=>exact .inr ⟨a,rfl,h⟩
def cz (x:List Cl×Int):Except Int (List Cl):=if x.2=0 then .ok x.1 else .error x.2
theorem e_ {x:List Cl×Int} (h:x.2=0):cz x= .ok x.1:=if_pos h
theorem d5 {x:List Cl×Int} (h:x.2≠0):cz x= .error x.2:=if_neg h
theorem me {x:List Cl×Int} {l:List Cl} (h:cz x= .ok l):x.2=0∧x.1=l:=by
 unfold cz at h
 split at h
 ·next h0=>injection h with h;exact ⟨h0,h⟩
 ·cases h
theorem uW {x:List Cl×Int} {e:Int} (h:cz x= .error e):x.2≠0∧x.2=e:=by
 unfold cz at h
 split at h
 ·cases h
 ·next h0=>injection h with h;exact ⟨h0,h⟩
def EN (e:Int):Prop:=0≤e∧e≤1000
theorem mQ:EN 0:=by unfold EN;omega
theorem jU:EN 2:=by unfold EN;omega
theorem Y5:EN 3:=by unfold EN;omega
theorem Is:EN 10:=by unfold EN;omega
theorem pR (l:List Cl):EN (bk l).2:=by
 unfold bk
 split
 ·split
  ·exact Y5
  ·exact mQ
 ·exact jU
theorem yk {step:List Cl→Cl→List Cl×Int} (hs: ∀h c,EN (step h c).2): ∀ {r h:List Cl},EN (aZ step h r).2:=by
 intro r
 induction r with
 |nil=>intro h;exact mQ
 |cons c r ih=>
  intro h
  unfold aZ
  split
  ·exact ih
  ·exact hs h c
theorem Ju (s i b:Int):EN (cq s i b).2:=by
 unfold cq
 split
 ·exact jU
 ·unfold dY
  split
  ·exact mQ
  ·split
   ·exact Is
   ·split
    ·exact Is
    ·exact mQ
theorem acb (c:Cl) (i b:Int):EN (cX c i b).2:=by
 unfold cX
 split
 ·split
  ·split
   ·exact mQ
   ·exact Ju _ _ _
  ·exact Ju _ _ _
 ·exact jU
theorem lQ (f:List Cl) (i b:Int):EN (a7 f i b).2:=by
 unfold a7
 split
 ·split
  ·exact pR _
  ·exact yk fun h c=>acb c i b
 ·exact jU
theorem Ri {n b x y:Nat} (h:c8 n b x=c8 n b y):x=y:=by
 unfold c8 at h;split at h<;>split at h<;>omega
theorem agr (n b:Nat) {l:List Nat} (h:l.Nodup):(l.map (c8 n b)).Nodup:=
 List.Pairwise.map (S:=fun a b=>a≠b) (R:=fun a b=>a≠b) _ (fun x y hxy h=>hxy (Ri h)) h
theorem ack {m n b:Nat} (h:(dY m n b).2=0) (j:Nat):(dY m n b).1.testBit j=true↔ ∃x,x<24∧m.testBit x=true∧c8 n b x=j:=by
 rw [Dc] at h ⊢
 split
 ·next he=>rw [if_pos he] at h;cases h
 ·rw [nO _ (agr n b (n1 m)),decide_eq_true_eq,List.mem_map]
  constructor
  ·rintro ⟨x,hx,e⟩;have:=mem_bitsN.1 hx;exact ⟨x,this.1,this.2,e⟩
  ·rintro ⟨x,h1,h2,e⟩;exact ⟨x,mem_bitsN.2 ⟨h1,h2⟩,e⟩
theorem Wn {m:Nat} (h:m<16777216):m&&&M24=m:=by
 apply Nat.eq_of_testBit_eq
 intro j
 rw [Nat.testBit_and,f0]
 cases hb:m.testBit j with
 |false=>rfl
 |true=>rw [decide_eq_true (n4 h hb)];rfl
theorem aci {m n b:Nat} (hm:m<16777216) (h:b=0∨24≤n):dY m n b=(m,0):=by
 rw [Dc,if_neg]
 ·have:(bR m).map (c8 n b)=bR m:=by
   refine (List.map_congr_left fun x hx=> ?_).trans (List.map_id _)
   have:=(mem_bitsN.1 hx).1
   show c8 n b x=x
   unfold c8;split<;>omega
  rw [this,Fk,Wn hm]
 ·rintro ⟨x,hx,h1,h2⟩
  have:=(mem_bitsN.1 hx).1
  omega
theorem acd {c:Cl} {i b:Int} (hc:RC c) (hi:0≤i) (hb:0≤b) (h:b=0∨24≤i):cX c i b=(c,0):=by
 have h1:c.pos.toNat<16777216:=by have:=hc.1;omega
 have h2:c.neg.toNat<16777216:=by have:=hc.2;omega
 have hs: ∀s:Int,0≤s→s.toNat<16777216→cq s i b=(s,0):=fun s h0 hs=>by
  unfold cq
  rw [if_neg (by omega),aci hs (by omega)]
  have:((s.toNat:Nat):Int)=s:=by omega
  rw [this];rfl
 unfold cX
 rw [if_pos ((zD hc.ok).2 hc),hs _ hc.1.1 h1,hs _ hc.2.1 h2];rfl
theorem Zl {i b:Int}: ∀ {r h:List Cl},(aZ (cJ i b) h r).2=0→(∀c∈r,(cX c i b).2=0)∧(aZ (cJ i b) h r).1=h++r.map fun c=>(cX c i b).1:=by
 intro r
 induction r with
 |nil=>intro h _;exact ⟨fun c hc=>(by cases hc),by simp [aZ]⟩
 |cons c r ih=>
  intro h h0
  unfold aZ at h0 ⊢
  split at h0
  ·next h1=>
   have:=ih h0
   rw [if_pos h1]
   refine ⟨fun d hd=> ?_, ?_⟩
   ·rcases List.mem_cons.1 hd with rfl|hd
    ·exact h1
    ·exact this.1 d hd
   ·rw [this.2];simp [cJ]
  ·next h1=>exact absurd h0 h1
theorem Zm {i b:Int}: ∀ {r h:List Cl},(∀c∈r,cX c i b=(c,0))→aZ (cJ i b) h r=(h++r,0):=by
 intro r
 induction r with
 |nil=>intro h _;simp [aZ]
 |cons c r ih=>
  intro h hr
  have hc:=hr c (by simp)
  unfold aZ
  rw [if_pos (by show (cX c i b).2=0;rw [hc]),ih fun d hd=>hr d (by simp [hd])]
  simp [cJ,hc]
theorem ace {f:List Cl} {i b:Int} (hf:RF f) (hi:0≤i) (hb:0≤b) (h:b=0∨24≤i):a7 f i b=(f,0):=by
 unfold a7
 rw [if_pos hf.right,Zm fun c hc=>acd (hf.rc hc) hi hb h,if_pos rfl]
 exact hf.1
theorem acf {f:List Cl} {i b:Int} (h:(a7 f i b).2=0): ∀c∈(a7 f i b).1,∃d∈f,(cX d i b).2=0∧c=(cX d i b).1:=by
 unfold a7 at h ⊢
 split
 ·next hr=>
  rw [if_pos hr] at h
  split
  ·next h0=>
   rw [if_pos h0] at h
   obtain ⟨ha,hb⟩:=Zl h0
   intro c hc
   have h':bk (aZ (cJ i b) [] f).1=((bk (aZ (cJ i b) [] f).1).1,0):=Prod.ext rfl h
   rw [(pS h').1] at hc
   have:=(mem_mins.1 hc).1
   rw [hb,List.nil_append,List.mem_map] at this
   obtain ⟨d,hd,rfl⟩:=this
   exact ⟨d,hd,ha d hd,rfl⟩
  ·next h0=>rw [if_neg h0] at h;exact absurd h h0
 ·next hr=>rw [if_neg hr] at h;exact absurd h (by decide)
theorem WH {c:Cl}:bK c=false↔ ∀j,¬ (c.pos.toNat.testBit j=true∧c.neg.toNat.testBit j=true):=by
 unfold bK
 rw [Bool.not_eq_false',decide_eq_true_eq]
 constructor
 ·intro h j ⟨h1,h2⟩
  have:(c.pos.toNat&&&c.neg.toNat).testBit j=true:=by rw [Nat.testBit_and,h1,h2];rfl
  rw [h,Nat.zero_testBit] at this;cases this
 ·intro h
  apply Nat.eq_of_testBit_eq
  intro j
  rw [Nat.zero_testBit,Nat.testBit_and]
  cases h1:c.pos.toNat.testBit j with
  |false=>rfl
  |true=>
   cases h2:c.neg.toNat.testBit j with
   |false=>rfl
   |true=>exact absurd ⟨h1,h2⟩ (h j)
theorem Jt {s i b:Int} (h:(cq s i b).2=0) {j:Nat} (hj:(cq s i b).1.toNat.testBit j=true): ∃x,s.toNat.testBit x=true∧c8 i.toNat b.toNat x=j:=by
 unfold cq at h hj
 split at h
 ·cases h
 ·next hn=>
  rw [if_neg hn] at hj
  have h':(dY s.toNat i.toNat b.toNat).2=0:=by
   have:((dY s.toNat i.toNat b.toNat).2:Int)=0:=h
   omega
  obtain ⟨x,_,h2,h3⟩:=(ack h' j).1 hj
  exact ⟨x,h2,h3⟩
theorem aca {c:Cl} {i b:Int} (h:(cX c i b).2=0) (hc:bK c=false):bK (cX c i b).1=false:=by
 rw [WH] at hc ⊢
 unfold cX at h ⊢
 split at h
 ·next hr=>
  split at h
  ·next h1=>
   split at h
   ·next h2=>
    rw [if_pos hr,if_pos h1,if_pos h2]
    rintro j ⟨ha,hb⟩
    obtain ⟨x,hx,ex⟩:=Jt h1 ha
    obtain ⟨y,hy,ey⟩:=Jt h2 hb
    have:=Ri (ex.trans ey.symm)
    subst this
    exact hc x ⟨hx,hy⟩
   ·next h2=>exact absurd h h2
  ·next h1=>exact absurd h h1
 ·cases h
def cM (d b:Int) (f:List Cl):Except Int (List Cl):=if b=0∨d≥24 then .ok f else cz (a7 f d b)
theorem EO {d b:Int} {f g:List Cl} (hf:RF f) (h:cM d b f= .ok g):RF g:=by
 unfold cM at h
 split at h
 ·injection h with h;subst h;exact hf
 ·obtain ⟨h1,rfl⟩:=me h;exact gx h1
theorem zE {d b:Int} {f:List Cl} {e:Int} (h:cM d b f= .error e):0<e∧e≤1000:=by
 unfold cM at h
 split at h
 ·cases h
 ·obtain ⟨h1,rfl⟩:=uW h
  have:=lQ f d b
  unfold EN at this;omega
theorem aeb {d b:Int} {f g:List Cl} (hf:f.all (fun c=> !bK c)=true) (h:cM d b f= .ok g):g.all (fun c=> !bK c)=true:=by
 unfold cM at h
 split at h
 ·injection h with h;subst h;exact hf
 ·obtain ⟨h1,rfl⟩:=me h
  rw [List.all_eq_true] at hf ⊢
  intro c hc
  obtain ⟨e,he,h2,rfl⟩:=acf h1 c hc
  have:=hf e he
  rw [Bool.not_eq_true'] at this ⊢
  exact aca h2 this
theorem zF (d b:Int):cM d b []= .ok []:=by
 unfold cM
 split
 ·rfl
 ·rfl
mutual
def bL (vb db v d:Int):Tm→Except Int Tm
 | .mk kd n nm r ks sys=>
  if kd=1∧n≥v∧n>1000000000-vb then .error 100
  else bE (cM d db r) fun r'=>bE (eG vb db v d kd 0 ks) fun ks'=>bE (dZ vb db v d kd sys) fun sys'=> .ok (.mk kd (if kd=1∧n≥v then n+vb else n) nm r' ks' sys')
def eG (vb db v d kd:Int) (i:Nat):List Tm→Except Int (List Tm)
 |[]=> .ok []
 |t::l=>bE (bL vb db (v+dP kd i) (d+bQ kd i) t) fun t'=>bE (eG vb db v d kd (i+1) l) fun l'=> .ok (t'::l')
def dZ (vb db v d kd:Int):List (Br Tm)→Except Int (List (Br Tm))
 |[]=> .ok []
 |b::l=>bE (nk vb db v d kd b) fun b'=>bE (dZ vb db v d kd l) fun l'=> .ok (b'::l')
def nk (vb db v d kd:Int):Br Tm→Except Int (Br Tm)
 | .mk f ks=>bE (cM d db f) fun f'=>bE (dV vb db v d kd ks) fun ks'=> .ok (.mk f' ks')
def dV (vb db v d kd:Int):List Tm→Except Int (List Tm)
 |[]=> .ok []
 |t::l=>bE (bL vb db v (d+aE kd) t) fun t'=>bE (dV vb db v d kd l) fun l'=> .ok (t'::l')
end
mutual
def RowsT:Tm→Prop
 | .mk kd n nm r ks sys=>(RF r∧(kd=1→r=[])∧0≤kd)∧dw ks∧d6 sys
def dw:List Tm→Prop
 |[]=>True
 |t::l=>RowsT t∧dw l
def d6:List (Br Tm)→Prop
 |[]=>True
 |b::l=>mw b∧d6 l
def mw:Br Tm→Prop
 | .mk f ks=>RF f∧dw ks
end
theorem rowsK_iff: ∀ {l:List Tm},dw l↔ ∀t∈l,RowsT t:=by
 intro l
 induction l with
 |nil=>rw [dw];simp
 |cons t l ih=>rw [dw,ih];simp
theorem ER {b:Br Tm}:mw b↔RF b.face∧ ∀t∈b.kids,RowsT t:=by cases b;rw [mw,rowsK_iff]
theorem rowsS_iff: ∀ {l:List (Br Tm)},d6 l↔ ∀b∈l,RF b.face∧ ∀t∈b.kids,RowsT t:=by
 intro l
 induction l with
 |nil=>rw [d6];simp
 |cons t l ih=>rw [d6,ih,ER];simp
end Go.Proofs.YtapmagaejigpnaaGreatDoor
namespace Go.Proofs.YtapmagaejigpnaaGreatDoor
open Go PI
set_option linter.unusedVariables false
set_option linter.unusedSimpArgs false
variable {S:Type} {k:Nat}
inductive F2 {α β:Type} (R:α→β→Prop):List α→List β→Prop
 |nil:F2 R [] []
 |cons {a:α} {b:β} {l:List α} {m:List β}:R a b→F2 R l m→F2 R (a::l) (b::m)
theorem F2.len {α β:Type} {R:α→β→Prop} {l:List α} {m:List β} (h:F2 R l m):m.length=l.length:=by
 induction h with
 |nil=>rfl
 |cons _ _ ih=>simp [ih]
theorem F2.imp {α β:Type} {R Q:α→β→Prop} {l:List α} {m:List β} (h:F2 R l m) (hq: ∀a b,R a b→Q a b):F2 Q l m:=by
 induction h with
 |nil=>exact .nil
 |cons h1 _ ih=>exact .cons (hq _ _ h1) ih
theorem acg {vb db v d kd:Int} {R:Tm→Tm→Prop}: ∀ {l:List Tm} {i:Nat} {l':List Tm},(∀x∈l,∀v d x',bL vb db v d x= .ok x'→R x x')→eG vb db v d kd i l= .ok l'→F2 R l l':=by
 intro l
 induction l with
 |nil=>intro i l' _ h;rw [eG] at h;injection h with h;subst h;exact .nil
 |cons t l ih=>
  intro i l' hr h
  rw [eG] at h
  obtain ⟨t',h1,h⟩:=aK h
  obtain ⟨m,h2,h⟩:=aK h
  injection h with h;subst h
  exact .cons (hr t (by simp) _ _ _ h1) (ih (fun x hx=>hr x (by simp [hx])) h2)
theorem ach {vb db v d kd:Int} {R:Tm→Tm→Prop}: ∀ {l:List Tm} {l':List Tm},(∀x∈l,∀v d x',bL vb db v d x= .ok x'→R x x')→dV vb db v d kd l= .ok l'→F2 R l l':=by
 intro l
 induction l with
 |nil=>intro l' _ h;rw [dV] at h;injection h with h;subst h;exact .nil
 |cons t l ih=>
  intro l' hr h
  rw [dV] at h
  obtain ⟨t',h1,h⟩:=aK h
  obtain ⟨m,h2,h⟩:=aK h
  injection h with h;subst h
  exact .cons (hr t (by simp) _ _ _ h1) (ih (fun x hx=>hr x (by simp [hx])) h2)
theorem acl {vb db v d kd:Int} {R:Tm→Tm→Prop}: ∀ {l l':List (Br Tm)},(∀b∈l,∀x∈b.kids,∀v d x',bL vb db v d x= .ok x'→R x x')→dZ vb db v d kd l= .ok l'→
  F2 (fun b b'=>cM d db b.face= .ok b'.face∧F2 R b.kids b'.kids) l l':=by
 intro l
 induction l with
 |nil=>intro l' _ h;rw [dZ] at h;injection h with h;subst h;exact .nil
 |cons b l ih=>
  intro l' hr h
  rw [dZ] at h
  obtain ⟨b',h1,h⟩:=aK h
  obtain ⟨m,h2,h⟩:=aK h
  injection h with h;subst h
  cases b with
  |mk f ks=>
   rw [nk] at h1
   obtain ⟨f',h3,h1⟩:=aK h1
   obtain ⟨ks',h4,h1⟩:=aK h1
   injection h1 with h1;subst h1
   exact .cons ⟨h3,ach (hr ⟨f,ks⟩ (by simp)) h4⟩ (ih (fun b hb=>hr b (by simp [hb])) h2)
theorem nq {f:List Cl} {d:Int} (h:24≤d):cK f d=true:=by
 unfold cK
 rw [decide_eq_true_eq]
 intro i hi
 have:=(mem_bitsN.1 hi).1
 omega
def Up (x x':Tm):Prop:=ar x'=ar x∧ax x'=ax x∧x'.kind=x.kind∧(OkT x→OkT x'∧(RowsT x→RowsT x')∧ ∀dd dd',24≤dd→24≤dd'→bz false (-1) dd x=true→bz false (-1) dd' x'=true)
theorem Rm {l l':List Tm} (h:F2 Up l l'):aP l'=aP l:=by
 induction h with
 |nil=>rfl
 |cons h1 _ ih=>rw [aP,aP,h1.1,ih]
theorem Rp {l l':List Tm} (h:F2 Up l l'):aw l'=aw l:=by
 induction h with
 |nil=>rfl
 |cons h1 _ ih=>rw [aw,aw,h1.2.1,ih]
theorem agy {l l':List (Br Tm)} (h:F2 (fun b b':Br Tm=>F2 Up b.kids b'.kids) l l'):bh l'=bh l:=by
 induction h with
 |nil=>rfl
 |cons h1 _ ih=>rw [bh,bh,oI,oI,Rm h1,ih]
theorem agz {l l':List (Br Tm)} (h:F2 (fun b b':Br Tm=>F2 Up b.kids b'.kids) l l'):aI l'=aI l:=by
 induction h with
 |nil=>rfl
 |cons h1 _ ih=>rw [aI,aI,kz,kz,Rp h1,ih]
theorem Rn {l l':List Tm} (h:F2 Up l l'):bw l→bw l':=by
 induction h with
 |nil=>exact id
 |cons h1 _ ih=>rw [bw,bw];exact fun h=>⟨(h1.2.2.2 h.1).1,ih h.2⟩
theorem Ro {l l':List Tm} (h:F2 Up l l'):bw l→dw l→dw l':=by
 induction h with
 |nil=>exact fun _ h=>h
 |cons h1 _ ih=>rw [bw,dw,dw];exact fun h g=>⟨(h1.2.2.2 h.1).2.1 g.1,ih h.2 g.2⟩
theorem agA (v:Int):dA (-1) v= -1:=by unfold dA;rw [if_pos (by decide)]
theorem agw {kd dd dd':Int} (h1:24≤dd) (h2:24≤dd') {l l':List Tm} (h:F2 Up l l'): ∀ {i:Nat},bw l→ci false (-1) dd kd i l=true→ci false (-1) dd' kd i l'=true:=by
 induction h with
 |nil=>exact fun _ h=>h
 |cons h3 _ ih=>
  intro i
  rw [bw,ci,ci,Bool.and_eq_true,Bool.and_eq_true,agA]
  have:=gO kd i
  exact fun h g=>⟨(h3.2.2.2 h.1).2.2 _ _ (by omega) (by omega) g.1,ih h.2 g.2⟩
theorem agx {kd dd dd':Int} (h1:24≤dd) (h2:24≤dd') {l l':List Tm} (h:F2 Up l l'):bw l→dC false (-1) dd kd l=true→dC false (-1) dd' kd l'=true:=by
 induction h with
 |nil=>exact fun _ h=>h
 |cons h3 _ ih=>
  rw [bw,dC,dC,Bool.and_eq_true,Bool.and_eq_true]
  have:=ei kd
  exact fun h g=>⟨(h3.2.2.2 h.1).2.2 _ _ (by omega) (by omega) g.1,ih h.2 g.2⟩
def nS (d db:Int) (b b':Br Tm):Prop:=cM d db b.face= .ok b'.face∧F2 Up b.kids b'.kids
theorem NN {d db:Int} {f g:List Cl} (h:cM d db f= .ok g) (hf:am f) (hl:f.length<1073741824):am g∧g.length<1073741824:=by
 unfold cM at h
 split at h
 ·injection h with h;subst h;exact ⟨hf,hl⟩
 ·obtain ⟨h1,rfl⟩:=me h
  have:=gx h1
  exact ⟨this.2,by have:=this.len;omega⟩
theorem NO {d db:Int} {f g:List Cl} (h:cM d db f= .ok g) (hf:am f) (hr:bn f=true):bn g=true:=(EO ((fV hf).1 hr) h).right
theorem NM {d db:Int} {f g:List Cl} (h:cM d db f= .ok g) (hf:am f) (hr:bD f=true):bD g=true:=by
 unfold bD at hr ⊢
 rw [Bool.and_eq_true] at hr ⊢
 exact ⟨NO h hf hr.1,aeb hr.2 h⟩
theorem EM {d db:Int} {f g:List Cl} (h:cM d db f= .ok g) (hf:f.length=0):g.length=0:=by
 have:=List.length_eq_zero_iff.1 hf
 subst this
 rw [zF] at h;injection h with h;subst h;rfl
theorem agt {d db:Int} {l l':List (Br Tm)} (h:F2 (nS d db) l l'):bu l→bu l':=by
 induction h with
 |nil=>exact id
 |cons h1 _ ih=>
  rw [bu,bu,nx,nx]
  intro h
  have h3:=NN h1.1 h.1.1.1 h.1.1.2.1
  exact ⟨⟨⟨h3.1,h3.2,by have:=h1.2.len;have:=h.1.1.2.2;omega⟩,okK_iff.1 (Rn h1.2 (okK_iff.2 h.1.2))⟩,ih h.2⟩
theorem agv {d db:Int} {l l':List (Br Tm)} (h:F2 (nS d db) l l'):bu l→d6 l→d6 l':=by
 induction h with
 |nil=>exact fun _ h=>h
 |cons h1 _ ih=>
  rw [bu,nx,d6,d6,ER,ER]
  intro h g
  exact ⟨⟨EO g.1.1 h1.1,rowsK_iff.1 (Ro h1.2 (okK_iff.2 h.1.2) (rowsK_iff.2 g.1.2))⟩,ih h.2 g.2⟩
theorem ags {d db kd dd dd':Int} (h1:24≤dd) (h2:24≤dd') {l l':List (Br Tm)} (h:F2 (nS d db) l l'):bu l→dc false (-1) dd kd l=true→dc false (-1) dd' kd l'=true:=by
 induction h with
 |nil=>exact fun _ h=>h
 | @cons a b _ _ h3 _ ih=>
  rw [bu,nx,dc,dc,Bool.and_eq_true,Bool.and_eq_true]
  intro h g
  refine ⟨?_,ih h.2 g.2⟩
  cases a;cases b
  have g1:=g.1
  rw [qY] at g1 ⊢
  exact agx h1 h2 h3.2 (okK_iff.2 h.1.2) g1
theorem agu {d db kd dd dd':Int} (h1:24≤dd) (h2:24≤dd') {l l':List (Br Tm)} (h:F2 (nS d db) l l'):bu l→l.all (cF kd dd)=true→l'.all (cF kd dd')=true:=by
 induction h with
 |nil=>exact fun _ h=>h
 | @cons a b _ _ h3 _ ih=>
  rw [bu,nx,List.all_cons,List.all_cons,Bool.and_eq_true,Bool.and_eq_true]
  intro h g
  refine ⟨?_,ih h.2 g.2⟩
  have g1:=g.1
  unfold cF at g1 ⊢
  rw [Bool.and_eq_true,Bool.and_eq_true,decide_eq_true_eq] at g1 ⊢
  rw [h3.2.len]
  exact ⟨g1.1,NM h3.1 h.1.1.1 g1.2.1,nq h2⟩
theorem Rl {d db:Int} {l l':List (Br Tm)} (h:F2 (nS d db) l l'):F2 (fun b b':Br Tm=>F2 Up b.kids b'.kids) l l':=h.imp fun _ _ h=>h.2
theorem De {vb db:Int} (hvb:0≤vb) (hvb':vb≤1000000000) (t:Tm): ∀v d t',bL vb db v d t= .ok t'→Up t t':=by
 induction t using md with
 |h kd n nm r ks sys ih1 ih2=>
  intro v d t' h
  rw [bL] at h
  split at h
  ·cases h
  next hv=>
  obtain ⟨r',hr,h⟩:=aK h
  obtain ⟨ks',hk,h⟩:=aK h
  obtain ⟨sys',hs,h⟩:=aK h
  injection h with h;subst h
  have fk:F2 Up ks ks':=acg (fun x hx v d x'=>ih1 x hx v d x') hk
  have fs:F2 (nS d db) sys sys':=acl (fun b hb x hx v d x'=>ih2 b hb x hx v d x') hs
  refine ⟨?_, ?_,rfl,fun hok=> ?_⟩
  ·rw [ar,ar,Rm fk,agy (Rl fs)]
  ·rw [ax,ax,Rp fk,agz (Rl fs)]
  ·obtain ⟨o1,o2,o3,o4,o5,o6,o7⟩:=hok.node
   have hok':=hok
   rw [OkT] at hok'
   obtain ⟨_,ok,os⟩:=hok'
   have hr':=NN hr o4 o5
   have o2':=o2
   unfold aF at o2'
   refine ⟨?_, ?_, ?_⟩
   ·rw [OkT]
    refine ⟨⟨o1, ?_,o3,hr'.1,hr'.2,by rw [fk.len];exact o6,by rw [fs.len];exact o7⟩,Rn fk ok,agt fs os⟩
    unfold aF
    split
    ·next hc=>constructor<;>omega
    ·exact o2
   ·rw [RowsT,RowsT]
    rintro ⟨⟨a,b,z⟩,c,e⟩
    refine ⟨⟨EO a hr,fun h1=> ?_,z⟩,Ro fk ok c,agv fs os e⟩
    have:=b h1
    subst this
    rw [zF] at hr;injection hr with hr;exact hr.symm
   ·intro dd dd' h1 h2
    rw [bz,bz]
    simp only [Bool.false_and,Bool.not_false,Bool.true_and,Bool.and_eq_true]
    rintro ⟨a,b,c⟩
    refine ⟨?_,agw h1 h2 fk ok b,ags h1 h2 fs os c⟩
    unfold eo at a ⊢
    simp only [Bool.and_eq_true,decide_eq_true_eq,fk.len,fs.len] at a ⊢
    obtain ⟨⟨a1,a2,a3,a4⟩,a5⟩:=a
    refine ⟨⟨a1, ?_,a3,a4⟩, ?_⟩
    ·rcases a2 with a2|a2
     ·exact .inl a2
     ·by_cases h1:kd=1
      ·exact .inl h1
      ·right;rw [if_neg (fun h=>h1 h.1)];exact a2
    ·by_cases c1:kd=1
     ·rw [if_pos c1] at a5 ⊢
      simp only [Bool.and_eq_true,decide_eq_true_eq] at a5 ⊢
      refine ⟨EM hr a5.1, ?_,.inl (by decide)⟩
      have:=a5.2.1
      split<;>omega
     ·rw [if_neg c1] at a5 ⊢
      by_cases c2:kd=2
      ·rw [if_pos c2] at a5 ⊢
       simp only [Bool.and_eq_true,decide_eq_true_eq] at a5 ⊢
       exact ⟨EM hr a5.1,a5.2⟩
      ·rw [if_neg c2] at a5 ⊢
       by_cases c3:kd=13∨kd=21∨kd=26
       ·rw [if_pos c3] at a5 ⊢
        rw [Bool.and_eq_true] at a5 ⊢
        exact ⟨NO hr o4 a5.1,nq h2⟩
       ·rw [if_neg c3] at a5 ⊢
        by_cases c4:kd=14
        ·rw [if_pos c4] at a5 ⊢
         rw [Bool.and_eq_true] at a5 ⊢
         exact ⟨NM hr o4 a5.1,nq h2⟩
        ·rw [if_neg c4] at a5 ⊢
         simp only [Bool.and_eq_true,decide_eq_true_eq] at a5 ⊢
         exact ⟨agu h1 h2 fs os a5.1,EM hr a5.2⟩
theorem aat {kd:Int} {n:Nat} (h:ef kd=n):0≤kd:=by
 apply Classical.byContradiction
 intro h0
 unfold ef at h
 rw [if_pos (.inl (by omega))] at h
 omega
theorem Wm {bd:Bool} (t:Tm): ∀ {vars dims:Int},OkT t→bz bd vars dims t=true→RowsT t:=by
 induction t using md with
 |h kd n nm r ks sys ih1 ih2=>
  intro vars dims hok h
  rw [bz,Bool.and_eq_true,Bool.and_eq_true,Bool.and_eq_true] at h
  obtain ⟨_,a,b,c⟩:=h
  obtain ⟨o1,o2,o3,o4,o5,o6,o7⟩:=hok.node
  have hok':=hok
  rw [OkT] at hok'
  obtain ⟨_,ok,os⟩:=hok'
  have hkids: ∀ {l:List Tm} {i:Nat},(∀x∈l,∀ {vars dims:Int},OkT x→bz bd vars dims x=true→RowsT x)→bw l→ci bd vars dims kd i l=true→dw l:=by
   intro l
   induction l with
   |nil=>intro i _ _ _;rw [dw];trivial
   |cons t l ih=>
    intro i hl ho ha
    rw [ci,Bool.and_eq_true] at ha
    rw [bw] at ho
    rw [dw]
    exact ⟨hl t (by simp) ho.1 ha.1,ih (fun x hx=>hl x (by simp [hx])) ho.2 ha.2⟩
  rw [u9,List.all_eq_true] at c
  unfold eo at a
  simp only [Bool.and_eq_true,decide_eq_true_eq] at a
  obtain ⟨⟨a1,a2,a3,a4⟩,a5⟩:=a
  have r0: ∀ {l:List Cl},l.length=0→RF l:=fun h=>by
   have:=List.length_eq_zero_iff.1 h;subst this;exact uA
  rw [RowsT]
  have hfaces:(sys=[]∨sys.all (cF kd dims)=true)∧RF r∧(kd=1→r=[]):=by
   have nosys:ck kd=0→sys=[]:=fun h=>List.length_eq_zero_iff.1 (a4 h)
   by_cases c1:kd=1
   ·rw [if_pos c1] at a5
    simp only [Bool.and_eq_true,decide_eq_true_eq] at a5
    exact ⟨.inl (nosys (by subst c1;decide)),r0 a5.1,fun _=>List.length_eq_zero_iff.1 a5.1⟩
   ·rw [if_neg c1] at a5
    by_cases c2:kd=2
    ·rw [if_pos c2] at a5
     simp only [Bool.and_eq_true,decide_eq_true_eq] at a5
     exact ⟨.inl (nosys (by subst c2;decide)),r0 a5.1,fun h=>absurd h c1⟩
    ·rw [if_neg c2] at a5
     by_cases c3:kd=13∨kd=21∨kd=26
     ·rw [if_pos c3,Bool.and_eq_true] at a5
      exact ⟨.inl (nosys (by rcases c3 with rfl|rfl|rfl<;>decide)),(fV o4).1 a5.1,fun h=>absurd h c1⟩
     ·rw [if_neg c3] at a5
      by_cases c4:kd=14
      ·rw [if_pos c4,Bool.and_eq_true] at a5
       unfold bD at a5
       rw [Bool.and_eq_true] at a5
       exact ⟨.inl (nosys (by subst c4;decide)),(fV o4).1 a5.1.1,fun h=>absurd h c1⟩
      ·rw [if_neg c4] at a5
       simp only [Bool.and_eq_true,decide_eq_true_eq] at a5
       exact ⟨.inr a5.1,r0 a5.2,fun h=>absurd h c1⟩
  refine ⟨⟨hfaces.2.1,hfaces.2.2,aat a1⟩,hkids (fun x hx=>ih1 x hx) ok b, ?_⟩
  rw [rowsS_iff]
  intro br hbr
  have hc:=c br hbr
  rw [List.all_eq_true] at hc
  have hob:=hok.br hbr
  refine ⟨?_,fun x hx=>ih2 br hbr x hx (hob.2 x hx) (hc x hx)⟩
  rcases hfaces.1 with h|h
  ·subst h;cases hbr
  ·have:=List.all_eq_true.1 h br hbr
   unfold cF bD at this
   simp only [Bool.and_eq_true] at this
   exact (fV hob.1.1).1 this.2.1.1
theorem kg {vb db:Int} (t:Tm): ∀ {v d e},bL vb db v d t= .error e→0<e∧e≤1000:=by
 induction t using md with
 |h kd n nm r ks sys ih1 ih2=>
  intro v d e h
  rw [bL] at h
  split at h
  ·injection h with h;omega
  rcases a_ h with h|⟨_,_,h⟩
  ·exact zE h
  have hkids: ∀ {l:List Tm} {i:Nat},(∀x∈l,∀ {v d e},bL vb db v d x= .error e→0<e∧e≤1000)→eG vb db v d kd i l= .error e→0<e∧e≤1000:=by
   intro l
   induction l with
   |nil=>intro i _ h;rw [eG] at h;cases h
   |cons t l ih=>
    intro i hl h
    rw [eG] at h
    rcases a_ h with h|⟨_,_,h⟩
    ·exact hl t (by simp) h
    ·rcases a_ h with h|⟨_,_,h⟩
     ·exact ih (fun x hx=>hl x (by simp [hx])) h
     ·cases h
  have hmore: ∀ {l:List Tm},(∀x∈l,∀ {v d e},bL vb db v d x= .error e→0<e∧e≤1000)→ ∀ {e},dV vb db v d kd l= .error e→0<e∧e≤1000:=by
   intro l
   induction l with
   |nil=>intro _ e h;rw [dV] at h;cases h
   |cons t l ih=>
    intro hl e h
    rw [dV] at h
    rcases a_ h with h|⟨_,_,h⟩
    ·exact hl t (by simp) h
    ·rcases a_ h with h|⟨_,_,h⟩
     ·exact ih (fun x hx=>hl x (by simp [hx])) h
     ·cases h
  have hsys: ∀ {l:List (Br Tm)},(∀b∈l,∀x∈b.kids,∀ {v d e},bL vb db v d x= .error e→0<e∧e≤1000)→dZ vb db v d kd l= .error e→0<e∧e≤1000:=by
   intro l
   induction l with
   |nil=>intro _ h;rw [dZ] at h;cases h
   |cons b l ih=>
    intro hl h
    rw [dZ] at h
    rcases a_ h with h|⟨_,_,h⟩
    ·cases b with
     |mk f ks'=>
      rw [nk] at h
      rcases a_ h with h|⟨_,_,h⟩
      ·exact zE h
      ·rcases a_ h with h|⟨_,_,h⟩
       ·exact hmore (hl (Br.mk f ks') (by simp)) h
       ·cases h
    ·rcases a_ h with h|⟨_,_,h⟩
     ·exact ih (fun b hb=>hl b (by simp [hb])) h
     ·cases h
  rcases a_ h with h|⟨_,_,h⟩
  ·exact hkids (fun x hx=>ih1 x hx) h
  ·rcases a_ h with h|⟨_,_,h⟩
   ·exact hsys ih2 h
   ·cases h
end Go.Proofs.YtapmagaejigpnaaGreatDoor
namespace Go.Proofs.YtapmagaejigpnaaGreatDoor
open Go PI
set_option linter.unusedVariables false
set_option linter.unusedSimpArgs false
variable {S:Type} {k:Nat}
abbrev dO:=Int→List Cl→Except Int (List Cl)
mutual
def aW (fo fa:dO) (d:Int):Tm→Except Int Tm
 | .mk kd n nm r ks sys=>bE (if kd=14 then fa d r else fo d r) fun r'=>bE (bv fo fa d kd 0 ks) fun ks'=>bE (aX fo fa d kd sys) fun sys'=> .ok (.mk kd n nm r' ks' sys')
def bv (fo fa:dO) (d kd:Int) (i:Nat):List Tm→Except Int (List Tm)
 |[]=> .ok []
 |t::l=>bE (aW fo fa (d+bQ kd i) t) fun t'=>bE (bv fo fa d kd (i+1) l) fun l'=> .ok (t'::l')
def aX (fo fa:dO) (d kd:Int):List (Br Tm)→Except Int (List (Br Tm))
 |[]=> .ok []
 |b::l=>bE (fb fo fa d kd b) fun o=>bE (aX fo fa d kd l) fun l'=> .ok (o++l')
def fb (fo fa:dO) (d kd:Int):Br Tm→Except Int (List (Br Tm))
 | .mk f ks=>bE (fa d f) fun f'=>if f'.length=0 then .ok [] else bE (bF fo fa d kd ks) fun ks'=> .ok [.mk f' ks']
def bF (fo fa:dO) (d kd:Int):List Tm→Except Int (List Tm)
 |[]=> .ok []
 |t::l=>bE (aW fo fa (d+aE kd) t) fun t'=>bE (bF fo fa d kd l) fun l'=> .ok (t'::l')
end
theorem agC {fo fa:dO} {d kd:Int} {R:Tm→Tm→Prop}: ∀ {l:List Tm} {i:Nat} {l':List Tm},(∀x∈l,∀d x',aW fo fa d x= .ok x'→R x x')→bv fo fa d kd i l= .ok l'→F2 R l l':=by
 intro l
 induction l with
 |nil=>intro i l' _ h;rw [bv] at h;injection h with h;subst h;exact .nil
 |cons t l ih=>
  intro i l' hr h
  rw [bv] at h
  obtain ⟨t',h1,h⟩:=aK h
  obtain ⟨m,h2,h⟩:=aK h
  injection h with h;subst h
  exact .cons (hr t (by simp) _ _ h1) (ih (fun x hx=>hr x (by simp [hx])) h2)
theorem agE {fo fa:dO} {d kd:Int} {R:Tm→Tm→Prop}: ∀ {l:List Tm} {l':List Tm},(∀x∈l,∀d x',aW fo fa d x= .ok x'→R x x')→bF fo fa d kd l= .ok l'→F2 R l l':=by
 intro l
 induction l with
 |nil=>intro l' _ h;rw [bF] at h;injection h with h;subst h;exact .nil
 |cons t l ih=>
  intro l' hr h
  rw [bF] at h
  obtain ⟨t',h1,h⟩:=aK h
  obtain ⟨m,h2,h⟩:=aK h
  injection h with h;subst h
  exact .cons (hr t (by simp) _ _ h1) (ih (fun x hx=>hr x (by simp [hx])) h2)
def Wk (x x':Tm):Prop:=ar x'≤ar x∧ax x'≤ax x∧x'.kind=x.kind∧(OkT x→RowsT x→OkT x'∧RowsT x')
theorem Rz {l l':List Tm} (h:F2 Wk l l'):aP l'≤aP l:=by
 induction h with
 |nil=>exact Nat.le_refl _
 |cons h1 _ ih=>rw [aP,aP];have:=h1.1;omega
theorem RB {l l':List Tm} (h:F2 Wk l l'):aw l'≤aw l:=by
 induction h with
 |nil=>exact Nat.le_refl _
 |cons h1 _ ih=>rw [aw,aw];have:=h1.2.1;omega
theorem RA {l l':List Tm} (h:F2 Wk l l'):bw l→dw l→bw l'∧dw l':=by
 induction h with
 |nil=>exact fun h g=>⟨h,g⟩
 |cons h1 _ ih=>
  rw [bw,bw,dw,dw]
  intro h g
  have a:=h1.2.2.2 h.1 g.1
  have b:=ih h.2 g.2
  exact ⟨⟨a.1,b.1⟩,a.2,b.2⟩
theorem agH {fo fa:dO} {d kd:Int} (hfa: ∀d f g,RF f→fa d f= .ok g→RF g): ∀ {l l':List (Br Tm)},(∀b∈l,∀x∈b.kids,∀d x',aW fo fa d x= .ok x'→Wk x x')→aX fo fa d kd l= .ok l'→
  bh l'≤bh l∧aI l'≤aI l∧l'.length≤l.length∧(bu l→d6 l→bu l'∧d6 l'):=by
 intro l
 induction l with
 |nil=>intro l' _ h;rw [aX] at h;injection h with h;subst h;exact ⟨Nat.le_refl _,Nat.le_refl _,Nat.le_refl _,fun h g=>⟨h,g⟩⟩
 |cons b l ih=>
  intro l' hr h
  rw [aX] at h
  obtain ⟨o,h1,h⟩:=aK h
  obtain ⟨m,h2,h⟩:=aK h
  injection h with h;subst h
  obtain ⟨i1,i2,i3,i4⟩:=ih (fun b hb=>hr b (by simp [hb])) h2
  cases b with
  |mk f ks=>
   rw [fb] at h1
   obtain ⟨f',h3,h1⟩:=aK h1
   split at h1
   ·injection h1 with h1;subst h1
    refine ⟨?_, ?_, ?_,fun ho hg=> ?_⟩
    ·rw [List.nil_append,bh];omega
    ·rw [List.nil_append,aI];omega
    ·rw [List.nil_append,List.length_cons];omega
    ·rw [bu] at ho;rw [d6] at hg
     exact i4 ho.2 hg.2
   ·obtain ⟨ks',h4,h1⟩:=aK h1
    injection h1 with h1;subst h1
    have f2:F2 Wk ks ks':=agE (hr ⟨f,ks⟩ (by simp)) h4
    have hd:=Rz f2
    have hs:=RB f2
    refine ⟨?_, ?_, ?_,fun ho hg=> ?_⟩
    ·show bh (Br.mk f' ks'::m)≤_
     rw [bh,bh,kY,kY];omega
    ·show aI (Br.mk f' ks'::m)≤_
     rw [aI,aI,iA,iA];omega
    ·simp only [List.length_append,List.length_cons,List.length_nil];omega
    ·rw [bu,kI] at ho;rw [d6,mw] at hg
     have a:=RA f2 ho.1.2 hg.1.2
     have b:=i4 ho.2 hg.2
     have c:=hfa d f f' hg.1.1 h3
     show bu (Br.mk f' ks'::m)∧d6 (Br.mk f' ks'::m)
     rw [bu,kI,d6,mw]
     exact ⟨⟨⟨⟨c.2,by have:=c.len;omega,by rw [f2.len];exact ho.1.1.2.2⟩,a.1⟩,b.1⟩,⟨c,a.2⟩,b.2⟩
theorem Ru {fo fa:dO} (hfo: ∀d f g,RF f→fo d f= .ok g→RF g) (hfa: ∀d f g,RF f→fa d f= .ok g→RF g) (h0: ∀d,fo d []= .ok []) (t:Tm): ∀d t',aW fo fa d t= .ok t'→Wk t t':=by
 induction t using md with
 |h kd n nm r ks sys ih1 ih2=>
  intro d t' h
  rw [aW] at h
  obtain ⟨r',hr,h⟩:=aK h
  obtain ⟨ks',hk,h⟩:=aK h
  obtain ⟨sys',hs,h⟩:=aK h
  injection h with h;subst h
  have fk:F2 Wk ks ks':=agC ih1 hk
  obtain ⟨s1,s2,s3,s4⟩:=agH hfa ih2 hs
  refine ⟨?_, ?_,rfl,fun hok hro=> ?_⟩
  ·rw [ar,ar];have:=Rz fk;omega
  ·rw [ax,ax];have:=RB fk;omega
  ·rw [OkT] at hok;rw [RowsT] at hro
   obtain ⟨⟨o1,o2,o3,o4,o5,o6,o7⟩,ok,os⟩:=hok
   obtain ⟨⟨a,b,z⟩,c,e⟩:=hro
   have hk:=RA fk ok c
   have hs:=s4 os e
   have hrf:RF r':=by
    split at hr
    ·exact hfa d r r' a hr
    ·exact hfo d r r' a hr
   rw [OkT,RowsT]
   refine ⟨⟨⟨o1,o2,o3,hrf.2,by have:=hrf.len;omega,by rw [fk.len];exact o6,by omega⟩,hk.1,hs.1⟩,⟨hrf,fun h1=> ?_,z⟩,hk.2,hs.2⟩
   rw [if_neg (by omega),b h1,h0] at hr
   injection hr with hr;exact hr.symm
section
variable {fo fa:dO} {G:Int→List Cl→List Cl}
def de (f:dO) (G:Int→List Cl→List Cl):dO:=fun d l=>bE (f d l) fun m=> .ok (G d m)
def aG (G:Int→List Cl→List Cl):dO:=fun d l=> .ok (G d l)
theorem Ab (t:Tm): ∀d,∃t',aW (aG G) (aG G) d t= .ok t':=by
 induction t using md with
 |h kd n nm r ks sys ih1 ih2=>
  intro d
  have hk: ∀ {l:List Tm} {i:Nat},(∀x∈l,∀d,∃t',aW (aG G) (aG G) d x= .ok t')→ ∃l',bv (aG G) (aG G) d kd i l= .ok l':=by
   intro l
   induction l with
   |nil=>intro i _;exact ⟨[],by rw [bv]⟩
   |cons t l ih=>
    intro i h
    obtain ⟨t',e⟩:=h t (by simp) (d+bQ kd i)
    obtain ⟨l',e'⟩:=ih (i:=i+1) fun x hx=>h x (by simp [hx])
    exact ⟨t'::l',by rw [bv,e,ao,e',ao]⟩
  have hm: ∀ {l:List Tm},(∀x∈l,∀d,∃t',aW (aG G) (aG G) d x= .ok t')→ ∃l',bF (aG G) (aG G) d kd l= .ok l':=by
   intro l
   induction l with
   |nil=>intro _;exact ⟨[],by rw [bF]⟩
   |cons t l ih=>
    intro h
    obtain ⟨t',e⟩:=h t (by simp) (d+aE kd)
    obtain ⟨l',e'⟩:=ih fun x hx=>h x (by simp [hx])
    exact ⟨t'::l',by rw [bF,e,ao,e',ao]⟩
  have hs: ∀ {l:List (Br Tm)},(∀b∈l,∀x∈b.kids,∀d,∃t',aW (aG G) (aG G) d x= .ok t')→ ∃l',aX (aG G) (aG G) d kd l= .ok l':=by
   intro l
   induction l with
   |nil=>intro _;exact ⟨[],by rw [aX]⟩
   |cons b l ih=>
    intro h
    obtain ⟨l',e'⟩:=ih fun b hb=>h b (by simp [hb])
    cases b with
    |mk f ks=>
     obtain ⟨ks',e⟩:=hm (h ⟨f,ks⟩ (by simp))
     have: ∃o,fb (aG G) (aG G) d kd (.mk f ks)= .ok o:=by
      rw [fb,aG,ao]
      split
      ·exact ⟨_,rfl⟩
      ·exact ⟨_,by rw [e,ao]⟩
     obtain ⟨o,e3⟩:=this
     exact ⟨o++l',by rw [aX,e3,ao,e',ao]⟩
  obtain ⟨ks',ek⟩:=hk (i:=0) ih1
  obtain ⟨sys',es⟩:=hs ih2
  refine ⟨.mk kd n nm (G d r) ks' sys', ?_⟩
  have:(if kd=14 then aG G d r else aG G d r)= .ok (G d r):=by split<;>rfl
  rw [aW,this,ao,ek,ao,es,ao]
theorem agD (d kd:Int): ∀ (l:List Tm) (i:Nat),∃l',bv (aG G) (aG G) d kd i l= .ok l':=by
 intro l
 induction l with
 |nil=>intro i;exact ⟨[],by rw [bv]⟩
 |cons t l ih=>
  intro i
  obtain ⟨t',e⟩:=Ab (G:=G) t (d+bQ kd i)
  obtain ⟨l',e'⟩:=ih (i+1)
  exact ⟨t'::l',by rw [bv,e,ao,e',ao]⟩
theorem Rt (d kd:Int): ∀ (l:List Tm),∃l',bF (aG G) (aG G) d kd l= .ok l':=by
 intro l
 induction l with
 |nil=>exact ⟨[],by rw [bF]⟩
 |cons t l ih=>
  obtain ⟨t',e⟩:=Ab (G:=G) t (d+aE kd)
  obtain ⟨l',e'⟩:=ih
  exact ⟨t'::l',by rw [bF,e,ao,e',ao]⟩
theorem agB (d kd:Int) (b:Br Tm): ∃o,fb (aG G) (aG G) d kd b= .ok o:=by
 cases b with
 |mk f ks=>
  obtain ⟨ks',e⟩:=Rt (G:=G) d kd ks
  rw [fb,aG,ao]
  split
  ·exact ⟨_,rfl⟩
  ·exact ⟨_,by rw [e,ao]⟩
theorem agG (d kd:Int): ∀ (l:List (Br Tm)),∃l',aX (aG G) (aG G) d kd l= .ok l':=by
 intro l
 induction l with
 |nil=>exact ⟨[],by rw [aX]⟩
 |cons b l ih=>
  obtain ⟨l',e'⟩:=ih
  obtain ⟨o,e⟩:=agB (G:=G) d kd b
  exact ⟨o++l',by rw [aX,e,ao,e',ao]⟩
theorem agF (d kd:Int): ∀ (a b:List (Br Tm)),aX fo fa d kd (a++b)=bE (aX fo fa d kd a) fun a'=>bE (aX fo fa d kd b) fun b'=> .ok (a'++b'):=by
 intro a
 induction a with
 |nil=>intro b;rw [List.nil_append,aX,ao];cases aX fo fa d kd b<;>rfl
 |cons x a ih=>
  intro b
  rw [List.cons_append,aX,aX,ih]
  cases fb fo fa d kd x with
  |error e=>rfl
  |ok o=>
   rw [ao,ao]
   cases aX fo fa d kd a with
   |error e=>rfl
   |ok a'=>
    rw [ao,ao]
    cases aX fo fa d kd b with
    |error e=>rfl
    |ok b'=>simp only [ao,List.append_assoc]
theorem agI (hfa: ∀d f g,RF f→fa d f= .ok g→RF g) (hG: ∀d f,RF f→((G d f).length=0↔f.length=0)) (t:Tm): ∀d,RowsT t→bE (aW fo fa d t) (aW (aG G) (aG G) d)=aW (de fo G) (de fa G) d t:=by
 induction t using md with
 |h kd n nm r ks sys ih1 ih2=>
  intro d hrows
  rw [RowsT] at hrows
  obtain ⟨_,hrk,hrs⟩:=hrows
  have hk: ∀ {l:List Tm} {i:Nat},(∀x∈l,∀d,RowsT x→bE (aW fo fa d x) (aW (aG G) (aG G) d)=aW (de fo G) (de fa G) d x)→dw l→bE (bv fo fa d kd i l) (bv (aG G) (aG G) d kd i)=bv (de fo G) (de fa G) d kd i l:=by
   intro l
   induction l with
   |nil=>intro i _ _;rw [bv,bv,ao,bv]
   |cons t l ih=>
    intro i h hr
    rw [dw] at hr
    have h1:=h t (by simp) (d+bQ kd i) hr.1
    have h2:=ih (i:=i+1) (fun x hx=>h x (by simp [hx])) hr.2
    rw [bv,bv,←h1,←h2]
    cases aW fo fa (d+bQ kd i) t with
    |error e=>rfl
    |ok t'=>
     rw [ao,ao]
     obtain ⟨t'',e⟩:=Ab (G:=G) t' (d+bQ kd i)
     rw [e,ao]
     cases bv fo fa d kd (i+1) l with
     |error e=>rfl
     |ok l'=>
      rw [ao,ao,ao,bv,e,ao]
  have hm: ∀ {l:List Tm},(∀x∈l,∀d,RowsT x→bE (aW fo fa d x) (aW (aG G) (aG G) d)=aW (de fo G) (de fa G) d x)→dw l→bE (bF fo fa d kd l) (bF (aG G) (aG G) d kd)=bF (de fo G) (de fa G) d kd l:=by
   intro l
   induction l with
   |nil=>intro _ _;rw [bF,bF,ao,bF]
   |cons t l ih=>
    intro h hr
    rw [dw] at hr
    have h1:=h t (by simp) (d+aE kd) hr.1
    have h2:=ih (fun x hx=>h x (by simp [hx])) hr.2
    rw [bF,bF,←h1,←h2]
    cases aW fo fa (d+aE kd) t with
    |error e=>rfl
    |ok t'=>
     rw [ao,ao]
     obtain ⟨t'',e⟩:=Ab (G:=G) t' (d+aE kd)
     rw [e,ao]
     cases bF fo fa d kd l with
     |error e=>rfl
     |ok l'=>
      rw [ao,ao,ao,bF,e,ao]
  have hb: ∀ {b:Br Tm},(∀x∈b.kids,∀d,RowsT x→bE (aW fo fa d x) (aW (aG G) (aG G) d)=aW (de fo G) (de fa G) d x)→mw b→bE (fb fo fa d kd b) (aX (aG G) (aG G) d kd)=fb (de fo G) (de fa G) d kd b:=by
   intro b h hr
   cases b with
   |mk f ks'=>
    rw [mw] at hr
    have h2:=hm h hr.2
    rw [fb,fb]
    show _=bE (bE (fa d f) fun m=> .ok (G d m)) _
    cases hf:fa d f with
    |error e=>rfl
    |ok f'=>
     rw [ao,ao,ao]
     have hg:=hG d f' (hfa d f f' hr.1 hf)
     by_cases h0:f'.length=0
     ·rw [if_pos h0,if_pos (hg.2 h0),ao,aX]
     ·rw [if_neg h0,if_neg (fun h=>h0 (hg.1 h)),←h2]
      cases bF fo fa d kd ks' with
      |error e=>rfl
      |ok l'=>
       rw [ao,ao,ao,aX,fb]
       show bE (bE (.ok (G d f')) _) _=_
       rw [ao,if_neg (fun h=>h0 (hg.1 h))]
       obtain ⟨l'',e⟩:=Rt (G:=G) d kd l'
       rw [e,ao,ao,aX,ao];rfl
  have hs: ∀ {l:List (Br Tm)},(∀b∈l,∀x∈b.kids,∀d,RowsT x→bE (aW fo fa d x) (aW (aG G) (aG G) d)=aW (de fo G) (de fa G) d x)→d6 l→bE (aX fo fa d kd l) (aX (aG G) (aG G) d kd)=aX (de fo G) (de fa G) d kd l:=by
   intro l
   induction l with
   |nil=>intro _ _;rw [aX,aX,ao,aX]
   |cons b l ih=>
    intro h hr
    rw [d6] at hr
    have h1:=hb (h b (by simp)) hr.1
    have h2:=ih (fun b hb=>h b (by simp [hb])) hr.2
    rw [aX,aX,←h1,←h2]
    cases fb fo fa d kd b with
    |error e=>rfl
    |ok o=>
     rw [ao,ao]
     obtain ⟨o',e⟩:=agG (G:=G) d kd o
     rw [e,ao]
     cases aX fo fa d kd l with
     |error e=>rfl
     |ok l'=>
      rw [ao,ao,ao,agF,e,ao]
  rw [aW,aW,←hk (i:=0) ih1 hrk,←hs ih2 hrs]
  have hrow:(if kd=14 then de fa G d r else de fo G d r)=bE (if kd=14 then fa d r else fo d r) fun m=> .ok (G d m):=by split<;>rfl
  rw [hrow]
  cases (if kd=14 then fa d r else fo d r) with
  |error e=>rfl
  |ok r'=>
   rw [ao,ao,ao]
   cases bv fo fa d kd 0 ks with
   |error e=>rfl
   |ok ks'=>
    rw [ao,ao]
    obtain ⟨ks'',ek⟩:=agD (G:=G) d kd ks' 0
    rw [ek,ao]
    cases aX fo fa d kd sys with
    |error e=>rfl
    |ok sys'=>
     rw [ao,ao,ao,aW]
     have:(if kd=14 then aG G d r' else aG G d r')= .ok (G d r'):=by split<;>rfl
     rw [this,ao,ek,ao]
end
end Go.Proofs.YtapmagaejigpnaaGreatDoor
namespace Go.Proofs.YtapmagaejigpnaaGreatDoor
open Go PI
set_option linter.unusedVariables false
set_option linter.unusedSimpArgs false
set_option maxRecDepth 20000
variable {S:Type} {k:Nat}
theorem Jj (kd:Int):(kd<0∨kd>28)∨(∃n:Nat,n<29∧kd=n):=by
 by_cases h:kd<0∨kd>28
 ·exact .inl h
 ·exact .inr ⟨kd.toNat,by omega,by omega⟩
theorem aey (kd:Int) (ret:Int→Option S):xN k kd ret=ret (ef kd):=by
 simp only [xN,Q0]
 rcases Jj kd with h|⟨n,hn,rfl⟩
 ·simp only [cx,beq_iff_eq]
  unfold ef
  rw [if_pos h]
  repeat rw [if_neg (by omega)]
 ·unfold ef
  rw [if_neg (by omega),Int.toNat_natCast]
  match n,hn with
  |0,_=>rfl
  |1,_=>rfl
  |2,_=>rfl
  |3,_=>rfl
  |4,_=>rfl
  |5,_=>rfl
  |6,_=>rfl
  |7,_=>rfl
  |8,_=>rfl
  |9,_=>rfl
  |10,_=>rfl
  |11,_=>rfl
  |12,_=>rfl
  |13,_=>rfl
  |14,_=>rfl
  |15,_=>rfl
  |16,_=>rfl
  |17,_=>rfl
  |18,_=>rfl
  |19,_=>rfl
  |20,_=>rfl
  |21,_=>rfl
  |22,_=>rfl
  |23,_=>rfl
  |24,_=>rfl
  |25,_=>rfl
  |26,_=>rfl
  |27,_=>rfl
  |28,_=>rfl
  |n+29,h=>exact absurd h (by omega)
theorem OQ (kd:Int) (ret:Int→Option S):oB k kd ret=ret (ef kd):=by
 simp only [oB,Qs,aS]
 unfold ef
 rcases Jj kd with h|⟨n,hn,rfl⟩
 ·rw [if_pos h]
  by_cases h0:kd<0
  ·rw [if_pos h0]
  ·rw [if_neg h0,if_pos (by omega)]
 ·rw [if_neg (by omega),if_neg (by omega),if_neg (by omega),n8 (by omega),yn,Int.toNat_natCast]
  have h2: ∀l:List Int,n<l.length→l[n]? =some (l.getD n 0):=fun l h=>by
   rw [List.getElem?_eq_getElem h,List.getD_eq_getElem?_getD,List.getElem?_eq_getElem h];rfl
  show Option.bind (kidsT[n]?) _=_
  rw [h2 kidsT (by show n<29;exact hn)];rfl
theorem qA (kd i:Int) (ret:Int×Int→Option S):kU k kd i ret=ret (dP kd i,bQ kd i):=by
 simp only [kU,QY,cx,beq_iff_eq]
 unfold dP bQ
 repeat' split
 all_goals first|rfl|(exfalso;omega)
theorem E8 (hk:Fu k) (kd i:Int) (ret:Int×Int→Option S):oz k kd i ret=ret (dP kd i,bQ kd i):=by
 obtain ⟨q,rfl⟩: ∃q,k=q+1:=⟨k-1,by have:4294967296≤k:=hk;omega⟩
 simp only [oz,Gv,C6,wa,yz,Bj,cx,beq_iff_eq]
 unfold dP bQ
 repeat' split
 all_goals first|rfl|(exfalso;omega)
theorem Oh (kd:Int) (ret:Int→Option S):kW k kd ret=ret (ck kd):=by
 simp only [kW,Q1,cx,beq_iff_eq]
 unfold ck
 repeat' split
 all_goals first|rfl|(exfalso;omega)
theorem OT (kd:Int) (ret:Int→Option S):oD k kd ret=ret (ck kd):=by
 simp only [oD,Qu,cx,beq_iff_eq]
 unfold ck
 repeat' split
 all_goals first|rfl|(exfalso;omega)
theorem Fc (kd:Int) (ret:Int→Option S):oC k kd ret=ret (aE kd):=by
 simp only [oC,Qt,cx,beq_iff_eq]
 unfold aE
 split<;>rfl
theorem Hl (s t:ByteArray):(s==t)=decide (s=t):=by
 obtain ⟨a⟩:=s;obtain ⟨b⟩:=t
 show (a==b)=_
 rw [Bool.eq_iff_iff,beq_iff_eq,decide_eq_true_eq]
 constructor
 ·rintro rfl;rfl
 ·intro h;injection h
theorem DE (s:ByteArray):(s==ByteArray.empty)=decide (s.size=0):=by
 rw [Hl,Bool.eq_iff_iff,decide_eq_true_eq,decide_eq_true_eq]
 constructor
 ·rintro rfl;rfl
 ·intro h
  obtain ⟨⟨l⟩⟩:=s
  have:l.length=0:=h
  rw [List.length_eq_zero_iff] at this
  subst this;rfl
theorem kA (s:ByteArray):(s.size:Int)=(s.data.toList.length:Int):=by
 obtain ⟨⟨l⟩⟩:=s;rfl
theorem ahy {p r:List UInt8} {x:UInt8}:kj (p++x::r)=match p with
 |[]=>eh x&&r.all fun d=>eh d||ja d
 |c::l=>(eh c&&l.all fun d=>eh d||ja d)&&((eh x||ja x)&&r.all fun d=>eh d||ja d):=by
 cases p with
 |nil=>rfl
 |cons c l=>simp [kj,Bool.and_assoc]
def gy (p:List UInt8) (r:List UInt8):Bool:=match p with
 |[]=>kj r
 |_::_=>r.all fun d=>eh d||ja d
theorem Lc (p:List UInt8) (x:UInt8) (r:List UInt8):gy p (x::r)=((eh x||(decide (p≠[])&&ja x))&&gy (p++[x]) r):=by
 cases p with
 |nil=>simp [gy,kj]
 |cons c l=>simp [gy]
theorem Ld {p:List UInt8}:gy p []=decide (p.length≠0):=by
 cases p with
 |nil=>rfl
 |cons c l=>simp [gy]
theorem abh (hk:Fu k) (ret:Bool→Option S) {s:ByteArray} (hs:s.size<2147483648):
  ∀ (r p:List UInt8) (m:Nat),s.data.toList=p++r→r.length<m→nj k ret s m (p.length:Int)=ret (gy p r):=by
 obtain ⟨q,rfl⟩: ∃q,k=q+1:=⟨k-1,by have:4294967296≤k:=hk;omega⟩
 have hs':s.data.toList.length<2147483648:=by have:=kA s;omega
 intro r
 induction r with
 |nil=>
  intro p m h hm
  obtain ⟨m,rfl,hm'⟩:=ak hm
  simp only [nj,rY,kA,aA h,ad,DE,Ld]
  have:s.size=p.length:=by have:=kA s;rw [h,List.append_nil] at this;omega
  rw [this]
  by_cases h0:p.length=0<;>simp [h0]
 |cons x r ih=>
  intro p m h hm
  obtain ⟨m,rfl,hm'⟩:=ak hm
  obtain ⟨e1,e2,e3,e4⟩:=az h (by omega)
  have hi:=ih (p++[x]) m e4 hm'
  rw [Lc]
  simp only [nj,rY,kA,e1,ae,e2,Option.bind_some,aS,yE,Bn,e3,hi]
  have hl: ∀b:Bool,b=eh x→ab (!b) (ab (((p.length:Nat):Int)==0) (ret false) (if ((x.toNat:Nat):Int)<48 then ret false else if ((x.toNat:Nat):Int)>57 then ret false else ret (gy (p++[x]) r))) (ret (gy (p++[x]) r))=ret ((eh x||(decide (p≠[])&&ja x))&&gy (p++[x]) r):=by
   rintro b rfl
   cases eh x with
   |true=>rw [Bool.not_true,ad];simp
   |false=>
    rw [Bool.not_false,ae,cx]
    by_cases hp:p=[]
    ·subst hp;simp
    ·have h0: ¬ (((p.length:Nat):Int)==0)=true:=by
      have:0<p.length:=List.length_pos_iff.2 hp
      simp;exact hp
     rw [if_neg h0,decide_eq_true hp]
     unfold ja
     by_cases c1:x.toNat<48
     ·rw [if_pos (by omega),decide_eq_false (by omega)];simp
     ·rw [if_neg (by omega),decide_eq_true (by omega)]
      by_cases c2:x.toNat>57
      ·rw [if_pos (by omega),decide_eq_false (by omega)];simp
      ·rw [if_neg (by omega),decide_eq_true (by omega)];simp
  have hb: ∀n:Nat,(((n:Nat):Int)==95)=decide (n=95):=fun n=>by
   rw [Bool.eq_iff_iff];simp;omega
  have hlt:eh x=(decide (97≤x.toNat)&&decide (x.toNat≤122)||decide (65≤x.toNat)&&decide (x.toNat≤90)||decide (x.toNat=95)):=rfl
  by_cases c1:97≤x.toNat
  ·rw [if_pos (show ((x.toNat:Nat):Int)≥97 by omega)]
   by_cases c2:x.toNat≤122
   ·rw [if_pos (by omega)]
    exact hl true (by rw [hlt,decide_eq_true c1,decide_eq_true c2];rfl)
   ·rw [if_neg (by omega),if_pos (by omega),if_neg (by omega),hb]
    exact hl _ (by rw [hlt,decide_eq_false c2,decide_eq_false (show ¬x.toNat≤90 by omega)];simp)
  ·rw [if_neg (show ¬ ((x.toNat:Nat):Int)≥97 by omega)]
   by_cases c3:65≤x.toNat
   ·rw [if_pos (show ((x.toNat:Nat):Int)≥65 by omega)]
    by_cases c4:x.toNat≤90
    ·rw [if_pos (by omega)]
     exact hl true (by rw [hlt,decide_eq_true c3,decide_eq_true c4];simp)
    ·rw [if_neg (by omega),hb]
     exact hl _ (by rw [hlt,decide_eq_false c1,decide_eq_false c4];simp)
   ·rw [if_neg (show ¬ ((x.toNat:Nat):Int)≥65 by omega),hb]
    exact hl _ (by rw [hlt,decide_eq_false c1,decide_eq_false c3];simp)
theorem aeY (hk:Fu k) {s:ByteArray} (hs:s.size<2147483648) (ret:Bool→Option S):xP k s ret=ret (kj s.data.toList):=by
 simp only [xP,GV]
 have:=abh hk ret hs s.data.toList [] k rfl (by have:=kA s;have:4294967296≤k:=hk;omega)
 exact this
theorem abR (hk:Fu k) (ret:Bool→Option S) {s:ByteArray} (hs:s.size<2147483648):
  ∀ (r p:List UInt8) (m:Nat),s.data.toList=p++r→r.length<m→ng k ret s m (p.length:Int)=ret (gy p r):=by
 obtain ⟨q,rfl⟩: ∃q,k=q+1:=⟨k-1,by have:4294967296≤k:=hk;omega⟩
 have hs':s.data.toList.length<2147483648:=by have:=kA s;omega
 intro r
 induction r with
 |nil=>
  intro p m h hm
  obtain ⟨m,rfl,hm'⟩:=ak hm
  simp only [ng,rJ,kA,aA h,ad,Ld]
  rw [h,List.append_nil]
  congr 1
  rw [Bool.eq_iff_iff,decide_eq_true_eq,decide_eq_true_eq];omega
 |cons x r ih=>
  intro p m h hm
  obtain ⟨m,rfl,hm'⟩:=ak hm
  obtain ⟨e1,e2,e3,e4⟩:=az h (by omega)
  have hi:=ih (p++[x]) m e4 hm'
  rw [Lc]
  have hb: ∀n:Nat,(((n:Nat):Int)==95)=decide (n=95):=fun n=>by
   rw [Bool.eq_iff_iff];simp;omega
  simp only [ng,rJ,kA,e1,ae,e2,Option.bind_some,aS,yA,Bk,e3,hi,hb]
  have hlt:eh x=(decide (97≤x.toNat)&&decide (x.toNat≤122)||decide (65≤x.toNat)&&decide (x.toNat≤90)||decide (x.toNat=95)):=rfl
  have hdt:ja x=(decide (48≤x.toNat)&&decide (x.toNat≤57)):=rfl
  generalize gy (p++[x]) r=z
  have hj:(ab (!decide (x.toNat=95)) (if ((x.toNat:Nat):Int)<97 then if ((x.toNat:Nat):Int)<65 then ret false else if ((x.toNat:Nat):Int)>90 then ret false else ret z
    else if ((x.toNat:Nat):Int)>122 then if ((x.toNat:Nat):Int)<65 then ret false else if ((x.toNat:Nat):Int)>90 then ret false else ret z else ret z) (ret z))=ret (eh x&&z):=by
   rw [hlt]
   by_cases c0:x.toNat=95
   ·rw [decide_eq_true c0,Bool.not_true,ad,Bool.or_true,Bool.true_and]
   ·rw [decide_eq_false c0,Bool.not_false,ae,Bool.or_false]
    by_cases c1:97≤x.toNat
    ·rw [if_neg (by omega),decide_eq_true c1,decide_eq_false (show ¬x.toNat≤90 by omega),Bool.and_false,Bool.or_false]
     by_cases c2:x.toNat≤122
     ·rw [if_neg (by omega),decide_eq_true c2];rfl
     ·rw [if_pos (by omega),if_neg (by omega),if_pos (by omega),decide_eq_false c2];rfl
    ·rw [if_pos (by omega),decide_eq_false c1,Bool.false_and,Bool.false_or]
     by_cases c2:65≤x.toNat
     ·rw [if_neg (by omega),decide_eq_true c2]
      by_cases c3:x.toNat≤90
      ·rw [if_neg (by omega),decide_eq_true c3];rfl
      ·rw [if_pos (by omega),decide_eq_false c3];rfl
     ·rw [if_pos (by omega),decide_eq_false c2];rfl
  rw [hj]
  have hd:decide (p≠[])=decide (0<p.length):=by rw [decide_eq_decide];exact List.length_pos_iff.symm
  rw [hd,hdt]
  have hdl:48≤x.toNat∧x.toNat≤57→eh x=false:=fun h=>by
   rw [hlt,decide_eq_false (show ¬97≤x.toNat by omega),decide_eq_false (show ¬65≤x.toNat by omega),decide_eq_false (show ¬x.toNat=95 by omega)];rfl
  by_cases c1:48≤x.toNat
  ·rw [if_pos (by omega),decide_eq_true c1]
   by_cases c2:x.toNat≤57
   ·rw [if_pos (by omega),decide_eq_true c2,hdl ⟨c1,c2⟩]
    by_cases c3:0<p.length
    ·rw [if_pos (by omega),decide_eq_true c3];rfl
    ·rw [if_neg (by omega),decide_eq_false c3];rfl
   ·rw [if_neg (by omega),decide_eq_false c2,Bool.true_and,Bool.and_false,Bool.or_false]
  ·rw [if_neg (by omega),decide_eq_false c1,Bool.false_and,Bool.and_false,Bool.or_false]
theorem afs (hk:Fu k) {s:ByteArray} (hs:s.size<2147483648) (ret:Bool→Option S):xx k s ret=ret (kj s.data.toList):=by
 simp only [xx,GB]
 have:=abR hk ret hs s.data.toList [] k rfl (by have:=kA s;have:4294967296≤k:=hk;omega)
 exact this
end Go.Proofs.YtapmagaejigpnaaGreatDoor
namespace Go.Proofs.YtapmagaejigpnaaGreatDoor
open Go PI
set_option linter.unusedVariables false
set_option linter.unusedSimpArgs false
set_option maxRecDepth 20000
variable {S:Type} {k:Nat}
theorem pU (n:Nat):(((n:Nat):Int)==0)=decide (n=0):=by rw [Bool.eq_iff_iff];simp
theorem abl (hk:Fu k) (ret:Bool→Option S) {t:Tm} {dims:Int} (hd:0≤dims) (hd':dims<9223372036854775808) (hs: ∀b∈t.sys,am b.face∧b.face.length<1073741824) (hlen:t.sys.length<1073741824):
  ∀ (r p:List (Br Tm)) (m:Nat),t.sys=p++r→r.length<m→kf k ret t dims m (p.length:Int)=ret (r.all (cF t.kind dims)&&decide (t.r.length=0)):=by
 intro r
 induction r with
 |nil=>
  intro p m h hm
  obtain ⟨m,rfl,hm'⟩:=ak hm
  simp only [kf,wz,aA h,ad,pU,List.all_nil,Bool.true_and]
 |cons x r ih=>
  intro p m h hm
  obtain ⟨m,rfl,hm'⟩:=ak hm
  obtain ⟨e1,e2,e3,e4⟩:=az h (by omega)
  have hx:=hs x (by rw [h];simp)
  have hb:((x.kids.length:Int)==ck t.kind)=decide ((x.kids.length:Int)=ck t.kind):=by rw [Bool.eq_iff_iff];simp
  simp only [kf,wz,e1,ae,e2,Option.bind_some,af hk,Oh,uI hk hx.1 (show x.face.length<2147483648 by omega),O0 hk hx.1 (show x.face.length<4294967296 by omega) hd hd',e3,ih (p++[x]) m e4 hm',List.all_cons,hb]
  have:cF t.kind dims x=(decide ((x.kids.length:Int)=ck t.kind)&&(bD x.face&&cK x.face dims)):=rfl
  rw [this]
  cases decide ((x.kids.length:Int)=ck t.kind) with
  |false=>rw [Bool.not_false,ae];rfl
  |true=>
   rw [Bool.not_true,ad]
   cases bD x.face with
   |false=>rw [Bool.not_false,ae];rfl
   |true=>
    rw [Bool.not_true,ad]
    cases cK x.face dims with
    |false=>rw [Bool.not_false,ae];rfl
    |true=>rw [Bool.not_true,ad];rfl
theorem O1 {S:Type} (b c:Bool) (ret:Bool→Option S):ab b (ret c) (ret false)=ret (b&&c):=by
 cases b<;>rfl
def lV (vars dims:Int) (t:Tm):Bool:=
 if t.kind=1 then decide (t.r.length=0)&&(decide (0≤t.n)&&decide (vars<0∨t.n<vars))
   else if t.kind=2 then decide (t.r.length=0)&&kj t.name.data.toList
   else if t.kind=13∨t.kind=21∨t.kind=26 then bn t.r&&cK t.r dims
   else if t.kind=14 then bD t.r&&cK t.r dims
   else t.sys.all (cF t.kind dims)&&decide (t.r.length=0)
theorem Lq (vars dims:Int) (t:Tm):eo vars dims t=((decide (ef t.kind=t.kids.length)&&(decide (t.kind=1∨t.n=0)&&(decide (t.kind=2∨t.name.size=0)&&decide (ck t.kind=0→t.sys.length=0))))&&lV vars dims t):=by
 cases t;rfl
def Wc (t:Tm):Prop:=aF t.kind∧aF t.n∧t.name.size<1073741824∧am t.r∧t.r.length<1073741824∧t.kids.length<1073741824∧t.sys.length<1073741824
theorem OkT.no {t:Tm} (h:OkT t):Wc t:=by cases t;exact h.node
theorem OkT.ki {t x:Tm} (h:OkT t) (hx:x∈t.kids):OkT x:=by cases t;exact h.kid hx
theorem OkT.bi {t:Tm} {b:Br Tm} (h:OkT t) (hb:b∈t.sys):(am b.face∧b.face.length<1073741824∧b.kids.length<1073741824)∧ ∀t∈b.kids,OkT t:=by cases t;exact h.br hb
theorem ae5 (hk:Fu k) {t:Tm} (ht:OkT t) {vars dims:Int} (hd:0≤dims) (hd':dims<9223372036854775808) (ret:Bool→Option S):yF k ret t vars dims k=ret (lV vars dims t):=by
 obtain ⟨o1,o2,o3,o4,o5,o6,o7⟩:=ht.no
 have hb:=fun b hb=>(ht.bi (b:=b) hb).1
 obtain ⟨q,hq⟩: ∃q,k=q+1:=⟨k-1,by have:4294967296≤k:=hk;omega⟩
 have: ∀j,j=q+1→yF k ret t vars dims j=rZ k ret t vars dims (fun v109=>kf k ret t dims k v109):=by rintro j rfl;rfl
 rw [this k hq]
 have hl:=abl hk ret hd hd' (fun b h=>⟨(hb b h).1,(hb b h).2.1⟩) o7 t.sys [] k rfl (by have:4294967296≤k:=hk;omega)
 have hl:kf k ret t dims k 0=_:=hl
 simp only [rZ,af hk,aeY hk (show t.name.size<2147483648 by omega),qE hk o4 (show t.r.length<2147483648 by omega),uI hk o4 (show t.r.length<2147483648 by omega),O0 hk o4 (show t.r.length<4294967296 by omega) hd hd',hl,pU,O1]
 have hv:ab (decide (t.n≥0)) (ab (decide (vars<0)) (ret true) (ret (decide (t.n<vars)))) (ret false)=ret (decide (0≤t.n)&&decide (vars<0∨t.n<vars)):=by
  rw [aS,aS]
  by_cases h1:t.n≥0
  ·rw [if_pos h1,decide_eq_true (show 0≤t.n from h1),Bool.true_and]
   by_cases h2:vars<0
   ·rw [if_pos h2,decide_eq_true (.inl h2)]
   ·rw [if_neg h2];congr 1;rw [decide_eq_decide];omega
  ·rw [if_neg h1,decide_eq_false (show ¬0≤t.n from h1)];rfl
 rw [hv,O1]
 simp only [cx,beq_iff_eq]
 unfold lV
 by_cases c1:t.kind=1
 ·rw [if_pos c1,if_pos c1]
 ·rw [if_neg c1,if_neg c1]
  by_cases c2:t.kind=2
  ·rw [if_pos c2,if_pos c2]
  ·rw [if_neg c2,if_neg c2]
   by_cases c3:t.kind=13
   ·rw [if_pos c3,if_pos (.inl c3)]
   ·rw [if_neg c3]
    by_cases c4:t.kind=21
    ·rw [if_pos c4,if_pos (.inr (.inl c4))]
    ·rw [if_neg c4]
     by_cases c5:t.kind=26
     ·rw [if_pos c5,if_pos (.inr (.inr c5))]
     ·rw [if_neg c5,if_neg (show ¬ (t.kind=13∨t.kind=21∨t.kind=26) by omega)]
      by_cases c6:t.kind=14
      ·rw [if_pos c6,if_pos c6]
      ·rw [if_neg c6,if_neg c6]
theorem ae4 (hk:Fu k) {t:Tm} (ht:OkT t) {vars dims:Int} (hd:0≤dims) (hd':dims<9223372036854775808) (ret:Bool→Option S):sX k t vars dims ret=ret (eo vars dims t):=by
 have hq:(ef t.kind==(t.kids.length:Int))=decide (ef t.kind=t.kids.length):=by rw [Bool.eq_iff_iff];simp
 have hp:(ck t.kind==0)=decide (ck t.kind=0):=aY _
 simp only [sX,GW,af hk,aey,Oh,ae5 hk ht hd hd',DE,hq,hp,aY,Lq]
 have hsy:ab (decide (ck t.kind=0)) (ab (decide (((t.sys.length:Nat):Int)>0)) (ret false) (ret (lV vars dims t))) (ret (lV vars dims t))=ret (decide (ck t.kind=0→t.sys.length=0)&&lV vars dims t):=by
  rw [aS,aS]
  by_cases h1:ck t.kind=0
  ·rw [if_pos h1]
   by_cases h2:t.sys.length=0
   ·rw [if_neg (by omega),decide_eq_true (fun _=>h2)];rfl
   ·rw [if_pos (by omega),decide_eq_false (fun h=>h2 (h h1))];rfl
  ·rw [if_neg h1,decide_eq_true (fun h=>absurd h h1)];rfl
 simp only [hsy]
 have hk1: ∀n:Int,(t.kind==n)=decide (t.kind=n):=fun n=>by rw [Bool.eq_iff_iff];simp
 rw [hk1,hk1]
 generalize decide (ck t.kind=0→t.sys.length=0)=P
 generalize lV vars dims t=Q
 cases decide (ef t.kind=t.kids.length) with
 |false=>rw [Bool.not_false,ae];rfl
 |true=>
  rw [Bool.not_true,ad,Bool.true_and]
  by_cases c1:t.kind=1
  ·rw [decide_eq_true c1,Bool.not_true,ad,decide_eq_true (p:=t.kind=1∨t.n=0) (.inl c1),Bool.true_and]
   by_cases c2:t.kind=2
   ·omega
   ·rw [decide_eq_false c2,Bool.not_false,ae]
    by_cases c3:t.name.size=0
    ·rw [decide_eq_true c3,Bool.not_true,ad,decide_eq_true (p:=t.kind=2∨t.name.size=0) (.inr c3),Bool.true_and]
    ·rw [decide_eq_false c3,Bool.not_false,ae,decide_eq_false (p:=t.kind=2∨t.name.size=0) (by omega)];rfl
  ·rw [decide_eq_false c1,Bool.not_false,ae]
   by_cases c4:t.n=0
   ·rw [decide_eq_true c4,Bool.not_true,ad,decide_eq_true (p:=t.kind=1∨t.n=0) (.inr c4),Bool.true_and]
    by_cases c2:t.kind=2
    ·rw [decide_eq_true c2,Bool.not_true,ad,decide_eq_true (p:=t.kind=2∨t.name.size=0) (.inl c2),Bool.true_and]
    ·rw [decide_eq_false c2,Bool.not_false,ae]
     by_cases c3:t.name.size=0
     ·rw [decide_eq_true c3,Bool.not_true,ad,decide_eq_true (p:=t.kind=2∨t.name.size=0) (.inr c3),Bool.true_and]
     ·rw [decide_eq_false c3,Bool.not_false,ae,decide_eq_false (p:=t.kind=2∨t.name.size=0) (by omega)];rfl
   ·rw [decide_eq_false c4,Bool.not_false,ae,decide_eq_false (p:=t.kind=1∨t.n=0) (by omega)];rfl
end Go.Proofs.YtapmagaejigpnaaGreatDoor
namespace Go.Proofs.YtapmagaejigpnaaGreatDoor
open Go PI
set_option linter.unusedVariables false
set_option linter.unusedSimpArgs false
set_option maxRecDepth 20000
variable {S:Type} {k:Nat}
abbrev Fd (k n:Nat):Prop:=4294967296+n≤k
theorem Fd.fu {n:Nat} (h:Fd k n):Fu k:=by have:4294967296+n≤k:=h;show 4294967296≤k;omega
theorem Fd.pos {n:Nat} (h:Fd k n): ∃q,k=q+1∧ ∀j,j+1≤n→Fd q j:=⟨k-1,by have:4294967296+n≤k:=h;omega,fun j hj=>by have:4294967296+n≤k:=h;show 4294967296+j≤k-1;omega⟩
theorem Fd.pos' {n:Nat} (h:Fd k n) (hn:1≤n): ∃q,k=q+1∧Fu q∧ ∀j,j+1≤n→Fd q j:=⟨k-1,by have:4294967296+n≤k:=h;omega,by have:4294967296+n≤k:=h;show 4294967296≤k-1;omega,fun j hj=>by have:4294967296+n≤k:=h;show 4294967296+j≤k-1;omega⟩
theorem cS (t:Tm):1≤ar t:=by cases t;rw [ar];omega
theorem s_ (t:Tm):ar t=max (aP t.kids) (bh t.sys)+1:=by cases t;rw [ar];rfl
theorem Fo (t:Tm):ax t=1+aw t.kids+aI t.sys:=by cases t;rw [ax];rfl
theorem cR {t x:Tm} (h:x∈t.kids):ar x+1≤ar t:=by rw [s_ t];have:=B8 h;omega
theorem cQ {t:Tm} {b:Br Tm} {x:Tm} (hb:b∈t.sys) (h:x∈b.kids):ar x+1≤ar t:=by rw [s_ t];have:=B8 h;have:=HI hb;omega
theorem d4 {Q:Tm→Prop} (h: ∀t,(∀x∈t.kids,Q x)→(∀b∈t.sys,∀x∈b.kids,Q x)→Q t) (t:Tm):Q t:=md (fun kd n nm r ks sys h1 h2=>h (.mk kd n nm r ks sys) h1 h2) t
theorem s9 {p q:Prop} [Decidable p] [Decidable q] (h:p↔q):decide p=decide q:=decide_eq_decide.2 h
theorem Fi {α:Type} (b c:Bool) (x y:α):ab (!b) y (if c then x else y)=if b&&c then x else y:=by cases b<;>cases c<;>rfl
theorem ju {S:Type} (b c:Bool) (ret:Bool→Option S):ab (!b) (ret false) (ret c)=ret (b&&c):=by cases b<;>rfl
theorem CT {S:Type} (b c:Bool) (ret:Bool→Option S):(if b=true then ret c else ret false)=ret (b&&c):=by cases b<;>rfl
theorem bo {n:Int} (h1: -9223372036854775808≤n) (h2:n<9223372036854775808):IntKind.wrap .i64 n=n:=dB h1 h2
section
variable {hd:Tm→Int→(Bool→Option S)→Option S} {c0:Int} {t:Tm} {Q:Tm→Bool}
theorem aaY (hk:Fu k) (ret:Bool→Option S) (rec1:Int→Int→Option S) (hc: -9223372036854775807≤c0) (hc':c0<9223372036854775808) {v more:Int} {x:Br Tm} (hQ: ∀y∈x.kids,∀g,hd y (c0-1) g=g (Q y)) (hl:x.kids.length<1073741824):
  ∀ (r p:List Tm) (m:Nat),x.kids=p++r→r.length<m→lP hd k ret rec1 c0 t v x more m (p.length:Int)=if r.all Q then rec1 (IntKind.wrap .i64 (v+1)) more else ret false:=by
 intro r
 induction r with
 |nil=>
  intro p m h hm
  obtain ⟨m,rfl,hm'⟩:=ak hm
  simp only [lP,wy,aA h,ad];rfl
 |cons y r ih=>
  intro p m h hm
  obtain ⟨m,rfl,hm'⟩:=ak hm
  obtain ⟨e1,e2,e3,e4⟩:=az h (by omega)
  have hy:=hQ y (by rw [h];simp)
  simp only [lP,wy,e1,ae,e2,Option.bind_some,af hk,sY,GX,aq,bo (show-9223372036854775808≤c0-1 by omega) (by omega),hy,e3,ih (p++[y]) m e4 hm',Fi]
  rfl
theorem aaX (hk:Fu k) (ret:Bool→Option S) (hc: -9223372036854775807≤c0) (hc':c0<9223372036854775808) {more:Int} (hQ: ∀b∈t.sys,∀y∈b.kids,∀g,hd y (c0-1) g=g (Q y)) (hl:t.sys.length<1073741824) (hl': ∀b∈t.sys,b.kids.length<1073741824):
  ∀ (r p:List (Br Tm)) (m:Nat),t.sys=p++r→r.length<m→ic hd k ret c0 t m (p.length:Int) more=ret (r.all fun b=>b.kids.all Q):=by
 intro r
 induction r with
 |nil=>
  intro p m h hm
  obtain ⟨m,rfl,hm'⟩:=ak hm
  simp only [ic,rX,aA h,ad];rfl
 |cons x r ih=>
  intro p m h hm
  obtain ⟨m,rfl,hm'⟩:=ak hm
  obtain ⟨e1,e2,e3,e4⟩:=az h (by omega)
  have hx:x∈t.sys:=by rw [h];simp
  have hlx:=hl' x hx
  have:=aaY (t:=t) hk ret (ic hd k ret c0 t m) (v:=(p.length:Int)) (more:=more) hc hc' (hQ x hx) hlx x.kids [] k rfl (by have:4294967296≤k:=hk;omega)
  have this:lP hd k ret (ic hd k ret c0 t m) c0 t (p.length:Int) x more k 0=_:=this
  simp only [ic,rX,e1,ae,e2,Option.bind_some,this,e3,ih (p++[x]) m e4 hm',CT]
  rfl
theorem aaW (hk:Fu k) (ret:Bool→Option S) (hc: -9223372036854775807≤c0) (hc':c0<9223372036854775808) (hQ: ∀y∈t.kids,∀g,hd y (c0-1) g=g (Q y)) (hQ': ∀b∈t.sys,∀y∈b.kids,∀g,hd y (c0-1) g=g (Q y)) (ht:OkT t):
  ∀ (r p:List Tm) (m:Nat),t.kids=p++r→r.length<m→pP hd k ret c0 t m (p.length:Int)=ret (r.all Q&&t.sys.all fun b=>b.kids.all Q):=by
 obtain ⟨o1,o2,o3,o4,o5,o6,o7⟩:=ht.no
 intro r
 induction r with
 |nil=>
  intro p m h hm
  obtain ⟨m,rfl,hm'⟩:=ak hm
  have hs: ∀more:Int,ic hd k ret c0 t k 0 more=_:=fun more=>aaX hk ret hc hc' (more:=more) hQ' o7 (fun b hb=>(ht.bi hb).1.2.2) t.sys [] k rfl (by have:4294967296≤k:=hk;omega)
  simp only [pP,rW,aA h,ad,hs]
  cases (t.kind==15)<;>rfl
 |cons y r ih=>
  intro p m h hm
  obtain ⟨m,rfl,hm'⟩:=ak hm
  obtain ⟨e1,e2,e3,e4⟩:=az h (by omega)
  have hy:=hQ y (by rw [h];simp)
  simp only [pP,rW,e1,ae,e2,Option.bind_some,af hk,qA,sY,GX,aq,bo (show-9223372036854775808≤c0-1 by omega) (by omega),hy,e3,ih (p++[y]) m e4 hm',ju,List.all_cons,Bool.and_assoc]
end
theorem HG {n:Int} (hn:0≤n): ∀ {l:List Tm},(l.all fun x=>decide ((ar x:Int)≤n))=decide ((aP l:Int)≤n):=by
 intro l
 induction l with
 |nil=>rw [aP];simp [hn]
 |cons t l ih=>rw [List.all_cons,ih,aP,Bool.eq_iff_iff];simp;omega
theorem WV {n:Int} (hn:0≤n): ∀ {l:List (Br Tm)},(l.all fun b=>b.kids.all fun x=>decide ((ar x:Int)≤n))=decide ((bh l:Int)≤n):=by
 intro l
 induction l with
 |nil=>rw [bh];simp [hn]
 |cons b l ih=>rw [List.all_cons,ih,HG hn,bh,oI,Bool.eq_iff_iff];simp;omega
theorem afv (t:Tm):OkT t→ ∀ {k:Nat} {left:Int} (ret:Bool→Option S),Fd k (ar t)→ -4611686018427387904≤left→left<4611686018427387904→iZ k t left ret=ret (decide ((ar t:Int)≤left)):=by
 induction t using d4 with
 |h t ih1 ih2=>
  intro ht k left ret hk h1 h2
  obtain ⟨q,rfl,hq,hf⟩:=hk.pos' (cS t)
  simp only [iZ,Q4,aS,aq,af hq]
  by_cases h0:left>0
  ·rw [if_pos h0]
   have hQ: ∀y∈t.kids,∀g:Bool→Option S,iZ q y (left-1) g=g (decide ((ar y:Int)≤left-1)):=fun y hy g=>ih1 y hy (ht.ki hy) g (hf _ (cR hy)) (by omega) (by omega)
   have hQ': ∀b∈t.sys,∀y∈b.kids,∀g:Bool→Option S,iZ q y (left-1) g=g (decide ((ar y:Int)≤left-1)):=fun b hb y hy g=>ih2 b hb y hy ((ht.bi hb).2 y hy) g (hf _ (cQ hb hy)) (by omega) (by omega)
   have:=aaW (Q:=fun y=>decide ((ar y:Int)≤left-1)) hq ret (by omega) (by omega) hQ hQ' ht t.kids [] q rfl (by have:=ht.no.2.2.2.2.2.1;have:4294967296≤q:=hq;omega)
   simp only [B7,GU]
   refine Eq.trans this ?_
   rw [HG (by omega),WV (by omega),s_]
   congr 1
   rw [Bool.eq_iff_iff];simp;omega
  ·rw [if_neg h0,decide_eq_false (by have:=cS t;omega)]
section
variable {hd:Tm→Int→(Bool×Int→Option S)→Option S} {t:Tm}
def qL (hd:Tm→Int→(Bool×Int→Option S)→Option S) (k:Nat) (y:Tm):Prop:= ∀ (c:Int) (g:Bool×Int→Option S),0≤c→c<4611686018427387904→
 ∃v,oG hd k y c g=g (decide ((ax y:Int)≤c),v)∧((ax y:Int)≤c→v=c-ax y)
theorem aaV (hk:Fu k) (ret:Bool×Int→Option S) (rec1:Int→Int→Int→Option S) {v more:Int} {x:Br Tm} (hQ: ∀y∈x.kids,qL hd k y) (hl:x.kids.length<1073741824):
  ∀ (r p:List Tm) (m:Nat) (c:Int),0≤c→c<4611686018427387904→x.kids=p++r→r.length<m→
  ((aw r:Int)≤c→h9 hd k ret rec1 t v x more m c (p.length:Int)=rec1 (c-aw r) (IntKind.wrap .i64 (v+1)) more)∧(¬ (aw r:Int)≤c→ ∃w,h9 hd k ret rec1 t v x more m c (p.length:Int)=ret (false,w)):=by
 intro r
 induction r with
 |nil=>
  intro p m c h0 h1 h hm
  obtain ⟨m,rfl,hm'⟩:=ak hm
  simp only [h9,ww,aA h,ad,aw]
  exact ⟨fun _=>by simp,fun h=>absurd h (by simpa using h0)⟩
 |cons y r ih=>
  intro p m c h0 h1 h hm
  obtain ⟨m,rfl,hm'⟩:=ak hm
  obtain ⟨e1,e2,e3,e4⟩:=az h (by omega)
  have hy:=hQ y (by rw [h];simp)
  obtain ⟨w,hw,hw'⟩:=hy c (fun r1=>(fun r6:Bool×Int=>ab (!r6.1) (ret (false,r6.2)) (h9 hd k ret rec1 t v x more m r6.2 (((p++[y]).length:Nat):Int))) (r1.1,r1.2)) h0 h1
  simp only [h9,ww,e1,ae,e2,Option.bind_some,af hk,s8,GY,aq,e3,aw]
  rw [hw]
  by_cases hs:(ax y:Int)≤c
  ·have:=hw' hs
   subst this
   obtain ⟨i1,i2⟩:=ih (p++[y]) m (c-ax y) (by omega) (by omega) e4 hm'
   simp only [decide_eq_true hs,Bool.not_true,ad]
   refine ⟨fun h=> ?_,fun h=> ?_⟩
   ·rw [i1 (by omega)];congr 1;omega
   ·exact i2 (by omega)
  ·simp only [decide_eq_false hs,Bool.not_false,ae]
   exact ⟨fun h=>absurd h (by omega),fun _=>⟨w,rfl⟩⟩
theorem aaU (hk:Fu k) (ret:Bool×Int→Option S) {more:Int} (hQ: ∀b∈t.sys,∀y∈b.kids,qL hd k y) (hl:t.sys.length<1073741824) (hl': ∀b∈t.sys,b.kids.length<1073741824):
  ∀ (r p:List (Br Tm)) (m:Nat) (c:Int),0≤c→c<4611686018427387904→t.sys=p++r→r.length<m→
  ((aI r:Int)≤c→fN hd k ret t m c (p.length:Int) more=ret (true,c-aI r))∧(¬ (aI r:Int)≤c→ ∃w,fN hd k ret t m c (p.length:Int) more=ret (false,w)):=by
 intro r
 induction r with
 |nil=>
  intro p m c h0 h1 h hm
  obtain ⟨m,rfl,hm'⟩:=ak hm
  simp only [fN,rT,aA h,ad,aI]
  exact ⟨fun _=>by simp,fun h=>absurd h (by simpa using h0)⟩
 |cons x r ih=>
  intro p m c h0 h1 h hm
  obtain ⟨m,rfl,hm'⟩:=ak hm
  obtain ⟨e1,e2,e3,e4⟩:=az h (by omega)
  have hx:x∈t.sys:=by rw [h];simp
  have hlx:=hl' x hx
  have:=aaV (t:=t) hk ret (fN hd k ret t m) (v:=(p.length:Int)) (more:=more) (hQ x hx) hlx x.kids [] k c h0 h1 rfl (by have:4294967296≤k:=hk;omega)
  simp only [fN,rT,e1,ae,e2,Option.bind_some,aI,kz]
  by_cases hs:(aw x.kids:Int)≤c
  ·have e:h9 hd k ret (fN hd k ret t m) t (p.length:Int) x more k c 0=_:=this.1 hs
   obtain ⟨i1,i2⟩:=ih (p++[x]) m (c-aw x.kids) (by omega) (by omega) e4 hm'
   rw [e,e3]
   refine ⟨fun h=> ?_,fun h=>i2 (by omega)⟩
   rw [i1 (by omega)];congr 2;omega
  ·obtain ⟨w,e⟩:=this.2 hs
   have e:h9 hd k ret (fN hd k ret t m) t (p.length:Int) x more k c 0=_:=e
   rw [e]
   exact ⟨fun h=>absurd h (by omega),fun _=>⟨w,rfl⟩⟩
theorem aaT (hk:Fu k) (ret:Bool×Int→Option S) (hQ: ∀y∈t.kids,qL hd k y) (hQ': ∀b∈t.sys,∀y∈b.kids,qL hd k y) (ht:OkT t):
  ∀ (r p:List Tm) (m:Nat) (c:Int),0≤c→c<4611686018427387904→t.kids=p++r→r.length<m→
  ∃w,nh hd k ret t m c (p.length:Int)=ret (decide (((aw r+aI t.sys:Nat):Int)≤c),w)∧(((aw r+aI t.sys:Nat):Int)≤c→w=c-((aw r+aI t.sys:Nat):Int)):=by
 obtain ⟨o1,o2,o3,o4,o5,o6,o7⟩:=ht.no
 intro r
 induction r with
 |nil=>
  intro p m c h0 h1 h hm
  obtain ⟨m,rfl,hm'⟩:=ak hm
  have hs: ∀more:Int,_:=fun more=>aaU hk ret (more:=more) hQ' o7 (fun b hb=>(ht.bi hb).1.2.2) t.sys [] k c h0 h1 rfl (by have:4294967296≤k:=hk;omega)
  have key: ∀more:Int,∃w,fN hd k ret t k c 0 more=ret (decide (((aI t.sys:Nat):Int)≤c),w)∧(((aI t.sys:Nat):Int)≤c→w=c-((aI t.sys:Nat):Int)):=fun more=>by
   by_cases hc:(aI t.sys:Int)≤c
   ·exact ⟨_,((hs more).1 hc).trans (by rw [decide_eq_true hc]),fun _=>rfl⟩
   ·obtain ⟨w,e⟩:=(hs more).2 hc
    exact ⟨w,Eq.trans e (by rw [decide_eq_false hc]),fun h=>absurd h hc⟩
  have hz:aw []+aI t.sys=aI t.sys:=by rw [aw,Nat.zero_add]
  rw [hz]
  simp only [nh,rS,aA h,ad]
  cases (t.kind==15) with
  |true=>exact key 1
  |false=>exact key 0
 |cons y r ih=>
  intro p m c h0 h1 h hm
  obtain ⟨m,rfl,hm'⟩:=ak hm
  obtain ⟨e1,e2,e3,e4⟩:=az h (by omega)
  have hy:=hQ y (by rw [h];simp)
  obtain ⟨w,hw,hw'⟩:=hy c (fun r1=>(fun r3:Bool×Int=>ab (!r3.1) (ret (false,r3.2)) (nh hd k ret t m r3.2 (((p++[y]).length:Nat):Int))) (r1.1,r1.2)) h0 h1
  have hz:aw (y::r)+aI t.sys=ax y+aw r+aI t.sys:=by rw [aw]
  rw [hz]
  simp only [nh,rS,e1,ae,e2,Option.bind_some,af hk,qA,s8,GY,aq,e3]
  rw [hw]
  by_cases hs:(ax y:Int)≤c
  ·have:=hw' hs
   subst this
   obtain ⟨u,i1,i2⟩:=ih (p++[y]) m (c-ax y) (by omega) (by omega) e4 hm'
   simp only [decide_eq_true hs,Bool.not_true,ad]
   refine ⟨u,i1.trans ?_,fun h=> ?_⟩
   ·congr 2;exact s9 (by omega)
   ·rw [i2 (by omega)];omega
  ·simp only [decide_eq_false hs,Bool.not_false,ae]
   exact ⟨w,by rw [decide_eq_false (by omega)],fun h=>absurd h (by omega)⟩
end
theorem aeH (t:Tm):OkT t→ ∀ {k:Nat} (c:Int) (ret:Bool×Int→Option S),Fd k (ar t)→0≤c→c<4611686018427387904→
  ∃w,fc k t c ret=ret (decide ((ax t:Int)-1≤c),w)∧((ax t:Int)-1≤c→w=c-((ax t:Int)-1)):=by
 induction t using d4 with
 |h t ih1 ih2=>
  intro ht k c ret hk h1 h2
  obtain ⟨q,rfl,hq,hf⟩:=hk.pos' (cS t)
  have cnt: ∀y,(∀ {k:Nat} (c:Int) (ret:Bool×Int→Option S),Fd k (ar y)→0≤c→c<4611686018427387904→ ∃w,fc k y c ret=ret (decide ((ax y:Int)-1≤c),w)∧((ax y:Int)-1≤c→w=c-((ax y:Int)-1)))→
    Fd q (ar y)→qL (S:=S) (fc q) q y:=by
   intro y hy hfy c g h0 h1
   simp only [oG,GZ,aq,bo (show-9223372036854775808≤c-1 by omega) (by omega),aS]
   have:=Fp y
   by_cases hc:c-1≥0
   ·rw [if_pos hc]
    obtain ⟨w,e,e'⟩:=hy (c-1) (fun r1=>g (r1.1,r1.2)) hfy (by omega) (by omega)
    refine ⟨w,e.trans ?_,fun h=> ?_⟩
    ·congr 2;exact s9 (by omega)
    ·rw [e' (by omega)];omega
   ·rw [if_neg hc]
    exact ⟨c-1,by rw [decide_eq_false (by omega)],fun h=>by omega⟩
  obtain ⟨w,e,e'⟩:=aaT hq ret (fun y hy=>cnt y (fun c ret=>ih1 y hy (ht.ki hy) c ret) (hf _ (cR hy))) (fun b hb y hy=>cnt y (fun c ret=>ih2 b hb y hy ((ht.bi hb).2 y hy) c ret) (hf _ (cQ hb hy))) ht t.kids [] q c h1 h2 rfl (by have:=ht.no.2.2.2.2.2.1;have:4294967296≤q:=hq;omega)
  simp only [fc,GS]
  have hz:=Fo t
  refine ⟨w,Eq.trans e ?_,fun h=> ?_⟩
  ·congr 2;exact s9 (by omega)
  ·rw [e' (by omega)];omega
theorem afx {t:Tm} (ht:OkT t) (hk:Fd k (ar t)) {most:Int} (h0:0<most) (h1:most<4611686018427387904) (ret:Bool→Option S):xQ k t most ret=ret (decide ((ax t:Int)≤most)):=by
 simp only [xQ,Q6,af hk.fu,oG,GZ,aq,bo (show-9223372036854775808≤most-1 by omega) (by omega),aS]
 rw [if_pos (by omega)]
 obtain ⟨w,e,_⟩:=aeH t ht (most-1) (fun r1=>ret (r1.1,r1.2).1) hk (by omega) (by omega)
 refine Eq.trans e ?_
 show ret (decide _)=_
 congr 1;exact s9 (by omega)
def VD (vars dims:Int) (n:Nat):Prop:= -4611686018427387904≤vars∧vars+n<4611686018427387904∧0≤dims∧dims+n<4611686018427387904
section
variable {hd:Tm→Int→Int→Bool→(Bool→Option S)→Option S} {vars dims:Int} {bd:Bool} {t:Tm}
theorem Om (hv:VD vars dims 1) {v d:Int} (h1:0≤v∧v≤1) (h2:0≤d∧d≤1) (y:Tm) (g:Bool→Option S):sV hd k y v d vars dims bd g=hd y (dA vars v) (dims+d) bd g:=by
 unfold VD at hv
 simp only [sV,Q3,aq,aS,bo (n:=vars+0) (by omega) (by omega),bo (n:=vars+v) (by omega) (by omega),bo (n:=dims+d) (by omega) (by omega)]
 unfold dA
 split
 ·rw [Int.add_zero]
 ·rfl
theorem aaS (hk:Fu k) (ret:Bool→Option S) (rec1:Int→Int→Option S) (hv:VD vars dims 1) {v more:Int} {x:Br Tm} (hm:more=aE t.kind) (hQ: ∀y∈x.kids,∀g,hd y vars (dims+more) bd g=g (bz bd vars (dims+more) y)) (hl:x.kids.length<1073741824):
  ∀ (r p:List Tm) (m:Nat),x.kids=p++r→r.length<m→lO hd k ret rec1 vars dims bd t v x more m (p.length:Int)=if dC bd vars dims t.kind r then rec1 (IntKind.wrap .i64 (v+1)) more else ret false:=by
 subst hm
 intro r
 induction r with
 |nil=>
  intro p m h hm
  obtain ⟨m,rfl,hm'⟩:=ak hm
  simp only [lO,wx,aA h,ad];rfl
 |cons y r ih=>
  intro p m h hm
  obtain ⟨m,rfl,hm'⟩:=ak hm
  obtain ⟨e1,e2,e3,e4⟩:=az h (by omega)
  have hy:=hQ y (by rw [h];simp)
  have h0:dA vars 0=vars:=by unfold dA;split<;>omega
  simp only [lO,wx,e1,ae,e2,Option.bind_some,af hk,aq,Om hv (show (0:Int)≤0∧(0:Int)≤1 by omega) (ei t.kind),h0,hy,e3,ih (p++[y]) m e4 hm',Fi]
  rw [dC]
theorem aaR (hk:Fu k) (ret:Bool→Option S) (hv:VD vars dims 1) {more:Int} (hm:more=aE t.kind) (hQ: ∀b∈t.sys,∀y∈b.kids,∀g,hd y vars (dims+more) bd g=g (bz bd vars (dims+more) y)) (hl:t.sys.length<1073741824) (hl': ∀b∈t.sys,b.kids.length<1073741824):
  ∀ (r p:List (Br Tm)) (m:Nat),t.sys=p++r→r.length<m→h_ hd k ret vars dims bd t m (p.length:Int) more=ret (dc bd vars dims t.kind r):=by
 intro r
 induction r with
 |nil=>
  intro p m h hm
  obtain ⟨m,rfl,hm'⟩:=ak hm
  simp only [h_,rV,aA h,ad,dc]
 |cons x r ih=>
  intro p m h hml
  obtain ⟨m,rfl,hm'⟩:=ak hml
  obtain ⟨e1,e2,e3,e4⟩:=az h (by omega)
  have hx:x∈t.sys:=by rw [h];simp
  have hlx:=hl' x hx
  have:=aaS (t:=t) (bd:=bd) hk ret (h_ hd k ret vars dims bd t m) hv (v:=(p.length:Int)) hm (hQ x hx) hlx x.kids [] k rfl (by have:4294967296≤k:=hk;omega)
  have this:lO hd k ret (h_ hd k ret vars dims bd t m) vars dims bd t (p.length:Int) x more k 0=_:=this
  simp only [h_,rV,e1,ae,e2,Option.bind_some,this,e3,ih (p++[x]) m e4 hm']
  have ea:dc bd vars dims t.kind (x::r)=(dC bd vars dims t.kind x.kids&&dc bd vars dims t.kind r):=by cases x;rw [dc,qY]
  rw [ea,CT]
theorem aaQ (hk:Fu k) (ret:Bool→Option S) (hv:VD vars dims 1) (hQ: ∀y∈t.kids,∀v d,0≤v∧v≤1→0≤d∧d≤1→ ∀g,hd y (dA vars v) (dims+d) bd g=g (bz bd (dA vars v) (dims+d) y)) (hQ': ∀b∈t.sys,∀y∈b.kids,∀g,hd y vars (dims+aE t.kind) bd g=g (bz bd vars (dims+aE t.kind) y)) (ht:OkT t):
  ∀ (r p:List Tm) (m:Nat),t.kids=p++r→r.length<m→ni hd k ret vars dims bd t m (p.length:Int)=ret (ci bd vars dims t.kind p.length r&&dc bd vars dims t.kind t.sys):=by
 obtain ⟨o1,o2,o3,o4,o5,o6,o7⟩:=ht.no
 intro r
 induction r with
 |nil=>
  intro p m h hm
  obtain ⟨m,rfl,hm'⟩:=ak hm
  have hs:h_ hd k ret vars dims bd t k 0 (aE t.kind)=_:=aaR hk ret hv rfl hQ' o7 (fun b hb=>(ht.bi hb).1.2.2) t.sys [] k rfl (by have:4294967296≤k:=hk;omega)
  simp only [ni,rU,aA h,ad]
  rw [ci,Bool.true_and,←hs]
  unfold aE
  rw [cx]
  by_cases h15:t.kind=15
  ·rw [if_pos h15,if_pos (by rw [h15];rfl)]
  ·rw [if_neg h15,if_neg (by rw [beq_iff_eq];exact h15)]
 |cons y r ih=>
  intro p m h hm
  obtain ⟨m,rfl,hm'⟩:=ak hm
  obtain ⟨e1,e2,e3,e4⟩:=az h (by omega)
  have b1:=wA t.kind p.length
  have b2:=gO t.kind p.length
  have hy:=hQ y (by rw [h];simp) (dP t.kind p.length) (bQ t.kind p.length) b1 b2
  simp only [ni,rU,e1,ae,e2,Option.bind_some,af hk,qA,aq,Om hv b1 b2,hy,e3,ih (p++[y]) m e4 hm',ju]
  rw [ci,show (p++[y]).length=p.length+1 by simp,Bool.and_assoc]
end
theorem qZ (bd:Bool) (vars dims:Int) (t:Tm):bz bd vars dims t=(!(bd&&decide (dims>24))&&(eo vars dims t&&(ci bd vars dims t.kind 0 t.kids&&dc bd vars dims t.kind t.sys))):=by cases t;rw [bz];rfl
theorem Rq {vars v:Int} (h:0≤v∧v≤1):vars≤dA vars v∧dA vars v≤vars+1:=by unfold dA;split<;>omega
theorem aeE (t:Tm):OkT t→ ∀ {k:Nat} {vars dims:Int} {bd:Bool} (ret:Bool→Option S),Fd k (ar t)→VD vars dims (ar t)→fI k t vars dims bd ret=ret (bz bd vars dims t):=by
 induction t using d4 with
 |h t ih1 ih2=>
  intro ht k vars dims bd ret hk hv
  obtain ⟨q,rfl,hq,hf⟩:=hk.pos' (cS t)
  have hp:=cS t
  have hv':=hv
  unfold VD at hv'
  have hv1:VD vars dims 1:=by unfold VD;omega
  have hm:=ei t.kind
  have hQ: ∀y∈t.kids,∀v d,0≤v∧v≤1→0≤d∧d≤1→ ∀g:Bool→Option S,fI q y (dA vars v) (dims+d) bd g=g (bz bd (dA vars v) (dims+d) y):=fun y hy v d h1 h2 g=>ih1 y hy (ht.ki hy) g (hf _ (cR hy)) (by
   have:=cR hy;have:=Rq (vars:=vars) h1;unfold VD;omega)
  have hQ': ∀b∈t.sys,∀y∈b.kids,∀g:Bool→Option S,fI q y vars (dims+aE t.kind) bd g=g (bz bd vars (dims+aE t.kind) y):=fun b hb y hy g=>ih2 b hb y hy ((ht.bi hb).2 y hy) g (hf _ (cQ hb hy)) (by
   have:=cQ hb hy;unfold VD;omega)
  have:=aaQ (bd:=bd) hq ret hv1 hQ hQ' ht t.kids [] q rfl (by have:=ht.no.2.2.2.2.2.1;have:4294967296≤q:=hq;omega)
  have this:ni (fI q) q ret vars dims bd t q 0=_:=this
  simp only [fI,Q2,aq,af hq,ae4 hq ht (show 0≤dims by omega) (show dims<9223372036854775808 by omega),xO,GT,this]
  rw [qZ]
  cases bd with
  |true=>
   rw [ae,aS,Bool.true_and]
   by_cases h24:dims>24
   ·rw [if_pos h24,decide_eq_true h24];rfl
   ·rw [if_neg h24,decide_eq_false h24]
    cases eo vars dims t<;>rfl
  |false=>
   rw [ad]
   cases eo vars dims t<;>rfl
theorem afw {t:Tm} (ht:OkT t) (hk:Fd k (ar t)) (ret:Int→Option S):sZ k t ret=ret (if ar t>200 then 62 else if ax t>20000 then 221 else 0):=by
 simp only [sZ,Q5,aq,afv t ht _ hk (show (-4611686018427387904:Int)≤200 by omega) (show (200:Int)<4611686018427387904 by omega),af hk.fu,afx ht hk (show (0:Int)<20000 by omega) (show (20000:Int)<4611686018427387904 by omega)]
 by_cases h1:ar t>200
 ·rw [if_pos h1,decide_eq_false (by omega)];rfl
 ·rw [if_neg h1,decide_eq_true (by omega),Bool.not_true,ad]
  by_cases h2:ax t>20000
  ·rw [if_pos h2,decide_eq_false (by omega)];rfl
  ·rw [if_neg h2,decide_eq_true (by omega)];rfl
theorem uD {t:Tm} (ht:OkT t) (hk:Fd k (ar t)) (hdep:ar t<1099511627776) (ret:Int→Option S):kV k t ret=ret (cG t):=by
 simp only [kV,QZ,aq,af hk.fu,afw ht hk,aeE t ht _ hk (show VD (-1) 24 (ar t) by unfold VD;omega),aY]
 unfold cG
 by_cases h1:ar t>200
 ·rw [if_pos h1,if_pos h1];rfl
 ·rw [if_neg h1,if_neg h1]
  by_cases h2:ax t>20000
  ·rw [if_pos h2,if_pos h2];rfl
  ·rw [if_neg h2,if_neg h2,decide_eq_true rfl,Bool.not_true,ad]
   cases bz false (-1) 24 t<;>rfl
end Go.Proofs.YtapmagaejigpnaaGreatDoor
