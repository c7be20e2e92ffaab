/- Part 4 of a proof; sources: wip/. -/
import Derived.Test.YtfffkmcpnggkdaaGreatDoorX3
import Derived.KernelRfl
open Bool renaming and_eq_true→ql,not_false→sV,not_true→va
open ByteArray renaming empty→po
open Eq renaming trans→pr
open Go.IntKind renaming wrap→ou
open Int renaming toNat_natCast→EI
open List renaming all_eq_true→xq,append_nil→xK,length_cons→uA,length_eq_zero_iff→Ix,mem_cons→xt,nil_append→zi
open Nat renaming le_refl→bu,mul_le_mul_right→HZ,zero_add→EJ
open Option renaming bind→oe,bind_some→qm
set_option linter.unusedVariables false
set_option linter.unusedSimpArgs false
namespace Go.Proofs.YtfffkmcpnggkdaaGreatDoor
set_option maxRecDepth 100000
open Go PI
section
open Go PI _root_.Go.Proofs.Tryz
noncomputable section
variable {S:Type} {o:Obj} (k:Nat)
def ani:Rw S:=aj Ls mf fun t oa nV oV oU pf oW o0 nX Z=>aa k (H7 k t oa nV oV oU pf oW o0 nX) (aHn nV oV oU pf oW o0 nX Z)
def Cx:Fx S:=fp 25 [(159,am_ k)] [] k f93 1
theorem pJ (ho:ai o):Tl o 93 (ani k:Rw S):=ow (Cx k) ⟨np k ho,trivial⟩ func93 fun t oa nV oV oU pf oW o0 nX Z x h=>pA h
def Gq:Rw S:=aj adv aJl fun qy rm c1 c2 zy uC ua tZ tY tX tW tV Z=>aa k (fr k qy rm c1 c2 zy uC ua tZ tY tX tW tV) (aHo c1 c2 uC ua tZ tY tX tW tV Z)
def rX:Fx S:=fx 37 (fun _=>[]) (fun _=>false) [(40,A3 k),(66,Oy k)] [] k f92 true [] 4
theorem J9 (ho:ai o):Tl o 92 (Gq k:Rw S):=ow (rX k) ⟨D_ k ho,M9 k ho,trivial⟩ func92 fun qy rm c1 c2 zy uC ua tZ tY tX tW tV Z x h=>pA h
def L':Rw S:=aj adx fh fun f qy c0 Z=>aa k (JK k f qy c0) (b1 Z)
def Cy:Fx S:=fp 23 [(81,P0 k),(82,IJ k),(160,PP k)] [] k f94 1
theorem pK (ho:ai o):Tl o 94 (L' k:Rw S):=ow (Cy k) ⟨LR k ho,K6 k ho,pg k ho,trivial⟩ func94 fun f qy c0 Z x h=>pA h
def O4:Rw S:=aj adK fh fun t qy c0 Z=>aa k (JJ k t qy c0) (AQ Z)
def Vo:Fx S:=fp 18 [(81,P0 k),(82,IJ k),(85,Gk k)] [] k f95 1
theorem abf (ho:ai o):Tl o 95 (O4 k:Rw S):=ow (Vo k) ⟨LR k ho,K6 k ho,JY k ho,trivial⟩ func95 fun t qy c0 Z x h=>pA h
def anB:Rw S:=aj Ls mf fun l oa nV oV oU pf oW o0 nX Z=>aa k (h0 k l oa nV oV oU pf oW o0 nX) (azN nV oV oU pf oW o0 nX Z)
def rY:Fx S:=fx 100 (fun _=>[]) (fun _=>false) [(41,Ot k),(42,OV k),(43,A4 k),(64,jx k),(92,Gq k),(93,ani k),(94,L' k),(95,O4 k)] [] k f46 true [] 1
theorem um (ho:ai o):Tl o 46 (anB k:Rw S):=ow (rY k) ⟨Dh k ho,Ie k ho,hN k ho,j8 k ho,J9 k ho,pJ k ho,pK k ho,abf k ho,trivial⟩ func46 fun l oa nV oV oU pf oW o0 nX Z x h=>pA h
def Gr:Rw S:=aj ady xn fun kind l kids Z=>aa k (JM k kind l kids) (aCI Z)
def Cz:Fx S:=fx 11 (fun _=>[]) (fun _=>false) [] [] k f96 true [] 0
theorem J_ (ho:ai o):Tl o 96 (Gr k:Rw S):=ow (Cz k) trivial func96 fun kind l kids Z x h=>pA h
def vG:Rw S:=aj Ey xn fun t Z=>aa k (JG k t) (AX Z)
def CA:Fx S:=fp 133 [(14,PK k),(34,PL (dJ k)),(35,Gg k),(42,OV k),(65,Oq k),(66,Oy k),(94,L' k),(95,O4 k),(96,Gr k)] [(20,⟨[(1,nU),(2,nU),(6,nU),(8,nU),(9,nU),(10,nU),(11,qu 100011),(94,nU),(95,nU),(96,nU)],[(1,[nU,nU,nU,nU,nU,nU]),(2,[nU,nU,nU,qu 200131,qu 200132,qu 200133]),(6,[nU,nU,nU,nU,nU,nU]),(9,[nU,nU,nU,nU,nU,nU]),(10,[nU,nU,nU,nU,nU,qu 200645]),(44,[nU])]⟩,ap 21 769727)] k f47 0
def Mt (r3:Tm) (q:Int×Int×ByteArray×List Cl×List Tm) (x4:Tm) (r13:Tm×Int) (x5:Tm) (z:Int) (x:List (Br Tm)) (A:Int):St UU:=⟨[(1,(pt 1)),(2,(pt 2)),(6,(pt 6)),(8,(pt 44)),(9,(pt 9)),(10,(pt 10)),(11,(.own 100011 0)),(94,(sB x5.s)),(95,(iI x5.s.length)),(96,(iI A))],[(1,bT r3),(2,.cells [(iI 0),(iI 0),zx,(.own 200131 0),(.own 200132 0),(.own 200133 0)]),(6,bT x4),(9,bT r13.1),(10,.cells [(iI q.1),(iI q.2.1),(.str q.2.2.1),(sC q.2.2.2.1),(sT q.2.2.2.2),(.own 200645 0)]),(44,bI z)],[(200645,xR),(200133,xR),(200132,zo),(200131,xZ),(100011,⟨0,ET.B,x⟩)],[(200645,.wr),(200133,.wr),(200132,.wr),(200131,.wr),(100011,.wr)]⟩
section
variable (k:Nat) (t:Tm) (Z:Out UU->Option S)
theorem XX (r3 x x4 r13 x5): ∀n z q A,(CA k).lp Z 20 [] n (Mt r3 x x4 r13 x5 z q A)=E7 k (AX Z) r3 x x4 r13 x5 n z q A:=EF (Jp k (AX Z) r3 x x4 r13 x5)
end
theorem zI (ho:ai o):Tl o 47 (vG k:Rw S):=ow (CA k) ⟨H5 k ho,IQ o ho k,SK k ho,Ie k ho,l3 k ho,M9 k ho,pK k ho,abf k ho,J_ k ho,trivial⟩ func47 fun t Z x h=>pr (b:=SP k (AX Z) (fun E z x4 r13 x5 A q B=>(CA k).lp Z 20 [] k (Mt E z x4 r13 x5 A q B)) t) (by kernel_rfl) (pr (by simp only [XX];rfl) (al h))
def vH:Rw S:=aj adL xn fun b Z=>aa k (a6 k b) (aii Z)
def Vp:Fx S:=fp 11 [(42,OV k)] [] k f171 0
theorem zJ (ho:ai o):Tl o 171 (vH k:Rw S):=ow (Vp k) ⟨Ie k ho,trivial⟩ func171 fun b Z x h=>pA h
def Gs:Rw S:=aj adz xn fun l Z=>aa k (e9 k l) (r6 Z)
def eM:Fx S:=fx 22 (fun _=>[]) (fun _=>false) [(171,vH k)] [(3,⟨[(1,nU),(5,qu 100005),(8,nU),(9,nU),(10,nU)],[]⟩,ap 5 11)] k f112 false [true] 0
def Mu (l:List (Br Tm)) (qn:Int) (q:List (Br Tm)):St UU:=⟨[(1,(.func 171 [] [])),(5,(.own 100005 0)),(8,(sB l)),(9,(iI l.length)),(10,(iI qn))],[],[(100005,⟨0,ET.B,q⟩)],[(100005,.wr)]⟩
section
variable (k:Nat) (l:List (Br Tm)) (Z:Out UU->Option S)
theorem XY: ∀n qn q,(eM k).lp Z 3 [] n (Mu l qn q)=qq k (r6 Z) l n qn q:=aL (e2 k (r6 Z) l)
end
theorem aFl (ho:ai o):Tl o 112 (Gs k:Rw S):=ow (eM k) ⟨zJ k ho,trivial⟩ func112 fun l Z x h=>pr (b:=ed k (r6 Z) (fun qn q=>(eM k).lp Z 3 [] k (Mu l qn q)) l) (by kernel_rfl) (pr (by simp only [XY];rfl) (al h))
def anC:Rw S:=aj Ey xn fun g Z=>aa k (SL k g) (aCJ Z)
def Vq:Fx S:=fp 6 [(112,Gs k)] [] k f111 0
theorem uo (ho:ai o):Tl o 111 (anC k:Rw S):=ow (Vq k) ⟨aFl k ho,trivial⟩ func111 fun g Z x h=>pA h
def Gt:Rw S:=aj gi xn fun a es Z=>aa k (Ns k a es) (aCI Z)
def CB:Fx S:=fx 9 (fun _=>[]) (fun _=>false) [(96,Gr k)] [] k f114 true [] 0
theorem Ka (ho:ai o):Tl o 114 (Gt k:Rw S):=ow (CB k) ⟨J_ k ho,trivial⟩ func114 fun a es Z x h=>pA h
def Gu:Rw S:=aj EU fh fun c c0 Z=>aa k (ay3 k c c0) (aHp c0 Z)
def CC:Fx S:=fp 14 [(219,GP k)] [] k f234 1
theorem Kb (ho:ai o):Tl o 234 (Gu k:Rw S):=ow (CC k) ⟨Ku k ho,trivial⟩ func234 fun c c0 Z x h=>pA h
def amV:Rw S:=aj aGj fh fun l c0 Z=>aa k (ay4 k l c0) (b7 c0 Z)
def Vs:Fx S:=fp 29 [(234,Gu k)] [(3,⟨[(1,nU),(5,qu 100005),(10,nU),(11,nU),(12,nU)],[(1000000,[nU])]⟩,ap 5 11)] k f188 1
def aBN (c0:Int) (l:List Cl) (th:Int) (q:List Cl):St UU:=⟨[(1,(.func 234 [] [(pt 1000000)])),(5,(.own 100005 0)),(10,(sC l)),(11,(iI l.length)),(12,(iI th))],[(1000000,bI c0)],[(100005,⟨0,ET.C,q⟩)],[(100005,.wr)]⟩
section
variable (k:Nat) (l:List Cl) (c0:Int) (Z:Out UU->Option S)
theorem aDQ: ∀n th q,(Vs k).lp Z 3 [] n (aBN c0 l th q)=gv k (b7 c0 Z) c0 l n th q:=aL (k3 k (b7 c0 Z) c0 l)
end
theorem am3 (ho:ai o):Tl o 188 (amV k:Rw S):=ow (Vs k) ⟨Kb k ho,trivial⟩ func188 fun l c0 Z x h=>pr (b:=az7 k (b7 c0 Z) (fun th q=>(Vs k).lp Z 3 [] k (aBN c0 l th q)) l c0) (by kernel_rfl) (pr (by simp only [aDQ];rfl) (al h))
def O6:Rw S:=aj EV xn fun f i Z=>aa k (d' k f i) (uc Z)
def CD:Fx S:=fp 20 [(125,PG k),(172,Pp k),(188,amV k),(233,GQ k)] [] k f204 0
theorem abh (ho:ai o):Tl o 204 (O6 k:Rw S):=ow (CD k) ⟨Hi k ho,M8 k ho,am3 k ho,Kv k ho,trivial⟩ func204 fun f i Z x h=>pA h
def O7:Rw S:=aj Lu fh fun f c0 Z=>aa k (cx k f c0) (b1 Z)
def Vt:Fx S:=fp 39 [(41,Ot k),(81,P0 k),(82,IJ k),(129,Oo k),(186,GK k),(204,O6 k)] [] k f161 1
theorem abi (ho:ai o):Tl o 161 (O7 k:Rw S):=ow (Vt k) ⟨Dh k ho,LR k ho,K6 k ho,P' k ho,Kp k ho,abh k ho,trivial⟩ func161 fun f c0 Z x h=>pA h
def aHF:Rw S:=aj cZ aAw fun c1 a7 q x z A B E F I J L M O T W Y ad ao ax az a6 Z=>aa k (kx k c1 a7 q x z A B E F I J L M O T W Y ad ao ax az a6) (aCK c1 q x z A B E F I J L M O T W Y ad ao ax az a6 Z)
def vI:Rw S:=aj cZ aAw fun c1 q x z A B E F I J L M O T W Y ad ao ax az a6 a7 Z=>aa k (kx k c1 q x z A B E F I J L M O T W Y ad ao ax az a6 a7) (aHq Z)
def CE:Fx S:=fp 8 [(40,A3 k)] [] k f162 3
theorem aFm (ho:ai o):Tl o 162 (aHF k:Rw S):=ow (CE k) ⟨D_ k ho,trivial⟩ func162 fun c1 q z A B E F I J L M O T W Y ad ao ax az a6 a7 a8 Z x h=>pA h
theorem zK (ho:ai o):Tl o 162 (vI k:Rw S):=x9 (n:=2) (m:=1) (aFm k ho) fun c1 a8 q z A B E F I J L M O T W Y ad ao ax az a6 a7 Z x h=>pr (b:=aa k (kx k c1 a8 q z A B E F I J L M O T W Y ad ao ax az a6 a7) (aCK c1 q z A B E F I J L M O T W Y ad ao ax az a6 a7 (SN 2 1 [.cells [(pt 2)],bT c1,.cells [(iI a8),(sC q),(iI z),(iI A),(.str B),(sC E),(sT F),(sB I),(sB J),(iI L),(iI M),(.str O),(sC T),(sT W),(sB Y),(iI ad),(iI ao),(.str ax),(sC az),(sT a6),(sB a7)]] Z))) (by kernel_rfl) (pr (congrArg (aa k (kx k c1 a8 q z A B E F I J L M O T W Y ad ao ax az a6 a7)) (funext fun r=>if_pos ⟨rfl,rfl⟩)) h)
def O8:Rw S:=aj aGk aJm fun oa nV oV oU pf oW o0 nX q uT uY uX uW uV uU tU tT tR tQ tP tM c2 Z=>aa k (W0 k oa nV oV oU pf oW o0 nX q uT uY uX uW uV uU tU tT tR tQ tP tM c2) (aHr nV oV oU pf oW o0 nX q uT uY uX uW uV uU tU tT tR tQ tP tM c2 Z)
def Vu:Fx S:=fx 20 (fun _=>[]) (fun _=>false) [(42,OV k),(162,vI k)] [] k f101 true [false,true] 3
theorem abj (ho:ai o):Tl o 101 (O8 k:Rw S):=ow (Vu k) ⟨Ie k ho,zK k ho,trivial⟩ func101 fun oa nV oV oU pf oW o0 nX q uT uY uX uW uV uU tU tT tR tQ tP tM c2 Z x h=>pA h
def qv:Rw S:=aj Ey xn fun xz Z=>aa k (Nu k xz) (aE Z)
def jO:Fx S:=fx 6 (fun _=>[]) (fun _=>false) [(41,Ot k)] [] k f103 true [] 0
theorem h3 (ho:ai o):Tl o 103 (qv k:Rw S):=ow (jO k) ⟨Dh k ho,trivial⟩ func103 fun xz Z x h=>pA h
def A8:Rw S:=aj aBm qd fun b uD qW qT qR qM qK qJ rf sN rK sH rP rO rL sI sM sL sK sJ sP sO Z=>aa k (ay7 k b uD qW qT qR qM qK qJ rf sN rK sH rP rO rL sI sM sL sK sJ sP sO) (aHs qW qT qR qM qK qJ rf sN rK sH rP rO rL sI sM sL sK sJ sP sO Z)
def Vv:Fx S:=fp 31 [(41,Ot k),(42,OV k),(91,am9 k),(103,qv k)] [] k f163 2
theorem Ec (ho:ai o):Tl o 163 (A8 k:Rw S):=ow (Vv k) ⟨Dh k ho,Ie k ho,nn k ho,h3 k ho,trivial⟩ func163 fun b uD qW qT qR qM qK qJ rf sN rK sH rP rO rL sI sM sL sK sJ sP sO Z x h=>pA h
def Gv:Rw S:=aj aGl qd fun l uD qW qT qR qM qK qJ rf sN rK sH rP rO rL sI sM sL sK sJ sP sO Z=>aa k (sq k l uD qW qT qR qM qK qJ rf sN rK sH rP rO rL sI sM sL sK sJ sP sO) (h6 qW qT qR qM qK qJ rf sN rK sH rP rO rL sI sM sL sK sJ sP sO Z)
def CF:Fx S:=fx 22 (fun _=>[]) (fun _=>false) [(163,A8 k)] [(3,⟨[(1,nU),(5,qu 100005),(8,nU),(9,nU),(10,nU)],[(1000000,[nU]),(1000001,[nU,nU,nU,nU,nU,nU,nU,nU,nU,nU,nU,nU,nU,nU,nU,nU,nU,nU,nU,nU,nU])]⟩,ap 5 11)] k f112 false [true] 2
def MF (qW:List Cl) (sH:Int) (rP:ByteArray) (rO:List Cl) (rL:List Tm) (sI:List (Br Tm)) (sM sL:Int) (sK:ByteArray) (sJ:List Cl) (sP:List Tm) (qT:Int) (sO:List (Br Tm)) (qR:Int) (qM:ByteArray) (qK:List Cl) (qJ:List Tm) (rf sN:List (Br Tm)) (rK:Int) (l:List (Br Tm)) (arm qn:Int) (q:List (Br Tm)):St UU:=⟨[(1,(.func 163 [] [(pt 1000000)])),(5,(.own 100005 0)),(8,(sB l)),(9,(iI l.length)),(10,(iI qn))],[(1000000,.cells [(pt 1000001)]),(1000001,.cells [(iI arm),(sC qW),(iI qT),(iI qR),(.str qM),(sC qK),(sT qJ),(sB rf),(sB sN),(iI rK),(iI sH),(.str rP),(sC rO),(sT rL),(sB sI),(iI sM),(iI sL),(.str sK),(sC sJ),(sT sP),(sB sO)])],[(100005,⟨0,ET.B,q⟩)],[(100005,.wr)]⟩
section
variable (k:Nat) (l:List (Br Tm)) (uD:Int) (qW:List Cl) (qT qR:Int) (qM:ByteArray) (qK:List Cl) (qJ:List Tm) (rf sN:List (Br Tm)) (rK sH:Int) (rP:ByteArray) (rO:List Cl) (rL:List Tm) (sI:List (Br Tm)) (sM sL:Int) (sK:ByteArray) (sJ:List Cl) (sP:List Tm) (sO:List (Br Tm)) (Z:Out UU->Option S)
theorem Yc: ∀n arm qn q,(CF k).lp Z 3 [] n (MF qW sH rP rO rL sI sM sL sK sJ sP qT sO qR qM qK qJ rf sN rK l arm qn q)=e7 k (h6 qW qT qR qM qK qJ rf sN rK sH rP rO rL sI sM sL sK sJ sP sO Z) qW sH rP rO rL sI sM sL sK sJ sP qT sO qR qM qK qJ rf sN rK l n arm qn q:=EF (ey k (h6 qW qT qR qM qK qJ rf sN rK sH rP rO rL sI sM sL sK sJ sP sO Z) qW sH rP rO rL sI sM sL sK sJ sP qT sO qR qM qK qJ rf sN rK l)
end
theorem Kc (ho:ai o):Tl o 112 (Gv k:Rw S):=ow (CF k) ⟨Ec k ho,trivial⟩ func112 fun l uD qW qT qR qM qK qJ rf sN rK sH rP rO rL sI sM sL sK sJ sP sO Z x h=>pr (b:=aAa k (h6 qW qT qR qM qK qJ rf sN rK sH rP rO rL sI sM sL sK sJ sP sO Z) (fun arm qn q=>(CF k).lp Z 3 [] k (MF qW sH rP rO rL sI sM sL sK sJ sP qT sO qR qM qK qJ rf sN rK l arm qn q)) l uD qW qT qR qM qK qJ rf sN rK sH rP rO rL sI sM sL sK sJ sP sO) (by kernel_rfl) (pr (by simp only [Yc];rfl) (al h))
def Gw:Rw S:=aj Ls aJn fun g oa nV oV oU pf oW o0 nX uT uY uX uW uV uU tU tT tR tQ tP tM Z=>aa k (cy k g oa nV oV oU pf oW o0 nX uT uY uX uW uV uU tU tT tR tQ tP tM) (y' nV oV oU pf oW o0 nX tU tT tR tQ tP tM Z)
def Vw:Fx S:=fp 74 [(42,OV k),(43,A4 k),(64,jx k),(101,O8 k),(111,anC k),(112,Gv k),(114,Gt k),(161,O7 k)] [(3,⟨[(2,nU),(3,nU),(4,nU),(21,nU),(22,nU),(23,nU)],[(2,[nU]),(3,[nU,nU,nU,nU,nU,nU]),(4,[nU,nU,nU,qu 200259,nU,nU]),(1000000,[nU,nU,nU,nU,nU,nU,nU,nU,qu 64200008,nU,nU,nU,nU,nU,nU,nU,nU,nU,nU,nU,nU])]⟩,ap 5 11)] k f97 1
def aBO (nV:List Cl) (uY:Int) (uX:ByteArray) (uW:List Cl) (uV:List Tm) (uU:List (Br Tm)) (tU tT:Int) (tR:ByteArray) (tQ:List Cl) (tP:List Tm) (oV:Int) (tM:List (Br Tm)) (oU:Int) (pf:ByteArray) (oW:List Cl) (o0:List Tm) (nX:List (Br Tm)) (uT:Int) (g:Tm) (r3:Int×Int×ByteArray×List Tm×List (Br Tm)) (x:Int) (q:List (Br Tm)) (IF:Int):St UU:=⟨[(2,(pt 2)),(3,(pt 3)),(4,(pt 4)),(21,(sB g.s)),(22,(iI g.s.length)),(23,(iI IF))],[(2,.cells [(pt 1000000)]),(3,bT g),(4,.cells [(iI r3.1),(iI r3.2.1),(.str r3.2.2.1),(.own 200259 0),(sT r3.2.2.2.1),(sB r3.2.2.2.2)]),(1000000,.cells [(iI x),(sC nV),(iI oV),(iI oU),(.str pf),(sC oW),(sT o0),(sB nX),(.own 64200008 0),(iI uT),(iI uY),(.str uX),(sC uW),(sT uV),(sB uU),(iI tU),(iI tT),(.str tR),(sC tQ),(sT tP),(sB tM)])],[(64200008,⟨0,ET.B,q⟩),(200259,xZ)],[(64200008,.wr),(200259,.wr)]⟩
section
variable (k:Nat) (g:Tm) (oa:Int) (nV:List Cl) (oV oU:Int) (pf:ByteArray) (oW:List Cl) (o0:List Tm) (nX:List (Br Tm)) (uT uY:Int) (uX:ByteArray) (uW:List Cl) (uV:List Tm) (uU:List (Br Tm)) (tU tT:Int) (tR:ByteArray) (tQ:List Cl) (tP:List Tm) (tM:List (Br Tm)) (Z:Out UU->Option S)
theorem aDR (r3): ∀n x q IF,(Vw k).lp Z 3 [] n (aBO nV uY uX uW uV uU tU tT tR tQ tP oV tM oU pf oW o0 nX uT g r3 x q IF)=jd k (y' nV oV oU pf oW o0 nX tU tT tR tQ tP tM Z) nV uY uX uW uV uU tU tT tR tQ tP oV tM oU pf oW o0 nX uT g r3 n x q IF:=EF (s3 k (y' nV oV oU pf oW o0 nX tU tT tR tQ tP tM Z) nV uY uX uW uV uU tU tT tR tQ tP oV tM oU pf oW o0 nX uT g r3)
end
theorem Kd (ho:ai o):Tl o 97 (Gw k:Rw S):=ow (Vw k) ⟨Ie k ho,hN k ho,j8 k ho,abj k ho,uo k ho,Kc k ho,Ka k ho,abi k ho,trivial⟩ func97 fun g oa nV oV oU pf oW o0 nX uT uY uX uW uV uU tU tT tR tQ tP tM Z x h=>pr (b:=az_ k (y' nV oV oU pf oW o0 nX tU tT tR tQ tP tM Z) (fun A z q IF=>(Vw k).lp Z 3 [] k (aBO nV uY uX uW uV uU tU tT tR tQ tP oV tM oU pf oW o0 nX uT g A z q IF)) g oa nV oV oU pf oW o0 nX uT uY uX uW uV uU tU tT tR tQ tP tM) (by kernel_rfl) (pr (by simp only [aDR];rfl) (al h))
def Gx:Rw S:=aj Mz xn fun qw Z=>aa k (Iw k qw) (aCH Z)
def Vy:Fx S:=fx 5 (fun _=>[]) (fun _=>false) [] [] k f170 true [] 0
theorem Ke (ho:ai o):Tl o 170 (Gx k:Rw S):=ow (Vy k) trivial func170 fun qw Z x h=>pA h
def A9:Rw S:=aj aBn fh fun t a f y c0 Z=>aa k (SM k t a f y c0) (aCL Z)
def Vz:Fx S:=fx 28 (fun _=>[]) (fun _=>false) [(140,OE k),(141,Gi k),(170,Gx k)] [] k f207 true [] 1
theorem Ed (ho:ai o):Tl o 207 (A9 k:Rw S):=ow (Vz k) ⟨Q5 k ho,JW k ho,Ke k ho,trivial⟩ func207 fun t a f y c0 Z x h=>pA h
def O_:Rw S:=aj aGm xn fun t a f y Z=>aa k (hS k t a f y) (BC Z)
def VA:Fx S:=fp 28 [(34,PL (dJ k)),(138,OH k),(145,OJ k),(207,A9 k)] [] k f205 0
theorem abl (ho:ai o):Tl o 205 (O_ k:Rw S):=ow (VA k) ⟨IQ o ho k,ga k ho,fg k ho,Ed k ho,trivial⟩ func205 fun t a f y Z x h=>pA h
def vJ:Rw S:=aj aBn fh fun t a f y c0 Z=>aa k (ih k t a f y c0) (AQ Z)
def CG:Fx S:=fp 24 [(81,P0 k),(82,IJ k),(205,O_ k)] [] k f165 1
theorem zL (ho:ai o):Tl o 165 (vJ k:Rw S):=ow (CG k) ⟨LR k ho,K6 k ho,abl k ho,trivial⟩ func165 fun t a f y c0 Z x h=>pA h
def vK:Rw S:=aj kX8 aAw fun sU c1 a7 q x z A B E F I J L M O T W Y ad ao ax az a6 Z=>aa k (D3 k sU c1 a7 q x z A B E F I J L M O T W Y ad ao ax az a6) (aHt c1 q x z A B E F I J L M O T W Y ad ao ax az a6 Z)
def CH:Fx S:=fx 43 (fun _=>[]) (fun _=>false) [(40,A3 k),(41,Ot k),(66,Oy k)] [] k f164 true [] 3
theorem zM (ho:ai o):Tl o 164 (vK k:Rw S):=ow (CH k) ⟨D_ k ho,Dh k ho,M9 k ho,trivial⟩ func164 fun sU c1 q z A B E F I J L M O T W Y ad ao ax az a6 a7 a8 Z x h=>pA h
def aHG:Rw S:=aj cZ o4 fun c2 zy uC ua tZ tY tX tW tV vk vj wq wm wi aq_ wc v8 v7 vn vm vl arg Z=>aa k (qt k c2 zy uC ua tZ tY tX tW tV vk vj wq wm wi aq_ wc v8 v7 vn vm vl arg) (aCM c2 uC ua tZ tY tX tW tV vk vj wq wm wi aq_ wc v8 v7 vn vm vl arg Z)
def Pa:Rw S:=aj cZ o4 fun c2 zy uC ua tZ tY tX tW tV vk vj wq wm wi aq_ wc v8 v7 vn vm vl arg Z=>aa k (qt k c2 zy uC ua tZ tY tX tW tV vk vj wq wm wi aq_ wc v8 v7 vn vm vl arg) (aHu Z)
def VB:Fx S:=fx 9 (fun _=>[]) (fun _=>false) [(164,vK k)] [] k f166 true [] 4
theorem aFn (ho:ai o):Tl o 166 (aHG k:Rw S):=ow (VB k) ⟨zM k ho,trivial⟩ func166 fun c2 zy uC ua tZ tY tX tW tV vk vj wq wm wi aq_ wc v8 v7 vn vm vl arg Z x h=>pA h
theorem abm (ho:ai o):Tl o 166 (Pa k:Rw S):=x9 (n:=3) (m:=1) (aFn k ho) fun c2 zy uC ua tZ tY tX tW tV vk vj wq wm wi aq_ wc v8 v7 vn vm vl arg Z x h=>pr (b:=aa k (qt k c2 zy uC ua tZ tY tX tW tV vk vj wq wm wi aq_ wc v8 v7 vn vm vl arg) (aCM c2 uC ua tZ tY tX tW tV vk vj wq wm wi aq_ wc v8 v7 vn vm vl arg (SN 3 1 [.cells [(.func 164 [] [(pt 1),(pt 2)])],.cells [(pt 3)],bT c2,.cells [(iI zy),(sC uC),(iI ua),(iI tZ),(.str tY),(sC tX),(sT tW),(sB tV),(sB vk),(iI vj),(iI wq),(.str wm),(sC wi),(sT aq_),(sB wc),(iI v8),(iI v7),(.str vn),(sC vm),(sT vl),(sB arg)]] Z))) (by kernel_rfl) (pr (congrArg (aa k (qt k c2 zy uC ua tZ tY tX tW tV vk vj wq wm wi aq_ wc v8 v7 vn vm vl arg)) (funext fun r=>if_pos ⟨rfl,rfl⟩)) h)
def Pb:Rw S:=aj aGn aJo fun oa nV oV oU pf oW o0 nX q uT uY uX uW uV uU tU tT tR tQ tP tM c3 Z=>aa k (u2 k oa nV oV oU pf oW o0 nX q uT uY uX uW uV uU tU tT tR tQ tP tM c3) (aHv nV oV oU pf oW o0 nX q uT uY uX uW uV uU tU tT tR tQ tP tM c3 Z)
def CI:Fx S:=fx 20 (fun _=>[]) (fun _=>false) [(42,OV k),(166,Pa k)] [] k f101 true [false,true] 4
theorem abn (ho:ai o):Tl o 101 (Pb k:Rw S):=ow (CI k) ⟨Ie k ho,abm k ho,trivial⟩ func101 fun oa nV oV oU pf oW o0 nX q uT uY uX uW uV uU tU tT tR tQ tP tM c3 Z x h=>pA h
def Pc:Rw S:=aj azp o4 fun b c2 zy uC ua tZ tY tX tW tV vk vj wq wm wi aq_ wc v8 v7 vn vm vl arg Z=>aa k (ay8 k b c2 zy uC ua tZ tY tX tW tV vk vj wq wm wi aq_ wc v8 v7 vn vm vl arg) (aHw c2 uC ua tZ tY tX tW tV vk vj wq wm wi aq_ wc v8 v7 vn vm vl arg Z)
def VC:Fx S:=fp 25 [(42,OV k),(66,Oy k),(164,vK k)] [] k f167 4
theorem abo (ho:ai o):Tl o 167 (Pc k:Rw S):=ow (VC k) ⟨Ie k ho,M9 k ho,zM k ho,trivial⟩ func167 fun b c2 zy uC ua tZ tY tX tW tV vk vj wq wm wi aq_ wc v8 v7 vn vm vl arg Z x h=>pA h
def Pd:Rw S:=aj aGo o4 fun l c2 zy uC ua tZ tY tX tW tV vk vj wq wm wi aq_ wc v8 v7 vn vm vl arg Z=>aa k (hh k l c2 zy uC ua tZ tY tX tW tV vk vj wq wm wi aq_ wc v8 v7 vn vm vl arg) (qF c2 uC ua tZ tY tX tW tV vk vj wq wm wi aq_ wc v8 v7 vn vm vl arg Z)
def CJ:Fx S:=fx 22 (fun _=>[]) (fun _=>false) [(167,Pc k)] [(3,⟨[(1,nU),(5,qu 100005),(8,nU),(9,nU),(10,nU)],[(1000000,[nU]),(1000001,[nU]),(1000002,[nU,nU,nU,nU,nU,nU]),(1000003,[nU,nU,nU,nU,nU,nU,nU,nU,nU,nU,nU,nU,nU,nU,nU,nU,nU,nU,nU,nU,nU])]⟩,ap 5 11)] k f112 false [true] 4
def MJ (c2:Tm) (uC:List Cl) (wq:Int) (wm:ByteArray) (wi:List Cl) (aq_:List Tm) (wc:List (Br Tm)) (v8 v7:Int) (vn:ByteArray) (vm:List Cl) (vl:List Tm) (ua:Int) (arg:List (Br Tm)) (tZ:Int) (tY:ByteArray) (tX:List Cl) (tW:List Tm) (tV vk:List (Br Tm)) (vj:Int) (l:List (Br Tm)) (x qn:Int) (q:List (Br Tm)):St UU:=⟨[(1,(.func 167 [] [(pt 1000000),(pt 1000001)])),(5,(.own 100005 0)),(8,(sB l)),(9,(iI l.length)),(10,(iI qn))],[(1000000,.cells [(.func 164 [] [(pt 1000001),(pt 1000002)])]),(1000001,.cells [(pt 1000003)]),(1000002,bT c2),(1000003,.cells [(iI x),(sC uC),(iI ua),(iI tZ),(.str tY),(sC tX),(sT tW),(sB tV),(sB vk),(iI vj),(iI wq),(.str wm),(sC wi),(sT aq_),(sB wc),(iI v8),(iI v7),(.str vn),(sC vm),(sT vl),(sB arg)])],[(100005,⟨0,ET.B,q⟩)],[(100005,.wr)]⟩
section
variable (k:Nat) (l:List (Br Tm)) (c2:Tm) (zy:Int) (uC:List Cl) (ua tZ:Int) (tY:ByteArray) (tX:List Cl) (tW:List Tm) (tV vk:List (Br Tm)) (vj wq:Int) (wm:ByteArray) (wi:List Cl) (aq_:List Tm) (wc:List (Br Tm)) (v8 v7:Int) (vn:ByteArray) (vm:List Cl) (vl:List Tm) (arg:List (Br Tm)) (Z:Out UU->Option S)
theorem Yg: ∀n x qn q,(CJ k).lp Z 3 [] n (MJ c2 uC wq wm wi aq_ wc v8 v7 vn vm vl ua arg tZ tY tX tW tV vk vj l x qn q)=Sz k (qF c2 uC ua tZ tY tX tW tV vk vj wq wm wi aq_ wc v8 v7 vn vm vl arg Z) c2 uC wq wm wi aq_ wc v8 v7 vn vm vl ua arg tZ tY tX tW tV vk vj l n x qn q:=EF (b' k (qF c2 uC ua tZ tY tX tW tV vk vj wq wm wi aq_ wc v8 v7 vn vm vl arg Z) c2 uC wq wm wi aq_ wc v8 v7 vn vm vl ua arg tZ tY tX tW tV vk vj l)
end
theorem abp (ho:ai o):Tl o 112 (Pd k:Rw S):=ow (CJ k) ⟨abo k ho,trivial⟩ func112 fun l c2 zy uC ua tZ tY tX tW tV vk vj wq wm wi aq_ wc v8 v7 vn vm vl arg Z x h=>pr (b:=aAd k (qF c2 uC ua tZ tY tX tW tV vk vj wq wm wi aq_ wc v8 v7 vn vm vl arg Z) (fun z qn q=>(CJ k).lp Z 3 [] k (MJ c2 uC wq wm wi aq_ wc v8 v7 vn vm vl ua arg tZ tY tX tW tV vk vj l z qn q)) l c2 zy uC ua tZ tY tX tW tV vk vj wq wm wi aq_ wc v8 v7 vn vm vl arg) (by kernel_rfl) (pr (by simp only [Yg];rfl) (al h))
def Gy:Rw S:=aj iv aJp fun t xz oa nV oV oU pf oW o0 nX q uT uY uX uW uV uU tU tT tR tQ tP tM Z=>aa k (q4 k t xz oa nV oV oU pf oW o0 nX q uT uY uX uW uV uU tU tT tR tQ tP tM) (aHx nV oV oU pf oW o0 nX q uT uY uX uW uV uU tU tT tR tQ tP tM Z)
def VE:Fx S:=fx 54 (fun _=>[]) (fun _=>false) [(41,Ot k),(96,Gr k),(101,Pb k),(103,qv k),(112,Pd k),(165,vJ k)] [] k f100 true [] 1
theorem Kf (ho:ai o):Tl o 100 (Gy k:Rw S):=ow (VE k) ⟨Dh k ho,J_ k ho,abn k ho,h3 k ho,abp k ho,zL k ho,trivial⟩ func100 fun t xz oa nV oV oU pf oW o0 nX q uT uY uX uW uV uU tU tT tR tQ tP tM Z x h=>pA h
def Gz:Rw S:=aj aBm qd fun b uD qW qT qR qM qK qJ rf sN rK sH rP rO rL sI sM sL sK sJ sP sO Z=>aa k (ay5 k b uD qW qT qR qM qK qJ rf sN rK sH rP rO rL sI sM sL sK sJ sP sO) (aHy qW qT qR qM qK qJ rf sN rK sH rP rO rL sI sM sL sK sJ sP sO Z)
def rZ:Fx S:=fx 14 (fun _=>[]) (fun _=>false) [(100,Gy k)] [] k f99 true [] 2
theorem Kg (ho:ai o):Tl o 99 (Gz k:Rw S):=ow (rZ k) ⟨Kf k ho,trivial⟩ func99 fun b uD qW qT qR qM qK qJ rf sN rK sH rP rO rL sI sM sL sK sJ sP sO Z x h=>pA h
def GA:Rw S:=aj aGp qd fun l uD qW qT qR qM qK qJ rf sN rK sH rP rO rL sI sM sL sK sJ sP sO Z=>aa k (mh k l uD qW qT qR qM qK qJ rf sN rK sH rP rO rL sI sM sL sK sJ sP sO) (hi qW qT qR qM qK qJ rf sN rK sH rP rO rL sI sM sL sK sJ sP sO Z)
def CL:Fx S:=fx 22 (fun _=>[]) (fun _=>false) [(99,Gz k)] [(3,⟨[(1,nU),(5,qu 100005),(8,nU),(9,nU),(10,nU)],[(1000000,[nU]),(1000001,[nU,nU,nU,nU,nU,nU,nU,nU,nU,nU,nU,nU,nU,nU,nU,nU,nU,nU,nU,nU,nU])]⟩,ap 5 11)] k f98 false [true] 2
def ML (qW:List Cl) (sH:Int) (rP:ByteArray) (rO:List Cl) (rL:List Tm) (sI:List (Br Tm)) (sM sL:Int) (sK:ByteArray) (sJ:List Cl) (sP:List Tm) (qT:Int) (sO:List (Br Tm)) (qR:Int) (qM:ByteArray) (qK:List Cl) (qJ:List Tm) (rf sN:List (Br Tm)) (rK:Int) (l:List (Br Tm)) (arm qn:Int) (q:List Tm):St UU:=⟨[(1,(.func 99 [] [(pt 1000000)])),(5,(.own 100005 0)),(8,(sB l)),(9,(iI l.length)),(10,(iI qn))],[(1000000,.cells [(pt 1000001)]),(1000001,.cells [(iI arm),(sC qW),(iI qT),(iI qR),(.str qM),(sC qK),(sT qJ),(sB rf),(sB sN),(iI rK),(iI sH),(.str rP),(sC rO),(sT rL),(sB sI),(iI sM),(iI sL),(.str sK),(sC sJ),(sT sP),(sB sO)])],[(100005,⟨0,ET.T,q⟩)],[(100005,.wr)]⟩
section
variable (k:Nat) (l:List (Br Tm)) (uD:Int) (qW:List Cl) (qT qR:Int) (qM:ByteArray) (qK:List Cl) (qJ:List Tm) (rf sN:List (Br Tm)) (rK sH:Int) (rP:ByteArray) (rO:List Cl) (rL:List Tm) (sI:List (Br Tm)) (sM sL:Int) (sK:ByteArray) (sJ:List Cl) (sP:List Tm) (sO:List (Br Tm)) (Z:Out UU->Option S)
theorem Yj: ∀n arm qn q,(CL k).lp Z 3 [] n (ML qW sH rP rO rL sI sM sL sK sJ sP qT sO qR qM qK qJ rf sN rK l arm qn q)=gn k (hi qW qT qR qM qK qJ rf sN rK sH rP rO rL sI sM sL sK sJ sP sO Z) qW sH rP rO rL sI sM sL sK sJ sP qT sO qR qM qK qJ rf sN rK l n arm qn q:=EF (hQ k (hi qW qT qR qM qK qJ rf sN rK sH rP rO rL sI sM sL sK sJ sP sO Z) qW sH rP rO rL sI sM sL sK sJ sP qT sO qR qM qK qJ rf sN rK l)
end
theorem Kh (ho:ai o):Tl o 98 (GA k:Rw S):=ow (CL k) ⟨Kg k ho,trivial⟩ func98 fun l uD qW qT qR qM qK qJ rf sN rK sH rP rO rL sI sM sL sK sJ sP sO Z x h=>pr (b:=aAc k (hi qW qT qR qM qK qJ rf sN rK sH rP rO rL sI sM sL sK sJ sP sO Z) (fun arm qn q=>(CL k).lp Z 3 [] k (ML qW sH rP rO rL sI sM sL sK sJ sP qT sO qR qM qK qJ rf sN rK l arm qn q)) l uD qW qT qR qM qK qJ rf sN rK sH rP rO rL sI sM sL sK sJ sP sO) (by kernel_rfl) (pr (by simp only [Yj];rfl) (al h))
def aHH:Rw S:=aj EX qd fun uD qW qT qR qM qK qJ rf sN rK sH rP rO rL sI sM sL sK sJ sP sO Z=>aa k (bF k uD qW qT qR qM qK qJ rf sN rK sH rP rO rL sI sM sL sK sJ sP sO) (aCN qW qT qR qM qK qJ rf sN rK sH rP rO rL sI sM sL sK sJ sP sO Z)
def Ph:Rw S:=aj EX qd fun uD qW qT qR qM qK qJ rf sN rK sH rP rO rL sI sM sL sK sJ sP sO Z=>aa k (bF k uD qW qT qR qM qK qJ rf sN rK sH rP rO rL sI sM sL sK sJ sP sO) (aHz Z)
def VG:Fx S:=fp 10 [(40,A3 k)] [] k f102 2
theorem aFo (ho:ai o):Tl o 102 (aHH k:Rw S):=ow (VG k) ⟨D_ k ho,trivial⟩ func102 fun uD qW qT qR qM qK qJ rf sN rK sH rP rO rL sI sM sL sK sJ sP sO Z x h=>pA h
theorem abt (ho:ai o):Tl o 102 (Ph k:Rw S):=x9 (n:=1) (m:=1) (aFo k ho) fun uD qW qT qR qM qK qJ rf sN rK sH rP rO rL sI sM sL sK sJ sP sO Z x h=>pr (b:=aa k (bF k uD qW qT qR qM qK qJ rf sN rK sH rP rO rL sI sM sL sK sJ sP sO) (aCN qW qT qR qM qK qJ rf sN rK sH rP rO rL sI sM sL sK sJ sP sO (SN 1 1 [.cells [(pt 1)],.cells [(iI uD),(sC qW),(iI qT),(iI qR),(.str qM),(sC qK),(sT qJ),(sB rf),(sB sN),(iI rK),(iI sH),(.str rP),(sC rO),(sT rL),(sB sI),(iI sM),(iI sL),(.str sK),(sC sJ),(sT sP),(sB sO)]] Z))) (by kernel_rfl) (pr (congrArg (aa k (bF k uD qW qT qR qM qK qJ rf sN rK sH rP rO rL sI sM sL sK sJ sP sO)) (funext fun r=>if_pos ⟨rfl,rfl⟩)) h)
def Pi:Rw S:=aj aGq aJq fun oa nV oV oU pf oW o0 nX q uT uY uX uW uV uU tU tT tR tQ tP tM Z=>aa k (kv k oa nV oV oU pf oW o0 nX q uT uY uX uW uV uU tU tT tR tQ tP tM) (aHA nV oV oU pf oW o0 nX q uT uY uX uW uV uU tU tT tR tQ tP tM Z)
def r_:Fx S:=fx 20 (fun _=>[]) (fun _=>false) [(42,OV k),(102,Ph k)] [] k f101 true [false,true] 2
theorem abu (ho:ai o):Tl o 101 (Pi k:Rw S):=ow (r_ k) ⟨Ie k ho,abt k ho,trivial⟩ func101 fun oa nV oV oU pf oW o0 nX q uT uY uX uW uV uU tU tT tR tQ tP tM Z x h=>pA h
def Pj:Rw S:=aj Ey xn fun t Z=>aa k (b6 k t) (AX Z)
def VH:Fx S:=fp 165 [(14,PK k),(34,PL (dJ k)),(35,Gg k),(40,A3 k),(41,Ot k),(42,OV k),(65,Oq k),(66,Oy k),(96,Gr k),(97,Gw k),(98,GA k),(101,Pi k),(103,qv k)] [(16,⟨[(2,nU),(6,nU),(8,qu 100008),(9,some (100009,false)),(10,qu 100010),(77,nU),(78,nU),(79,nU)],[(2,[nU,nU,nU,qu 200131,qu 200132,qu 200133]),(6,[nU]),(43,[nU,nU,nU,nU,nU,nU,nU,nU,nU,nU,nU,nU,nU,nU,nU,nU,nU,nU,nU,nU,nU])]⟩,ap 14 6143)] k f48 0
def aBQ (r3:Tm) (r6:Int×List (Br Tm)×Int×Int×ByteArray×List Cl×List Tm×List (Br Tm)) (x4:Tm) (r8:Tm×Int) (z A E:Int) (F:ByteArray) (I:List Cl) (J:List Tm) (L q:List (Br Tm)) (H7:Int) (M:List Tm) (x:List (Br Tm)):St UU:=⟨[(2,(pt 2)),(6,(pt 6)),(8,(.own 100008 0)),(9,(.own 100009 0)),(10,(.own 100010 0)),(77,(sB r8.1.s)),(78,(iI r8.1.s.length)),(79,(iI H7))],[(2,.cells [(iI 0),(iI 0),zx,(.own 200131 0),(.own 200132 0),(.own 200133 0)]),(6,.cells [(pt 43)]),(43,.cells [(iI z),(sC r3.r),(iI x4.k),(iI x4.n),(.str x4.name),(sC x4.r),(sT x4.c),(sB x4.s),(sB r6.2.1),(iI r6.2.2.1),(iI r6.2.2.2.1),(.str r6.2.2.2.2.1),(sC r6.2.2.2.2.2.1),(sT r6.2.2.2.2.2.2.1),(sB r6.2.2.2.2.2.2.2),(iI A),(iI E),(.str F),(sC I),(sT J),(sB L)])],[(200133,xR),(200132,zo),(200131,xZ),(100010,⟨0,ET.B,q⟩),(100009,⟨0,ET.B,x⟩),(100008,⟨0,ET.T,M⟩)],[(200133,.wr),(200132,.wr),(200131,.wr),(100010,.wr),(100009,.app),(100008,.wr)]⟩
section
variable (k:Nat) (t:Tm) (Z:Out UU->Option S)
theorem aDT (r3 r6 x4 r8): ∀n z A B E F I J q H7 L x,(VH k).lp Z 16 [] n (aBQ r3 r6 x4 r8 z A B E F I J q H7 L x)=RE k (AX Z) r3 r6 x4 r8 n z A B E F I J q H7 L x:=aG2 (w3 k (AX Z) r3 r6 x4 r8)
end
theorem abv (ho:ai o):Tl o 48 (Pj k:Rw S):=ow (VH k) ⟨H5 k ho,IQ o ho k,SK k ho,D_ k ho,Dh k ho,Ie k ho,l3 k ho,M9 k ho,J_ k ho,Kd k ho,Kh k ho,abu k ho,h3 k ho,trivial⟩ func48 fun t Z x h=>pr (b:=az9 k (AX Z) (fun O T x4 W A B E F I J L q H7 M z=>(VH k).lp Z 16 [] k (aBQ O T x4 W A B E F I J L q H7 M z)) t) (by kernel_rfl) (pr (by simp only [aDT];rfl) (al h))
def Pk:Rw S:=aj Ey xn fun t Z=>aa k (hz k t) (AX Z)
def CM:Fx S:=fp 100 [(14,PK k),(34,PL (dJ k)),(35,Gg k),(44,O2 k),(45,amL k),(46,anB k),(47,vG k),(48,Pj k)] [] k f22 0
theorem abw (ho:ai o):Tl o 22 (Pk k:Rw S):=ow (CM k) ⟨H5 k ho,IQ o ho k,SK k ho,abd k ho,amQ k ho,um k ho,zI k ho,abv k ho,trivial⟩ func22 fun t Z x h=>pA h
def Pl:Rw S:=aj azq aAx fun u uD qW qT qR qM qK qJ rf Z=>aa k (c5 k u uD qW qT qR qM qK qJ rf) (aCO qW qT qR qM qK qJ rf Z)
def VI:Fx S:=fp 13 [(40,A3 k),(41,Ot k),(63,OX k)] [] k f105 2
theorem abx (ho:ai o):Tl o 105 (Pl k:Rw S):=ow (VI k) ⟨D_ k ho,Dh k ho,th k ho,trivial⟩ func105 fun u uD qW qT qR qM qK qJ rf Z x h=>pA h
def aHI:Rw S:=aj aBo h5 fun oa nV oV oU pf oW o0 nX Z=>aa k (h8 k oa nV oV oU pf oW o0 nX) (MY nV oV oU pf oW o0 nX Z)
def Pm:Rw S:=aj aBo h5 fun oa nV oV oU pf oW o0 nX Z=>aa k (h8 k oa nV oV oU pf oW o0 nX) (aCP Z)
def aQs:Fx S:=fp 31 [(42,OV k),(105,Pl k)] [(3,⟨[(1,nU),(5,qu 100005),(11,nU),(12,nU),(13,nU)],[(1000000,[nU,nU,nU,nU,nU,nU,nU,nU]),(1000001,[nU])]⟩,ap 5 11)] k f104 2
def vd (nV oV:Int) (oU:ByteArray) (pf:List Cl) (oW:List Tm) (o0 nX:List (Br Tm)) (x z:Int) (q:List (Br Tm)):St UU:=⟨[(1,(.func 105 [] [(pt 1000001)])),(5,(.own 100005 0)),(11,(sB nX)),(12,(iI nX.length)),(13,(iI z))],[(1000000,.cells [(iI x),(iI nV),(iI oV),(.str oU),(sC pf),(sT oW),(sB o0),(sB nX)]),(1000001,.cells [(pt 1000000)])],[(100005,⟨0,ET.B,q⟩)],[(100005,.wr)]⟩
section
variable (k:Nat) (oa nV oV:Int) (oU:ByteArray) (pf:List Cl) (oW:List Tm) (o0 nX:List (Br Tm)) (Z:Out UU->Option S)
theorem Yn: ∀n x z q,(aQs k).lp Z 3 [] n (vd nV oV oU pf oW o0 nX x z q)=qa k (MY nV oV oU pf oW o0 nX Z) nV oV oU pf oW o0 nX n x z q:=EF (xo k (MY nV oV oU pf oW o0 nX Z) nV oV oU pf oW o0 nX)
end
theorem aFp (ho:ai o):Tl o 104 (aHI k:Rw S):=ow (aQs k) ⟨Ie k ho,abx k ho,trivial⟩ func104 fun oa nV oV oU pf oW o0 nX Z x h=>pr (b:=aAf k (MY nV oV oU pf oW o0 nX Z) (fun z A q=>(aQs k).lp Z 3 [] k (vd nV oV oU pf oW o0 nX z A q)) oa nV oV oU pf oW o0 nX) (by kernel_rfl) (pr (by simp only [Yn];rfl) (al h))
theorem aby (ho:ai o):Tl o 104 (Pm k:Rw S):=x9 (n:=0) (m:=1) (aFp k ho) fun oa nV oV oU pf oW o0 nX Z x h=>pr (b:=aa k (h8 k oa nV oV oU pf oW o0 nX) (MY nV oV oU pf oW o0 nX (SN 0 1 [.cells [(iI oa),(iI nV),(iI oV),(.str oU),(sC pf),(sT oW),(sB o0),(sB nX)],.cells [(pt 0)]] Z))) (by kernel_rfl) (pr (congrArg (aa k (h8 k oa nV oV oU pf oW o0 nX)) (funext fun r=>if_pos ⟨rfl,rfl⟩)) h)
def Pn:Rw S:=aj Ls h4 fun t oa nV oV oU pf oW o0 nX Z=>aa k (b3 k t oa nV oV oU pf oW o0 nX) (l4 nV oV oU pf oW o0 nX Z)
def VJ:Fx S:=fx 31 (fun _=>[]) (fun _=>false) [(40,A3 k),(41,Ot k),(63,OX k),(96,Gr k),(104,Pm k)] [] k f49 true [] 1
theorem abz (ho:ai o):Tl o 49 (Pn k:Rw S):=ow (VJ k) ⟨D_ k ho,Dh k ho,th k ho,J_ k ho,aby k ho,trivial⟩ func49 fun t oa nV oV oU pf oW o0 nX Z x h=>pA h
def Po:Rw S:=aj azq fh fun u c0 Z=>aa k (aza k u c0) (aHB c0 Z)
def CN:Fx S:=fp 9 [(41,Ot k)] [] k f107 1
theorem abA (ho:ai o):Tl o 107 (Po k:Rw S):=ow (CN k) ⟨Dh k ho,trivial⟩ func107 fun u c0 Z x h=>pA h
def aHJ:Rw S:=aj aBp aDw fun oa nV oV oU pf oW o0 nX c1 Z=>aa k (G1 k oa nV oV oU pf oW o0 nX c1) (f' oa nV oV oU pf oW o0 nX c1 Z)
def Pq:Rw S:=aj aBp aDw fun oa nV oV oU pf oW o0 nX c1 Z=>aa k (G1 k oa nV oV oU pf oW o0 nX c1) (aCJ Z)
def CO:Fx S:=fp 31 [(42,OV k),(107,Po k)] [(3,⟨[(1,nU),(5,qu 100005),(11,nU),(12,nU),(13,nU)],[(1000000,[nU,nU,nU,nU,nU,nU,nU,nU]),(1000001,[nU])]⟩,ap 5 11)] k f104 2
def MS (oa nV oV:Int) (oU:ByteArray) (pf:List Cl) (oW:List Tm) (o0 nX:List (Br Tm)) (c1:Int) (x:Int) (q:List (Br Tm)):St UU:=⟨[(1,(.func 107 [] [(pt 1000001)])),(5,(.own 100005 0)),(11,(sB nX)),(12,(iI nX.length)),(13,(iI x))],[(1000000,.cells [(iI oa),(iI nV),(iI oV),(.str oU),(sC pf),(sT oW),(sB o0),(sB nX)]),(1000001,bI c1)],[(100005,⟨0,ET.B,q⟩)],[(100005,.wr)]⟩
section
variable (k:Nat) (oa nV oV:Int) (oU:ByteArray) (pf:List Cl) (oW:List Tm) (o0 nX:List (Br Tm)) (c1:Int) (Z:Out UU->Option S)
theorem Yr: ∀n x q,(CO k).lp Z 3 [] n (MS oa nV oV oU pf oW o0 nX c1 x q)=qp k (f' oa nV oV oU pf oW o0 nX c1 Z) oa nV oV oU pf oW o0 nX c1 n x q:=aL (l1 k (f' oa nV oV oU pf oW o0 nX c1 Z) oa nV oV oU pf oW o0 nX c1)
end
theorem aFq (ho:ai o):Tl o 104 (aHJ k:Rw S):=ow (CO k) ⟨Ie k ho,abA k ho,trivial⟩ func104 fun oa nV oV oU pf oW o0 nX c1 Z x h=>pr (b:=aAh k (f' oa nV oV oU pf oW o0 nX c1 Z) (fun z q=>(CO k).lp Z 3 [] k (MS oa nV oV oU pf oW o0 nX c1 z q)) oa nV oV oU pf oW o0 nX c1) (by kernel_rfl) (pr (by simp only [Yr];rfl) (al h))
theorem abC (ho:ai o):Tl o 104 (Pq k:Rw S):=tlS (aFq k ho) fun oa nV oV oU pf oW o0 nX c1 Z x h=>pr (b:=aa k (G1 k oa nV oV oU pf oW o0 nX c1) (f' oa nV oV oU pf oW o0 nX c1 (DB _ Z))) (by kernel_rfl) (pr (congrArg (aa k (G1 k oa nV oV oU pf oW o0 nX c1)) (funext fun r=>if_pos rfl)) h)
def aCR:Rw S:=aj Ln aAx fun kind uD qW qT qR qM qK qJ rf Z=>aa k (w4 k kind uD qW qT qR qM qK qJ rf) (aHC uD qW qT qR qM qK qJ rf Z)
def mQ:Fx S:=fx 15 (fun _=>[]) (fun _=>false) [(41,Ot k),(104,Pq k)] [] k f106 true [] 2
theorem aFr (ho:ai o):Tl o 106 (aCR k:Rw S):=ow (mQ k) ⟨Dh k ho,abC k ho,trivial⟩ func106 fun kind uD qW qT qR qM qK qJ rf Z x h=>pA h
def GC:Rw S:=aj Ls h4 fun t oa nV oV oU pf oW o0 nX Z=>aa k (tc k t oa nV oV oU pf oW o0 nX) (l4 nV oV oU pf oW o0 nX Z)
def VL:Fx S:=fx 63 (fun _=>[]) (fun _=>false) [(36,OP k),(37,OT k),(38,P1 k),(41,Ot k),(43,A4 k),(96,Gr k),(106,aCR k)] [] k f50 true [] 1
theorem Ki (ho:ai o):Tl o 50 (GC k:Rw S):=ow (VL k) ⟨aa1 k ho,aa5 k ho,gk k ho,Dh k ho,hN k ho,J_ k ho,aFr k ho,trivial⟩ func50 fun t oa nV oV oU pf oW o0 nX Z x h=>pA h
def GD:Rw S:=aj Ls h4 fun t oa nV oV oU pf oW o0 nX Z=>aa k (x8 k t oa nV oV oU pf oW o0 nX) (l4 nV oV oU pf oW o0 nX Z)
def VM:Fx S:=fx 128 (fun _=>[]) (fun _=>false) [(40,A3 k),(41,Ot k),(42,OV k),(66,Oy k),(94,L' k),(95,O4 k),(96,Gr k)] [(7,⟨[(0,nU),(3,nU),(4,nU),(5,nU),(6,nU),(9,nU),(10,qu 100010),(51,nU),(52,nU),(53,nU)],[(3,[nU,nU,nU,nU,nU,nU]),(4,[nU,nU,nU,qu 200259,qu 200260,qu 200261]),(5,[nU,nU,nU,nU,nU,nU]),(6,[nU,nU,nU,nU,nU,nU]),(9,[nU,nU,nU,nU,nU,qu 200581]),(1000000,[nU,nU,nU,nU,nU,nU,nU,nU])]⟩,ap 9 191)] k f51 true [] 1
def aBR (nV oV:Int) (oU:ByteArray) (pf:List Cl) (oW:List Tm) (o0 nX:List (Br Tm)) (t x1 x2:Tm) (r6:Int×Int×ByteArray×List Cl×List Tm) (x:Int) (q:List (Br Tm)) (v53:Int):St UU:=⟨[(0,(pt 1000000)),(3,(pt 3)),(4,(pt 4)),(5,(pt 5)),(6,(pt 6)),(9,(pt 9)),(10,(.own 100010 0)),(51,(sB nX)),(52,(iI nX.length)),(53,(iI v53))],[(3,bT t),(4,.cells [(iI 0),(iI 0),zx,(.own 200259 0),(.own 200260 0),(.own 200261 0)]),(5,bT x1),(6,bT x2),(9,.cells [(iI r6.1),(iI r6.2.1),(.str r6.2.2.1),(sC r6.2.2.2.1),(sT r6.2.2.2.2),(.own 200581 0)]),(1000000,.cells [(iI x),(iI nV),(iI oV),(.str oU),(sC pf),(sT oW),(sB o0),(sB nX)])],[(200581,xR),(200261,xR),(200260,zo),(200259,xZ),(100010,⟨0,ET.B,q⟩)],[(200581,.wr),(200261,.wr),(200260,.wr),(200259,.wr),(100010,.wr)]⟩
section
variable (k:Nat) (t:Tm) (oa nV oV:Int) (oU:ByteArray) (pf:List Cl) (oW:List Tm) (o0 nX:List (Br Tm)) (Z:Out UU->Option S)
theorem aDU (x1 x2 r6): ∀n x q v53,(VM k).lp Z 7 [] n (aBR nV oV oU pf oW o0 nX t x1 x2 r6 x q v53)=jq k (l4 nV oV oU pf oW o0 nX Z) nV oV oU pf oW o0 nX t x1 x2 r6 n x q v53:=EF (K' k (l4 nV oV oU pf oW o0 nX Z) nV oV oU pf oW o0 nX t x1 x2 r6)
end
theorem Kj (ho:ai o):Tl o 51 (GD k:Rw S):=ow (VM k) ⟨D_ k ho,Dh k ho,Ie k ho,M9 k ho,pK k ho,abf k ho,J_ k ho,trivial⟩ func51 fun t oa nV oV oU pf oW o0 nX Z x h=>pr (b:=aAe k (l4 nV oV oU pf oW o0 nX Z) (fun x1 x2 A z q v53=>(VM k).lp Z 7 [] k (aBR nV oV oU pf oW o0 nX t x1 x2 A z q v53)) t oa nV oV oU pf oW o0 nX) (by kernel_rfl) (pr (by simp only [aDU];rfl) (al h))
def GE:Rw S:=aj Ls fh fun t c0 Z=>aa k (c9 k t c0) (aCL Z)
def VN:Fx S:=fx 20 (fun _=>[]) (fun _=>false) [(140,OE k),(141,Gi k),(170,Gx k)] [] k f206 true [] 1
theorem Kk (ho:ai o):Tl o 206 (GE k:Rw S):=ow (VN k) ⟨Q5 k ho,JW k ho,Ke k ho,trivial⟩ func206 fun t c0 Z x h=>pA h
def Pr:Rw S:=aj azr xn fun t a Z=>aa k (ec k t a) (BC Z)
def CQ:Fx S:=fp 47 [(34,PL (dJ k)),(138,OH k),(140,OE k),(141,Gi k),(145,OJ k),(170,Gx k),(206,GE k),(207,A9 k)] [] k f168 0
theorem abD (ho:ai o):Tl o 168 (Pr k:Rw S):=ow (CQ k) ⟨IQ o ho k,ga k ho,Q5 k ho,JW k ho,fg k ho,Ke k ho,Kk k ho,Ed k ho,trivial⟩ func168 fun t a Z x h=>pA h
def A_:Rw S:=aj iv fh fun t a c0 Z=>aa k (Ao k t a c0) (AQ Z)
def VO:Fx S:=fp 18 [(81,P0 k),(82,IJ k),(168,Pr k)] [] k f109 1
theorem Ee (ho:ai o):Tl o 109 (A_ k:Rw S):=ow (VO k) ⟨LR k ho,K6 k ho,abD k ho,trivial⟩ func109 fun t a c0 Z x h=>pA h
def Ps:Rw S:=aj eo xn fun rm Z=>aa k (ay2 k rm) (aHD Z)
def VQ:Fx S:=fx 13 (fun _=>[]) (fun _=>false) [(140,OE k),(170,Gx k)] [] k f169 true [] 0
theorem abE (ho:ai o):Tl o 169 (Ps k:Rw S):=ow (VQ k) ⟨Q5 k ho,Ke k ho,trivial⟩ func169 fun rm Z x h=>pA h
def Pt:Rw S:=aj cn xn fun Z=>aa k (ys k) (aE Z)
def VR:Fx S:=fx 37 (fun _=>[]) (fun _=>false) [(140,OE k),(169,Ps k),(170,Gx k)] [] k f110 true [] 0
theorem abF (ho:ai o):Tl o 110 (Pt k:Rw S):=ow (VR k) ⟨Q5 k ho,abE k ho,Ke k ho,trivial⟩ func110 fun Z x h=>pA h
def GF:Rw S:=aj azq aAx fun u uD qW qT qR qM qK qJ rf Z=>aa k (azb k u uD qW qT qR qM qK qJ rf) (aCO qW qT qR qM qK qJ rf Z)
def jP:Fx S:=fp 30 [(40,A3 k),(41,Ot k),(65,Oq k),(109,A_ k),(110,Pt k)] [] k f108 2
theorem aFs (ho:ai o):Tl o 108 (GF k:Rw S):=ow (jP k) ⟨D_ k ho,Dh k ho,l3 k ho,Ee k ho,abF k ho,trivial⟩ func108 fun u uD qW qT qR qM qK qJ rf Z x h=>pA h
def aHK:Rw S:=aj aBq h5 fun oa nV oV oU pf oW o0 nX Z=>aa k (ts k oa nV oV oU pf oW o0 nX) (MY nV oV oU pf oW o0 nX Z)
def Pv:Rw S:=aj aBq h5 fun oa nV oV oU pf oW o0 nX Z=>aa k (ts k oa nV oV oU pf oW o0 nX) (aCP Z)
def CR:Fx S:=fp 31 [(42,OV k),(108,GF k)] [(3,⟨[(1,nU),(5,qu 100005),(11,nU),(12,nU),(13,nU)],[(1000000,[nU,nU,nU,nU,nU,nU,nU,nU]),(1000001,[nU])]⟩,ap 5 11)] k f104 2
def MX (nV oV:Int) (oU:ByteArray) (pf:List Cl) (oW:List Tm) (o0 nX:List (Br Tm)) (x z:Int) (q:List (Br Tm)):St UU:=⟨[(1,(.func 108 [] [(pt 1000001)])),(5,(.own 100005 0)),(11,(sB nX)),(12,(iI nX.length)),(13,(iI z))],[(1000000,.cells [(iI x),(iI nV),(iI oV),(.str oU),(sC pf),(sT oW),(sB o0),(sB nX)]),(1000001,.cells [(pt 1000000)])],[(100005,⟨0,ET.B,q⟩)],[(100005,.wr)]⟩
section
variable (k:Nat) (oa nV oV:Int) (oU:ByteArray) (pf:List Cl) (oW:List Tm) (o0 nX:List (Br Tm)) (Z:Out UU->Option S)
theorem YA: ∀n x z q,(CR k).lp Z 3 [] n (MX nV oV oU pf oW o0 nX x z q)=mw k (MY nV oV oU pf oW o0 nX Z) nV oV oU pf oW o0 nX n x z q:=EF (Z1 k (MY nV oV oU pf oW o0 nX Z) nV oV oU pf oW o0 nX)
end
theorem aFt (ho:ai o):Tl o 104 (aHK k:Rw S):=ow (CR k) ⟨Ie k ho,aFs k ho,trivial⟩ func104 fun oa nV oV oU pf oW o0 nX Z x h=>pr (b:=ao k (MY nV oV oU pf oW o0 nX Z) (fun z A q=>(CR k).lp Z 3 [] k (MX nV oV oU pf oW o0 nX z A q)) oa nV oV oU pf oW o0 nX) (by kernel_rfl) (pr (by simp only [YA];rfl) (al h))
theorem abH (ho:ai o):Tl o 104 (Pv k:Rw S):=x9 (n:=0) (m:=1) (aFt k ho) fun oa nV oV oU pf oW o0 nX Z x h=>pr (b:=aa k (ts k oa nV oV oU pf oW o0 nX) (MY nV oV oU pf oW o0 nX (SN 0 1 [.cells [(iI oa),(iI nV),(iI oV),(.str oU),(sC pf),(sT oW),(sB o0),(sB nX)],.cells [(pt 0)]] Z))) (by kernel_rfl) (pr (congrArg (aa k (ts k oa nV oV oU pf oW o0 nX)) (funext fun r=>if_pos ⟨rfl,rfl⟩)) h)
def Pw:Rw S:=aj EX h4 fun oa nV oV oU pf oW o0 nX Z=>aa k (w2 k oa nV oV oU pf oW o0 nX) (aHh nV oV oU pf oW o0 nX Z)
def CS:Fx S:=fx 12 (fun _=>[]) (fun _=>false) [(96,Gr k),(104,Pv k)] [] k f52 true [] 1
theorem abI (ho:ai o):Tl o 52 (Pw k:Rw S):=ow (CS k) ⟨J_ k ho,abH k ho,trivial⟩ func52 fun oa nV oV oU pf oW o0 nX Z x h=>pA h
def GG:Rw S:=aj azp aDx fun sU c1 c2 Z=>aa k (h7 k sU c1 c2) (aHi c1 Z)
def gW:Fx S:=fp 22 [(40,A3 k),(41,Ot k),(42,OV k),(114,Gt k)] [] k f113 3
theorem aFu (ho:ai o):Tl o 113 (GG k:Rw S):=ow (gW k) ⟨D_ k ho,Dh k ho,Ie k ho,Ka k ho,trivial⟩ func113 fun sU c1 c2 Z x h=>pA h
def Px:Rw S:=aj aGr aDx fun l c1 c2 Z=>aa k (aAQ k l c1 c2) (D1 c1 Z)
def VT:Fx S:=fx 22 (fun _=>[]) (fun _=>false) [(113,GG k)] [(3,⟨[(1,nU),(5,qu 100005),(8,nU),(9,nU),(10,nU)],[(1000000,[nU]),(1000001,[nU]),(1000002,[nU])]⟩,ap 5 11)] k f112 false [true] 3
def aBT (c1 l:List (Br Tm)) (x qn:Int) (q:List (Br Tm)):St UU:=⟨[(1,(.func 113 [] [(pt 1000000),(pt 1000001)])),(5,(.own 100005 0)),(8,(sB l)),(9,(iI l.length)),(10,(iI qn))],[(1000000,.cells [(pt 1000002)]),(1000001,.cells [(sB c1)]),(1000002,bI x)],[(100005,⟨0,ET.B,q⟩)],[(100005,.wr)]⟩
section
variable (k:Nat) (l c1:List (Br Tm)) (c2:Int) (Z:Out UU->Option S)
theorem aDX: ∀n x qn q,(VT k).lp Z 3 [] n (aBT c1 l x qn q)=iz k (D1 c1 Z) c1 l n x qn q:=EF (b2 k (D1 c1 Z) c1 l)
end
theorem abJ (ho:ai o):Tl o 112 (Px k:Rw S):=ow (VT k) ⟨aFu k ho,trivial⟩ func112 fun l c1 c2 Z x h=>pr (b:=aDn k (D1 c1 Z) (fun z qn q=>(VT k).lp Z 3 [] k (aBT c1 l z qn q)) l c1 c2) (by kernel_rfl) (pr (by simp only [aDX];rfl) (al h))
def Py:Rw S:=aj aGs aAy fun sU c1 c2 c3 Z=>aa k (o7 k sU c1 c2 c3) (aHj c1 c2 Z)
def CT:Fx S:=fp 30 [(36,OP k),(40,A3 k),(41,Ot k),(42,OV k),(103,qv k)] [] k f115 4
theorem abK (ho:ai o):Tl o 115 (Py k:Rw S):=ow (CT k) ⟨aa1 k ho,D_ k ho,Dh k ho,Ie k ho,h3 k ho,trivial⟩ func115 fun sU c1 c2 c3 Z x h=>pA h
def Pz:Rw S:=aj aBr aAy fun l c1 c2 c3 Z=>aa k (ay9 k l c1 c2 c3) (IF c1 c2 Z)
def VU:Fx S:=fx 22 (fun _=>[]) (fun _=>false) [(115,Py k)] [(3,⟨[(1,nU),(5,qu 100005),(8,nU),(9,nU),(10,nU)],[(1000000,[nU]),(1000001,[nU,nU,nU,nU,nU,nU]),(1000002,[nU,nU,nU,nU,nU,nU]),(1000003,[nU])]⟩,ap 5 11)] k f112 false [true] 4
def aBU (c1 c2:Tm) (l:List (Br Tm)) (x qn:Int) (q:List (Br Tm)):St UU:=⟨[(1,(.func 115 [] [(pt 1000000),(pt 1000001),(pt 1000002)])),(5,(.own 100005 0)),(8,(sB l)),(9,(iI l.length)),(10,(iI qn))],[(1000000,.cells [(pt 1000003)]),(1000001,bT c1),(1000002,bT c2),(1000003,bI x)],[(100005,⟨0,ET.B,q⟩)],[(100005,.wr)]⟩
section
variable (k:Nat) (l:List (Br Tm)) (c1 c2:Tm) (c3:Int) (Z:Out UU->Option S)
theorem aDY: ∀n x qn q,(VU k).lp Z 3 [] n (aBU c1 c2 l x qn q)=je k (IF c1 c2 Z) c1 c2 l n x qn q:=EF (Is k (IF c1 c2 Z) c1 c2 l)
end
theorem abL (ho:ai o):Tl o 112 (Pz k:Rw S):=ow (VU k) ⟨abK k ho,trivial⟩ func112 fun l c1 c2 c3 Z x h=>pr (b:=aDm k (IF c1 c2 Z) (fun z qn q=>(VU k).lp Z 3 [] k (aBU c1 c2 l z qn q)) l c1 c2 c3) (by kernel_rfl) (pr (by simp only [aDY];rfl) (al h))
def PA:Rw S:=aj azp aAz fun sU c0 c1 Z=>aa k (ay6 k sU c0 c1) (aHk c0 c1 Z)
def mR:Fx S:=fp 18 [(42,OV k),(96,Gr k)] [] k f116 2
theorem abM (ho:ai o):Tl o 116 (PA k:Rw S):=ow (mR k) ⟨Ie k ho,J_ k ho,trivial⟩ func116 fun sU c0 c1 Z x h=>pA h
def PB:Rw S:=aj aBs aAz fun l c0 c1 Z=>aa k (hG k l c0 c1) (dx c0 c1 Z)
def ayU:Fx S:=fx 22 (fun _=>[]) (fun _=>false) [(116,PA k)] [(3,⟨[(1,nU),(5,qu 100005),(8,nU),(9,nU),(10,nU)],[(1000000,[nU,nU,nU,nU,nU,nU]),(1000001,[nU,nU,nU,nU,nU,nU])]⟩,ap 5 11)] k f112 false [true] 2
def aBV (c0 c1:Tm) (l:List (Br Tm)) (qn:Int) (q:List (Br Tm)):St UU:=⟨[(1,(.func 116 [] [(pt 1000000),(pt 1000001)])),(5,(.own 100005 0)),(8,(sB l)),(9,(iI l.length)),(10,(iI qn))],[(1000000,bT c0),(1000001,bT c1)],[(100005,⟨0,ET.B,q⟩)],[(100005,.wr)]⟩
section
variable (k:Nat) (l:List (Br Tm)) (c0 c1:Tm) (Z:Out UU->Option S)
theorem aDZ: ∀n qn q,(ayU k).lp Z 3 [] n (aBV c0 c1 l qn q)=kq k (dx c0 c1 Z) c0 c1 l n qn q:=aL (J1 k (dx c0 c1 Z) c0 c1 l)
end
theorem abN (ho:ai o):Tl o 112 (PB k:Rw S):=ow (ayU k) ⟨abM k ho,trivial⟩ func112 fun l c0 c1 Z x h=>pr (b:=aAb k (dx c0 c1 Z) (fun qn q=>(ayU k).lp Z 3 [] k (aBV c0 c1 l qn q)) l c0 c1) (by kernel_rfl) (pr (by simp only [aDZ];rfl) (al h))
def PC:Rw S:=aj Ey xn fun t Z=>aa k (qx k t) (AX Z)
def VX:Fx S:=fp 79 [(14,PK k),(34,PL (dJ k)),(35,Gg k),(96,Gr k),(111,anC k),(112,ol (uy aBs aAz) (PB k) (ol (uy aBr aAy) (Pz k) (Px k))),(114,Gt k)] [] k f53 0
theorem abO (ho:ai o):Tl o 53 (PC k:Rw S):=ow (VX k) ⟨H5 k ho,IQ o ho k,SK k ho,J_ k ho,uo k ho,vw (abN k ho) (vw (abL k ho) (abJ k ho)),Ka k ho,trivial⟩ func53 fun t Z x h=>pA h
def PD:Rw S:=aj Ey xn fun t Z=>aa k (cG k t) (AX Z)
def VY:Fx S:=fp 89 [(14,PK k),(34,PL (dJ k)),(35,Gg k),(49,Pn k),(50,GC k),(51,GD k),(52,Pw k),(53,PC k)] [] k f23 0
theorem abP (ho:ai o):Tl o 23 (PD k:Rw S):=ow (VY k) ⟨H5 k ho,IQ o ho k,SK k ho,abz k ho,Ki k ho,Kj k ho,abI k ho,abO k ho,trivial⟩ func23 fun t Z x h=>pA h
def aoz:Rw S:=aj adZ xn fun defs t Z=>aa k (a_ k defs t) (AX Z)
def ir:Fx S:=fp 79 [(14,PK k),(20,vE k),(21,A5 k),(22,Pk k),(23,PD k),(24,OD k)] [(7,⟨[(0,nU),(3,nU),(4,nU),(8,nU),(9,nU),(10,nU),(20,nU)],[(3,[nU,nU,nU,nU,nU,nU]),(4,[nU,nU,nU,qu 200259,qu 200260,qu 200261]),(8,[nU,nU,nU,nU,nU,nU])]⟩,ap 9 189),(1000022,⟨[(0,nU),(3,nU),(4,nU)],[(3,[nU,nU,nU,nU,nU,nU]),(4,[nU,nU,nU,qu 200259,qu 200260,qu 200261])]⟩,ap 8 253)] k f13 0
def aox (t:Tm) (defs:List Df) (z A:Int) (B:ByteArray) (E:List Cl) (F:List Tm) (x:List (Br Tm)) (qn xu:Int) (q:Bool):St UU:=⟨[(0,(km defs .none)),(3,(pt 3)),(4,(pt 4)),(8,(pt 8)),(9,(.bool q)),(10,(iI qn)),(20,(iI xu))],[(3,bT t),(4,.cells [(iI 0),(iI 0),zx,(.own 200259 0),(.own 200260 0),(.own 200261 0)]),(8,.cells [(iI z),(iI A),(.str B),(sC E),(sT F),(sB x)])],[(200261,xR),(200260,zo),(200259,xZ)],[(200261,.wr),(200260,.wr),(200259,.wr)]⟩
def aob (t:Tm) (defs:List Df):St UU:=⟨[(0,(km defs .none)),(3,(pt 3)),(4,(pt 4))],[(3,bT t),(4,.cells [(iI 0),(iI 0),zx,(.own 200259 0),(.own 200260 0),(.own 200261 0)])],[(200261,xR),(200260,zo),(200259,xZ)],[(200261,.wr),(200260,.wr),(200259,.wr)]⟩
section
variable (k:Nat) (defs:List Df) (t:Tm) (Z:Out UU->Option S)
theorem aD1: ∀n,(ir k).jn Z 1000022 [] n (aob t defs)=bK k (AX Z) t defs n:=gL (co k (AX Z) t defs)
theorem qA: ∀n z A B E F x qn xu q,(ir k).lp Z 7 [] n (aox t defs z A B E F x qn xu q)=bH k (AX Z) t defs n z A B E F x qn xu q:=lp9 (fun own=>Sa k (AX Z) t defs (bK k (AX Z) t defs k) own) rfl (fun _=>rfl) fun r z A B E F x qn xu q=>pr (b:=Sa k (AX Z) t defs ((ir k).jn Z 1000022 [] k (aob t defs)) (fun z A B E F x qn xu q=>r (aox t defs z A B E F x qn xu q)) z A B E F x qn xu q) (by kernel_rfl) (by simp only [aD1])
end
theorem aFv (ho:ai o):Tl o 13 (aoz k:Rw S):=ow (ir k) ⟨H5 k ho,aFg k ho,aFj k ho,abw k ho,abP k ho,aaP k ho,trivial⟩ func13 fun defs t Z x h=>pr (b:=aAp k (AX Z) (fun A B E F I z qn xu q=>(ir k).lp Z 7 [] k (aox t defs A B E F I z qn xu q)) defs t) (by kernel_rfl) (pr (by simp only [qA];rfl) (al h))
def aoK:Rw S:=aj Ls S0 fun t oa nV Z=>aa k (hR k t oa nV) (Nf oa Z)
def qz:Fx S:=fp 51 [(13,aoz k)] [(1000004,⟨[(0,nU),(3,nU),(4,nU),(6,nU),(7,nU),(8,nU)],[(3,[nU,nU,nU,nU,nU,nU]),(4,[nU,nU,nU,qu 200259,qu 200260,qu 200261]),(6,[nU,nU,nU,nU,nU,nU]),(1000000,[nU,nU])]⟩,ap 3 7),(1000006,⟨[(0,nU),(4,nU),(6,nU)],[(4,[nU,nU,nU,qu 200259,qu 200260,qu 200261]),(6,[nU,nU,nU,nU,nU,nU]),(1000000,[nU,nU])]⟩,ap 4 15)] k f176 1
def aBX (oa:List Df) (nV:Int) (t:Tm) (r1:Tm×Bool×Int):St UU:=⟨[(0,(pt 1000000)),(3,(pt 3)),(4,(pt 4)),(6,(pt 6)),(7,(.bool r1.2.1)),(8,(iI r1.2.2))],[(3,bT t),(4,.cells [(iI 0),(iI 0),zx,(.own 200259 0),(.own 200260 0),(.own 200261 0)]),(6,bT r1.1),(1000000,.cells [(km oa .none),(iI nV)])],[(200261,xR),(200260,zo),(200259,xZ)],[(200261,.wr),(200260,.wr),(200259,.wr)]⟩
def aBY (oa:List Df) (nV:Int) (r1:Tm×Bool×Int):St UU:=⟨[(0,(pt 1000000)),(4,(pt 4)),(6,(pt 6))],[(4,.cells [(iI 0),(iI 0),zx,(.own 200259 0),(.own 200260 0),(.own 200261 0)]),(6,bT r1.1),(1000000,.cells [(km oa .none),(iI nV)])],[(200261,xR),(200260,zo),(200259,xZ)],[(200261,.wr),(200260,.wr),(200259,.wr)]⟩
section
variable (k:Nat) (t:Tm) (oa:List Df) (nV:Int) (Z:Out UU->Option S)
theorem aD3 (r1): ∀n,(qz k).jn Z 1000006 [] n (aBY oa nV r1)=hD k (Nf oa Z) oa nV r1 n:=gL (iw k (Nf oa Z) oa nV r1)
theorem aD2 (r1): ∀n,(qz k).jn Z 1000004 [] n (aBX oa nV t r1)=azv k (Nf oa Z) oa nV t r1 n:=gL (Ir k (Nf oa Z) oa nV t r1 (hD k (Nf oa Z) oa nV r1 k)) rfl (fun _=>rfl) (pr (b:=Ir k (Nf oa Z) oa nV t r1 ((qz k).jn Z 1000006 [] k (aBY oa nV r1))) (by kernel_rfl) (by simp only [aD3]))
end
theorem apj (ho:ai o):Tl o 176 (aoK k:Rw S):=ow (qz k) ⟨aFv k ho,trivial⟩ func176 fun t oa nV Z x h=>pr (b:=aAi k (Nf oa Z) (fun r1=>(qz k).jn Z 1000004 [] k (aBX oa nV t r1)) t oa nV) (by kernel_rfl) (pr (by simp only [aD2];rfl) (al h))
def aoj:Rw S:=aj Ey xn fun t Z=>aa k (aU k t) (da Z)
def ayV:Fx S:=fp 26 [(120,Oe k)] [(1000015,aS [1,3] [(1,6)],ap 3 7)] k f177 0
def oF (t:Tm) (v3:Int):St UU:=⟨[(1,(pt 1)),(3,(iI v3))],[(1,bT t)],[],[]⟩
section
variable (k:Nat) (t:Tm) (Z:Out UU->Option S)
theorem qD: ∀n v3,(ayV k).jn Z 1000015 [] n (oF t v3)=aV k (da Z) t n v3:=nx (bo k (da Z) t)
end
theorem apk (ho:ai o):Tl o 177 (aoj k:Rw S):=ow (ayV k) ⟨aat k ho,trivial⟩ func177 fun t Z x h=>pr (b:=aAo k (da Z) (fun v3=>(ayV k).jn Z 1000015 [] k (oF t v3)) t) (by kernel_rfl) (pr (by simp only [qD];rfl) (al h))
def k7 (hd:B9 S):Rw S:=aj azr xn fun a b Z=>hd a b (F9 Z)
def azO (hd:B9 S) (k:Nat):Rw S:=aj aGt xn fun s1 s2 Z=>aa k (fB hd k s1 s2) (F9 Z)
def eb (hd:B9 S) (k:Nat):Fx S:=fp 32 [(215,k7 hd)] [(4,aS [1,2,15,16,17] [],ap 5 11)] k f239 0
def aBZ (s2 s1:List Tm) (oE:Int):St UU:=⟨[(1,(sT s2)),(2,(.func 215 [] [])),(15,(sT s1)),(16,(iI s1.length)),(17,(iI oE))],[],[],[]⟩
section
variable (hd:B9 S) (k:Nat) (s1 s2:List Tm) (Z:Out UU->Option S)
theorem aD4: ∀n oE,(eb hd k).lp Z 4 [] n (aBZ s2 s1 oE)=xr hd k (F9 Z) s2 s1 n oE:=cF (qG hd k (F9 Z) s2 s1)
end
theorem eZ (o:Obj) (ho:ai o) (hd:B9 S) (Hd:Tl o 215 (k7 hd)) (k:Nat):Tl o 239 (azO hd k:Rw S):=ow (eb hd k) ⟨Hd,trivial⟩ func239 fun s1 s2 Z x h=>pr (b:=aAm hd k (F9 Z) (fun oE=>(eb hd k).lp Z 4 [] k (aBZ s2 s1 oE)) s1 s2) (by kernel_rfl) (pr (by simp only [aD4];rfl) (al h))
def aCS (hd:B9 S) (k:Nat):Rw S:=aj aGu xn fun sU y Z=>aa k (dd hd k sU y) (F9 Z)
def aDB (hd:B9 S) (k:Nat):Fx S:=fp 17 [(31,Pu k),(239,azO hd k)] [] k f240 0
theorem aFw (o:Obj) (ho:ai o) (hd:B9 S) (Hd:Tl o 215 (k7 hd)) (k:Nat):Tl o 240 (aCS hd k:Rw S):=ow (aDB hd k) ⟨l9 k ho,eZ o ho hd Hd k,trivial⟩ func240 fun sU y Z x h=>pA h
def aCT (hd:B9 S) (k:Nat):Rw S:=aj aGv xn fun s1 s2 Z=>aa k (u' hd k s1 s2) (F9 Z)
def ef (hd:B9 S) (k:Nat):Fx S:=fp 32 [(240,aCS hd k)] [(4,aS [1,2,15,16,17] [],ap 5 11)] k f69 0
def aB0 (s2 s1:List (Br Tm)) (oE:Int):St UU:=⟨[(1,(sB s2)),(2,(.func 240 [] [])),(15,(sB s1)),(16,(iI s1.length)),(17,(iI oE))],[],[],[]⟩
section
variable (hd:B9 S) (k:Nat) (s1 s2:List (Br Tm)) (Z:Out UU->Option S)
theorem aD5: ∀n oE,(ef hd k).lp Z 4 [] n (aB0 s2 s1 oE)=x0 hd k (F9 Z) s2 s1 n oE:=cF (xu hd k (F9 Z) s2 s1)
end
theorem aFx (o:Obj) (ho:ai o) (hd:B9 S) (Hd:Tl o 215 (k7 hd)) (k:Nat):Tl o 69 (aCT hd k:Rw S):=ow (ef hd k) ⟨aFw o ho hd Hd k,trivial⟩ func69 fun s1 s2 Z x h=>pr (b:=qn hd k (F9 Z) (fun oE=>(ef hd k).lp Z 4 [] k (aB0 s2 s1 oE)) s1 s2) (by kernel_rfl) (pr (by simp only [aD5];rfl) (al h))
def aDA (hd:B9 S) (k:Nat):Fx S:=fp 45 [(31,Pu k),(69,aCT hd k),(239,azO hd k)] [] k f215 0
theorem azj (o:Obj) (ho:ai o): ∀k:Nat,Tl o 215 (k7 (Lx k:B9 S))
 |0=>dz fun a b Z x h=>by cases h
 |k+1=>ow (aDA (Lx k) k) ⟨l9 k ho,aFx o ho (Lx k) (azj o ho k) k,eZ o ho (Lx k) (azj o ho k) k,trivial⟩ func215 fun a b Z x h=>pr (by kernel_rfl) h
def e4 (hd:Mk S):Rw S:=aj Ls S0 fun t oa nV Z=>hd t oa nV (hU oa Z)
def aCU (hd:Mk S) (k:Nat):Rw S:=aj adK S0 fun t Ir oa nV Z=>aa k (Nr hd k t Ir oa nV) (Nf oa Z)
def aKo (hd:Mk S) (k:Nat):Fx S:=fp 36 [(128,e4 hd),(215,k7 (Lx k))] [] k f178 1
theorem aFy (o:Obj) (ho:ai o) (hd:Mk S) (Hd:Tl o 128 (e4 hd)) (k:Nat):Tl o 178 (aCU hd k:Rw S):=ow (aKo hd k) ⟨Hd,azj o ho k,trivial⟩ func178 fun t Ir oa nV Z x h=>pA h
def bk (hd:Mk S) (k:Nat):Fx S:=fp 53 [(176,aoK k),(177,aoj k),(178,aCU hd k)] [(1,⟨[(0,nU),(3,nU),(4,nU)],[(3,[nU,nU,nU,nU,nU,nU]),(4,[nU,nU,nU,qu 200259,qu 200260,qu 200261]),(1000000,[nU,nU])]⟩,ap 2 1)] k f128 1
def aB1 (oa:List Df) (q:Int) (x:Tm):St UU:=⟨[(0,(pt 1000000)),(3,(pt 3)),(4,(pt 4))],[(3,bT x),(4,.cells [(iI 0),(iI 0),zx,(.own 200259 0),(.own 200260 0),(.own 200261 0)]),(1000000,.cells [(km oa .none),(iI q)])],[(200261,xR),(200260,zo),(200259,xZ)],[(200261,.wr),(200260,.wr),(200259,.wr)]⟩
section
variable (hd:Mk S) (k:Nat) (t:Tm) (oa:List Df) (nV:Int) (Z:Out UU->Option S)
theorem aRz: ∀n q x,(bk hd k).lp Z 1 [] n (aB1 oa q x)=M0 hd k (hU oa Z) oa n q x:=aL (ayZ hd k (hU oa Z) oa)
end
theorem aBe (o:Obj) (ho:ai o): ∀k:Nat,Tl o 128 (e4 (Ez k:Mk S))
 |0=>dz fun t oa nV Z x h=>by cases h
 |k+1=>ow (bk (Ez k) k) ⟨apj k ho,apk k ho,aFy o ho (Ez k) (aBe o ho k) k,trivial⟩ func128 fun t oa nV Z x h=>pr (b:=n' (Ez k) k (hU oa Z) (fun q z=>(bk (Ez k) k).lp Z 1 [] k (aB1 oa q z)) t oa nV) (by kernel_rfl) (pr (by simp only [aRz];rfl) h)
def azP:Rw S:=aj aGw xn fun defs t fuel Z=>aa k (CP k defs t fuel) (aHl Z)
def ei:Fx S:=⟨⟨38,(fun _=>[]),(fun _=>false),nU,fun|6=>true|7=>true|8=>true|_=>false⟩,[(14,PK k),(34,PL (dJ k)),(128,e4 (Ez k))],[],k,f60,false,[],0,some (o9 17 127 f127 k)⟩
theorem aAU (ho:ai o):Tl o 60 (azP k:Rw S):=BZ (ei k) rfl (yn o func127 (by kernel_rfl)) ⟨H5 k ho,IQ o ho k,aBe o ho k,trivial⟩ func60 (by kernel_rfl) fun defs t fuel Z x h=>pA h
def bg:Rw S:=aj Ag xn fun sU xz Z=>aa k (Si k sU xz) (AP Z)
def ej:Fx S:=fp 10 [] [] k f61 0
theorem aFz (ho:ai o):Tl o 61 (bg k:Rw S):=ow (ej k) trivial func61 fun sU xz Z x h=>pA h
def dA:Rw S:=aj Ls S0 fun t oa nV Z=>aa k (L2 k t oa nV) (hU oa Z)
def auV:Fx S:=fp 29 [(60,azP k),(61,bg k)] [] k f27 1
theorem aOu (ho:ai o):Tl o 27 (dA k:Rw S):=ow (auV k) ⟨aAU k ho,aFz k ho,trivial⟩ func27 fun t oa nV Z x h=>pA h
def dB:Rw S:=aj Ls fh fun t c0 Z=>aa k (ml k t c0) (ays c0 Z)
def er:Fx S:=fp 11 [(61,bg k)] [] k f62 1
theorem aFA (ho:ai o):Tl o 62 (dB k:Rw S):=ow (er k) ⟨aFz k ho,trivial⟩ func62 fun t c0 Z x h=>pA h
def aCV:Rw S:=aj Ey xn fun t Z=>aa k (SX k t) (AP Z)
def aRw:Fx S:=fp 21 [(40,A3 k),(41,Ot k),(62,dB k),(63,OX k)] [] k f28 0
theorem aFB (ho:ai o):Tl o 28 (aCV k:Rw S):=ow (aRw k) ⟨D_ k ho,Dh k ho,aFA k ho,th k ho,trivial⟩ func28 fun t Z x h=>pA h
def aCW:Rw S:=aj Ag xn fun t kind Z=>aa k (MP k t kind) (aF Z)
def ew:Fx S:=fp 18 [(41,Ot k)] [] k f29 0
theorem aFC (ho:ai o):Tl o 29 (aCW k:Rw S):=ow (ew k) ⟨Dh k ho,trivial⟩ func29 fun t kind Z x h=>pA h
def aCX:Rw S:=aj azr xn fun t p Z=>aa k (gG k t p) (AP Z)
def ez:Fx S:=fp 48 [(40,A3 k),(62,dB k),(64,jx k),(65,Oq k),(66,Oy k)] [] k f30 0
theorem fI (ho:ai o):Tl o 30 (aCX k:Rw S):=ow (ez k) ⟨D_ k ho,aFA k ho,j8 k ho,l3 k ho,M9 k ho,trivial⟩ func30 fun t p Z x h=>pA h
def aCY:Rw S:=aj Lk xn fun l Z=>aa k (B0 k l) (uc Z)
def eC:Fx S:=fp 28 [(131,OY k)] [(3,aS [4,9,10,11] [],ap 5 11)] k f68 0
def aNL (l:List (Br Tm)) (zu:Int) (v4:List Cl):St UU:=⟨[(4,(sC v4)),(9,(sB l)),(10,(iI l.length)),(11,(iI zu))],[],[],[]⟩
section
variable (k:Nat) (l:List (Br Tm)) (Z:Out UU->Option S)
theorem aOd: ∀n zu v4,(eC k).lp Z 3 [] n (aNL l zu v4)=me k (uc Z) l n zu v4:=aL (Ih k (uc Z) l)
end
theorem aFD (ho:ai o):Tl o 68 (aCY k:Rw S):=ow (eC k) ⟨aa_ k ho,trivial⟩ func68 fun l Z x h=>pr (b:=aNs k (uc Z) (fun zu v4=>(eC k).lp Z 3 [] k (aNL l zu v4)) l) (by kernel_rfl) (pr (by simp only [aOd];rfl) (al h))
def aCZ:Rw S:=aj EV xn fun sU xz Z=>aa k (lf k sU xz) (ah0 Z)
def bm:Fx S:=fp 10 [] [] k f67 0
theorem fY (ho:ai o):Tl o 67 (aCZ k:Rw S):=ow (bm k) trivial func67 fun sU xz Z x h=>pA h
def ayA:Rw S:=aj aGu xn fun sU y Z=>aa k (aNc k sU y) (F9 Z)
def eD:Fx S:=fp 10 [(31,Pu k)] [] k f70 0
theorem fZ (ho:ai o):Tl o 70 (ayA k:Rw S):=ow (eD k) ⟨l9 k ho,trivial⟩ func70 fun sU y Z x h=>pA h
def aC0:Rw S:=aj aBt xn fun s1 s2 Z=>aa k (hF k s1 s2) (F9 Z)
def ayW:Fx S:=fp 32 [(70,ayA k)] [(4,aS [1,2,15,16,17] [],ap 5 11)] k f69 0
def aB7 (s2 s1:List (Br Tm)) (oE:Int):St UU:=⟨[(1,(sB s2)),(2,(.func 70 [] [])),(15,(sB s1)),(16,(iI s1.length)),(17,(iI oE))],[],[],[]⟩
section
variable (k:Nat) (s1 s2:List (Br Tm)) (Z:Out UU->Option S)
theorem aEb: ∀n oE,(ayW k).lp Z 4 [] n (aB7 s2 s1 oE)=A' k (F9 Z) s2 s1 n oE:=cF (bz k (F9 Z) s2 s1)
end
theorem aFE (ho:ai o):Tl o 69 (aC0 k:Rw S):=ow (ayW k) ⟨fZ k ho,trivial⟩ func69 fun s1 s2 Z x h=>pr (b:=aNr k (F9 Z) (fun oE=>(ayW k).lp Z 4 [] k (aB7 s2 s1 oE)) s1 s2) (by kernel_rfl) (pr (by simp only [aEb];rfl) (al h))
def ayC:Rw S:=aj aGx xn fun sU xz Z=>aa k (aNd k sU xz) (aK2 Z)
def eG:Fx S:=fp 10 [] [] k f132 0
theorem aOv (ho:ai o):Tl o 132 (ayC k:Rw S):=ow (eG k) trivial func132 fun sU xz Z x h=>pA h
def azn:Rw S:=aj aGy xn fun t c Z=>aa k (fD k t c) (BC Z)
def eH:Fx S:=fp 71 [(14,PK k),(34,PL (dJ k)),(130,Bg k),(175,Bb k),(180,P8 k),(181,Oh (d7 k)),(184,OM k),(186,GK k),(187,GZ)] [(9,⟨[(4,nU),(7,nU),(40,some (100040,false)),(41,nU),(42,nU)],[(4,[nU,nU,nU,qu 200259,qu 200260,qu 200261]),(7,[nU,nU,nU,nU,nU,nU])]⟩,ap 8 95),(12,⟨[(4,nU),(7,nU),(10,nU),(40,some (100040,false)),(41,nU),(42,nU),(48,nU),(49,nU),(50,nU)],[(4,[nU,nU,nU,qu 200259,qu 200260,qu 200261]),(7,[nU,nU,nU,nU,nU,nU]),(10,[nU,nU])]⟩,ap 16 26207)] k f134 0
def mx (c:Cl) (r5 r6:List Cl) (q:Tm) (oT:Int):St UU:=⟨[(4,(pt 4)),(7,(pt 7)),(40,(.own 100040 0)),(41,(.int .i64 ([(Vd.mk c.pos r5),(Vd.mk c.neg r6)].length:Int))),(42,(iI oT))],[(4,.cells [(iI 0),(iI 0),zx,(.own 200259 0),(.own 200260 0),(.own 200261 0)]),(7,bT q)],[(200261,xR),(200260,zo),(200259,xZ),(100040,⟨0,ET.V,[(Vd.mk c.pos r5),(Vd.mk c.neg r6)]⟩)],[(200261,.wr),(200260,.wr),(200259,.wr),(100040,.app)]⟩
def aNM (x8:Vd) (c:Cl) (r5 r6:List Cl) (oT:Int) (r9:List Int) (q:Tm) (v50:Int):St UU:=⟨[(4,(pt 4)),(7,(pt 7)),(10,(pt 10)),(40,(.own 100040 0)),(41,(.int .i64 ([(Vd.mk c.pos r5),(Vd.mk c.neg r6)].length:Int))),(42,(iI oT)),(48,(la r9 .none)),(49,(iI r9.length)),(50,(iI v50))],[(4,.cells [(iI 0),(iI 0),zx,(.own 200259 0),(.own 200260 0),(.own 200261 0)]),(7,bT q),(10,.cells [(iU x8.set),(sC x8.row)])],[(200261,xR),(200260,zo),(200259,xZ),(100040,⟨0,ET.V,[(Vd.mk c.pos r5),(Vd.mk c.neg r6)]⟩)],[(200261,.wr),(200260,.wr),(200259,.wr),(100040,.app)]⟩
section
variable (k:Nat) (t:Tm) (c:Cl) (Z:Out UU->Option S)
theorem aOf (x8 r5 r6 oT r9 Z0): ∀n q v50,(eH k).lp Z 12 [Z0] n (aNM x8 c r5 r6 oT r9 q v50)=SU k (BC Z) (fun x oT=>Z0 (mx c r5 r6 x oT)) x8 c r5 r6 oT r9 n q v50:=aL (k4 k (BC Z) x8 c r5 r6 oT r9 (fun x oT=>Z0 (mx c r5 r6 x oT)))
theorem aOe (r5 r6): ∀n x oT,(eH k).lp Z 9 [] n (mx c r5 r6 x oT)=KZ k (BC Z) c r5 r6 n x oT:=aL (fun own=>k8 k (BC Z) c r5 r6 (fun z oT A q v50=>SU k (BC Z) own z c r5 r6 oT A k q v50) own) rfl (fun _=>rfl) fun r x oT=>pr (b:=k8 k (BC Z) c r5 r6 (fun z oT A q v50=>(eH k).lp Z 12 [r] k (aNM z c r5 r6 oT A q v50)) (fun x oT=>r (mx c r5 r6 x oT)) x oT) (by kernel_rfl) (by simp only [aOf])
end
theorem f_ (ho:ai o):Tl o 134 (azn k:Rw S):=ow (eH k) ⟨H5 k ho,IQ o ho k,Em k ho,Eg k ho,aci k ho,tf o ho k,aaY k ho,Kp k ho,akR o ho,trivial⟩ func134 fun t c Z x h=>pr (b:=aNq k (BC Z) (fun q z A oT=>(eH k).lp Z 9 [] k (mx c q z A oT)) t c) (by kernel_rfl) (pr (by simp only [aOe];rfl) (al h))
def dZ:Rw S:=aj jk xn fun f g Z=>aa k (Hk k f g) (uc Z)
def eI:Fx S:=fp 19 [(135,Gm k),(136,Qd k)] [] k f72 0
theorem aOw (ho:ai o):Tl o 72 (dZ k:Rw S):=ow (eI k) ⟨JZ k ho,aco k ho,trivial⟩ func72 fun f g Z x h=>pA h
def k6 (hd:ya S):Rw S:=aj iv S0 fun a b oa nV Z=>hd a b oa nV (E9 oa Z)
def aNZ (hd:ya S) (k:Nat):Rw S:=aj aIR S0 fun kind f a b oa nV Z=>aa k (mv hd k kind f a b oa nV) (E9 oa Z)
def eK (hd:ya S) (k:Nat):Fx S:=fp 57 [(19,k6 hd),(61,bg k),(132,ayC k),(133,GL k),(134,azn k)] [(2,aS [0,1,3,4,15,16,17] [(1000000,2)],ap 4 5),(7,aS [0,1,3,4,12,15,16,17,29,30] [(12,2),(1000000,2)],ap 13 3685)] k f71 1
def zq (oa:List Df) (kind:Int) (f:List Cl) (a b:List Tm) (q oE:Int):St UU:=⟨[(0,(pt 1000000)),(1,(iI kind)),(3,(sT a)),(4,(sT b)),(15,(sC f)),(16,(iI f.length)),(17,(iI oE))],[(1000000,.cells [(km oa .none),(iI q)])],[],[]⟩
def aNO (oa:List Df) (kind:Int) (f:List Cl) (oE:Int) (a b:List Tm) (qH:Int) (q:Cl) (Ih:Int):St UU:=⟨[(0,(pt 1000000)),(1,(iI kind)),(3,(sT a)),(4,(sT b)),(12,(pt 12)),(15,(sC f)),(16,(iI f.length)),(17,(iI oE)),(29,(iI a.length)),(30,(iI Ih))],[(12,bC q),(1000000,.cells [(km oa .none),(iI qH)])],[],[]⟩
section
variable (hd:ya S) (k:Nat) (kind:Int) (f:List Cl) (a b:List Tm) (oa:List Df) (nV:Int) (Z:Out UU->Option S)
theorem aOh (oE Z0): ∀n qH x Ih,(eK hd k).lp Z 7 [Z0] n (aNO oa kind f oE a b qH x Ih)=Sc hd k (E9 oa Z) (fun q oE=>Z0 (zq oa kind f a b q oE)) oa kind f oE a b n qH x Ih:=EF (r5 hd k (E9 oa Z) oa kind f oE a b (fun q oE=>Z0 (zq oa kind f a b q oE)))
theorem aOg: ∀n q oE,(eK hd k).lp Z 2 [] n (zq oa kind f a b q oE)=Q7 hd k (E9 oa Z) oa kind f a b n q oE:=aL (fun own=>p0 hd k (E9 oa Z) oa kind f a b (fun oE qH x Ih=>Sc hd k (E9 oa Z) own oa kind f oE a b k qH x Ih) own) rfl (fun _=>rfl) fun r q oE=>pr (b:=p0 hd k (E9 oa Z) oa kind f a b (fun oE qH x Ih=>(eK hd k).lp Z 7 [r] k (aNO oa kind f oE a b qH x Ih)) (fun q oE=>r (zq oa kind f a b q oE)) q oE) (by kernel_rfl) (by simp only [aOh])
end
theorem gg (o:Obj) (ho:ai o) (hd:ya S) (Hd:Tl o 19 (k6 hd)) (k:Nat):Tl o 71 (aNZ hd k:Rw S):=ow (eK hd k) ⟨Hd,aFz k ho,aOv k ho,Kq k ho,f_ k ho,trivial⟩ func71 fun kind f a b oa nV Z x h=>pr (b:=aNp hd k (E9 oa Z) (fun q oE=>(eK hd k).lp Z 2 [] k (zq oa kind f a b q oE)) kind f a b oa nV) (by kernel_rfl) (pr (by simp only [aOg];rfl) (al h))
def aKd (hd:ya S) (k:Nat):Rw S:=aj aOJ S0 fun kind a b oa nV Z=>aa k (fe hd k kind a b oa nV) (E9 oa Z)
def SY (hd:ya S) (k:Nat):Fx S:=fp 83 [(31,Pu k),(67,aCZ k),(68,aCY k),(69,aC0 k),(71,aNZ hd k),(72,dZ k)] [(6,aS [0,1,3,32,33,34] [(1000000,2)],ap 9 151),(13,aS [0,1,3,53,54,55] [(1000000,2)],ap 7 47),(16,aS [0,1,3,13,53,54,55,59,60,61] [(13,2),(1000000,2)],ap 15 13103)] k f32 1
def aNP (oa:List Df) (kind:Int) (b a:List (Br Tm)) (q x:Int):St UU:=⟨[(0,(pt 1000000)),(1,(iI kind)),(3,(sB b)),(32,(sB a)),(33,(iI a.length)),(34,(iI x))],[(1000000,.cells [(km oa .none),(iI q)])],[],[]⟩
def fR (oa:List Df) (kind:Int) (b a:List (Br Tm)) (qH v55:Int):St UU:=⟨[(0,(pt 1000000)),(1,(iI kind)),(3,(sB b)),(53,(sB a)),(54,(iI a.length)),(55,(iI v55))],[(1000000,.cells [(km oa .none),(iI qH)])],[],[]⟩
def aNQ (oa:List Df) (q:(Br Tm)) (kind:Int) (b a:List (Br Tm)) (v55:Int) (tc x:Int):St UU:=⟨[(0,(pt 1000000)),(1,(iI kind)),(3,(sB b)),(13,(pt 13)),(53,(sB a)),(54,(iI a.length)),(55,(iI v55)),(59,(sB b)),(60,(iI b.length)),(61,(iI x))],[(13,bB q),(1000000,.cells [(km oa .none),(iI tc)])],[],[]⟩
section
variable (hd:ya S) (k:Nat) (kind:Int) (a b:List (Br Tm)) (oa:List Df) (nV:Int) (Z:Out UU->Option S)
theorem aOi: ∀n q x,(SY hd k).lp Z 6 [] n (aNP oa kind b a q x)=N1 hd k (E9 oa Z) oa kind b a n q x:=aL (ns hd k (E9 oa Z) oa kind b a)
theorem aOk (q v55 Z1): ∀n tc x,(SY hd k).lp Z 16 [Z1] n (aNQ oa q kind b a v55 tc x)=SV hd k (E9 oa Z) (fun qH v55=>Z1 (fR oa kind b a qH v55)) oa q kind b a v55 n tc x:=aL (dh hd k (E9 oa Z) oa q kind b a v55 (fun qH v55=>Z1 (fR oa kind b a qH v55)))
theorem aOj: ∀n qH v55,(SY hd k).lp Z 13 [] n (fR oa kind b a qH v55)=Sd hd k (E9 oa Z) oa kind b a n qH v55:=aL (fun own=>q6 hd k (E9 oa Z) oa kind b a (fun q v55 tc x=>SV hd k (E9 oa Z) own oa q kind b a v55 k tc x) own) rfl (fun _=>rfl) fun r qH v55=>pr (b:=q6 hd k (E9 oa Z) oa kind b a (fun q v55 tc x=>(SY hd k).lp Z 16 [r] k (aNQ oa q kind b a v55 tc x)) (fun qH v55=>r (fR oa kind b a qH v55)) qH v55) (by kernel_rfl) (by simp only [aOk])
end
theorem aKz (o:Obj) (ho:ai o) (hd:ya S) (Hd:Tl o 19 (k6 hd)) (k:Nat):Tl o 32 (aKd hd k:Rw S):=ow (SY hd k) ⟨l9 k ho,fY k ho,aFD k ho,aFE k ho,gg o ho hd Hd k,aOw k ho,trivial⟩ func32 fun kind a b oa nV Z x h=>pr (b:=aNo hd k (E9 oa Z) (fun q z=>(SY hd k).lp Z 6 [] k (aNP oa kind b a q z)) (fun qH v55=>(SY hd k).lp Z 13 [] k (fR oa kind b a qH v55)) kind a b oa nV) (by kernel_rfl) (pr (by simp only [aOi,aOj];rfl) (al h))
def aQ (hd:ya S) (k:Nat):Fx S:=fp 165 [(19,k6 hd),(27,dA k),(28,aCV k),(29,aCW k),(30,aCX k),(31,Pu k),(32,aKd hd k)] [(20,aS [0,7,8,139,140] [(7,6),(8,6),(1000000,2)],ap 9 191)] k f19 1
def aNN (oa:List Df) (r2 r5:Tm×Int) (x q:Int):St UU:=⟨[(0,(pt 1000000)),(7,(pt 7)),(8,(pt 8)),(139,(iI r2.1.c.length)),(140,(iI q))],[(7,bT r2.1),(8,bT r5.1),(1000000,.cells [(km oa .none),(iI x)])],[],[]⟩
section
variable (hd:ya S) (k:Nat) (a b:Tm) (oa:List Df) (nV:Int) (Z:Out UU->Option S)
theorem eX (r2 r5): ∀n x q,(aQ hd k).lp Z 20 [] n (aNN oa r2 r5 x q)=lz hd k (E9 oa Z) oa r2 r5 n x q:=aL (N' hd k (E9 oa Z) oa r2 r5)
end
theorem aNe (o:Obj) (ho:ai o): ∀k:Nat,Tl o 19 (k6 (BB k:ya S))
 |0=>dz fun a b oa nV Z x h=>by cases h
 |k+1=>ow (aQ (BB k) k) ⟨aNe o ho k,aOu k ho,aFB k ho,aFC k ho,fI k ho,l9 k ho,aKz o ho (BB k) (aNe o ho k) k,trivial⟩ func19 fun a b oa nV Z x h=>pr (b:=qo (BB k) k (E9 oa Z) (fun A B z q=>(aQ (BB k) k).lp Z 20 [] k (aNN oa A B z q)) a b oa nV) (by kernel_rfl) (pr (by simp only [eX];rfl) h)
def KV:Rw S:=aj aOK xn fun defs a b fuel Z=>aa k (Na k defs a b fuel) (x' Z)
def aKq:Fx S:=⟨⟨49,(fun _=>[]),(fun _=>false),nU,fun|8=>true|9=>true|10=>true|_=>false⟩,[(14,PK k),(19,k6 (BB k))],[(2,⟨[(0,nU),(3,nU),(5,nU),(6,nU),(8,nU),(9,nU),(10,nU),(17,some (100017,false)),(18,nU),(19,nU)],[(5,[nU,nU,nU,nU,nU,nU]),(6,[nU,nU,nU,nU,nU,nU]),(5000008,[nU]),(5000009,[nU]),(5000010,[nU])]⟩,ap 4 5)],k,f12,false,[],0,some (o9 16 18 f18 k)⟩
def aNR (a b:Tm) (defs:List Df) (fuel:Int) (q:Int):St UU:=⟨[(0,(km defs .none)),(3,(iI fuel)),(5,(pt 5)),(6,(pt 6)),(8,(pt 5000008)),(9,(pt 5000009)),(10,(pt 5000010)),(17,(.own 100017 0)),(18,(.int .i64 ([(ac a),(ac b)].length:Int))),(19,(iI q))],[(5,bT a),(6,bT b),(5000008,.cells [(.bool false)]),(5000009,bI 0),(5000010,bI 0)],[(100017,⟨0,ET.T,[(ac a),(ac b)]⟩)],[(100017,.app)]⟩
section
variable (k:Nat) (defs:List Df) (a b:Tm) (fuel:Int) (Z:Out UU->Option S)
theorem aOl: ∀n q,(aKq k).lp Z 2 [] n (aNR a b defs fuel q)=MO k (x' Z) a b defs fuel n q:=cF (l5 k (x' Z) a b defs fuel)
end
theorem aNy (ho:ai o):Tl o 12 (KV k:Rw S):=BZ (aKq k) rfl (yn o func18 (by kernel_rfl)) ⟨H5 k ho,aNe o ho k,trivial⟩ func12 (by kernel_rfl) fun defs a b fuel Z x h=>pr (b:=aNn k (x' Z) (fun q=>(aKq k).lp Z 2 [] k (aNR a b defs fuel q)) defs a b fuel) (by kernel_rfl) (pr (by simp only [aOl];rfl) (al h))
def aKe:Rw S:=aj cn xn fun Z=>aa k (s6 k) (F9 Z)
def aKr:Fx S:=fp 41 [(12,KV k),(15,F_ k)] [] k f7 0
theorem aKA (ho:ai o):Tl o 7 (aKe k:Rw S):=ow (aKr k) ⟨aNy k ho,eX0 k ho,trivial⟩ func7 fun Z x h=>pA h
def K2 (hd:gY S):Rw S:=aj Ag xn fun t ox Z=>hd t ox (da Z)
def SZ (hd:gY S) (k:Nat):Fx S:=fp 119 [(16,K2 hd)] [(5,aS [1,2,5,6] [(2,6)],ap 6 23),(9,aS [1,2,5,7] [(2,6)],ap 7 47),(15,aS [1,2,5,7,8] [(2,6)],ap 15 14639)] k f16 0
def aJ7 (t:Tm) (ox:Int) (v5 i6:Int):St UU:=⟨[(1,(iI ox)),(2,(pt 2)),(5,(iI v5)),(6,(iI i6))],[(2,bT t)],[],[]⟩
def kr (t:Tm) (ox:Int) (q i7:Int):St UU:=⟨[(1,(iI ox)),(2,(pt 2)),(5,(iI q)),(7,(iI i7))],[(2,bT t)],[],[]⟩
def aNS (t:Tm) (ox i7:Int) (q x:Int):St UU:=⟨[(1,(iI ox)),(2,(pt 2)),(5,(iI q)),(7,(iI i7)),(8,(iI x))],[(2,bT t)],[],[]⟩
section
variable (hd:gY S) (k:Nat) (t:Tm) (ox:Int) (Z:Out UU->Option S)
theorem aOn (i7 Z1): ∀n q z,(SZ hd k).lp Z 15 [Z1] n (aNS t ox i7 q z)=kA hd k (da Z) (fun x i7=>Z1 (kr t ox x i7)) t ox i7 n q z:=aL (xL hd k (da Z) t ox i7 (fun x i7=>Z1 (kr t ox x i7)))
theorem aOm: ∀n q i7,(SZ hd k).lp Z 9 [] n (kr t ox q i7)=jl hd k (da Z) t ox n q i7:=aL (fun own=>sS hd k (da Z) t ox (fun i7 x z=>kA hd k (da Z) own t ox i7 k x z) own) rfl (fun _=>rfl) fun r q i7=>pr (b:=sS hd k (da Z) t ox (fun i7 x z=>(SZ hd k).lp Z 15 [r] k (aNS t ox i7 x z)) (fun q i7=>r (kr t ox q i7)) q i7) (by kernel_rfl) (by simp only [aOn])
theorem aKv: ∀n v5 i6,(SZ hd k).lp Z 5 [] n (aJ7 t ox v5 i6)=nQ hd k (da Z) t ox n v5 i6:=aL (fun own=>p3 hd k (da Z) t ox (fun q i7=>jl hd k (da Z) t ox k q i7) own) rfl (fun _=>rfl) fun r v5 i6=>pr (b:=p3 hd k (da Z) t ox (fun q i7=>(SZ hd k).lp Z 9 [] k (kr t ox q i7)) (fun v5 i6=>r (aJ7 t ox v5 i6)) v5 i6) (by kernel_rfl) (by simp only [aOm])
end
theorem aNf (o:Obj) (ho:ai o): ∀k:Nat,Tl o 16 (K2 (gE k:gY S))
 |0=>dz fun t ox Z x h=>by cases h
 |k+1=>ow (SZ (gE k) k) ⟨aNf o ho k,trivial⟩ func16 fun t ox Z x h=>pr (b:=Io (gE k) k (da Z) (fun v5 i6=>(SZ (gE k) k).lp Z 5 [] k (aJ7 t ox v5 i6)) t ox) (by kernel_rfl) (pr (by simp only [aKv];rfl) h)
def aKf:Rw S:=aj Ey xn fun t Z=>aa k (ln k t) (F9 Z)
def aKs:Fx S:=fp 6 [(16,K2 (gE k))] [] k f8 0
theorem aKB (ho:ai o):Tl o 8 (aKf k:Rw S):=ow (aKs k) ⟨aNf o ho k,trivial⟩ func8 fun t Z x h=>pA h
def aKg:Rw S:=aj Ey xn fun t Z=>aa k (o6 k t) (F9 Z)
def aJK:Fx S:=fp 6 [(16,K2 (gE k))] [] k f17 0
theorem aKC (ho:ai o):Tl o 17 (aKg k:Rw S):=ow (aJK k) ⟨aNf o ho k,trivial⟩ func17 fun t Z x h=>pA h
def aKh:Rw S:=aj aKN xn fun l Z=>aa k (kl k l) (F9 Z)
def aKt:Fx S:=fp 24 [(17,aKg k)] [(4,aS [8,9,10] [],ap 5 11)] k f9 0
def aNT (l:List Df) (qn:Int):St UU:=⟨[(8,(su l .none)),(9,(iI l.length)),(10,(iI qn))],[],[],[]⟩
section
variable (k:Nat) (l:List Df) (Z:Out UU->Option S)
theorem aOo: ∀n qn,(aKt k).lp Z 4 [] n (aNT l qn)=Sy k (F9 Z) l n qn:=cF (ht k (F9 Z) l)
end
theorem aKD (ho:ai o):Tl o 9 (aKh k:Rw S):=ow (aKt k) ⟨aKC k ho,trivial⟩ func9 fun l Z x h=>pr (b:=aAk k (F9 Z) (fun qn=>(aKt k).lp Z 4 [] k (aNT l qn)) l) (by kernel_rfl) (pr (by simp only [aOo];rfl) (al h))
def aLl:Rw S:=aj aKN xn fun l Z=>aa k (r0 k l) (bh Z)
def l':Fx S:=fp 18 [] [(3,⟨[(3,qu 100003),(6,nU),(7,nU),(8,nU)],[]⟩,ap 5 11)] k f10 0
def aLf (l:List Df) (q:List Df) (x:Int):St UU:=⟨[(3,(.own 100003 0)),(6,(su l .none)),(7,(iI l.length)),(8,(iI x))],[],[(100003,⟨0,ET.D,q⟩)],[(100003,.wr)]⟩
section
variable (k:Nat) (l:List Df) (Z:Out UU->Option S)
theorem aLG: ∀n q x,(l' k).lp Z 3 [] n (aLf l q x)=mj k (bh Z) l n q x:=aL (s8 k (bh Z) l)
end
theorem aOx (ho:ai o):Tl o 10 (aLl k:Rw S):=ow (l' k) trivial func10 fun l Z x h=>pr (b:=aAj k (bh Z) (fun q z=>(l' k).lp Z 3 [] k (aLf l q z)) l) (by kernel_rfl) (pr (by simp only [aLG];rfl) (al h))
def aKQ:Rw S:=aj Mz xn fun qw Z=>aa k (Sb k qw) (da Z)
def aLE:Fx S:=fp 12 [] [] k f11 0
theorem aLM (ho:ai o):Tl o 11 (aKQ k:Rw S):=ow (aLE k) trivial func11 fun qw Z x h=>pA h
def b5:Rw S:=aj aKO xn fun defs t fuel Z=>aa k (r2 k defs t fuel) (F9 Z)
def aKG:Fx S:=fp 99 [(7,aKe k),(8,aKf k),(9,aKh k),(10,aLl k),(11,aKQ k),(12,KV k),(13,aoz k)] [(1000009,aS [2,4,7] [(4,6)],ap 6 63)] k f4 0
def aOM (t:Tm) (fuel:Int) (q:List Df):St UU:=⟨[(2,(iI fuel)),(4,(pt 4)),(7,(km q .none))],[(4,bT t)],[],[]⟩
section
variable (k:Nat) (defs:List Df) (t:Tm) (fuel:Int) (Z:Out UU->Option S)
theorem aOP (q): ∀n,(aKG k).jn Z 1000009 [] n (aOM t fuel q)=hr k (F9 Z) t fuel q n:=gL (s4 k (F9 Z) t fuel q)
end
theorem aKI (ho:ai o):Tl o 4 (b5 k:Rw S):=ow (aKG k) ⟨aKA k ho,aKB k ho,aKD k ho,aOx k ho,aLM k ho,aNy k ho,aFv k ho,trivial⟩ func4 fun defs t fuel Z x h=>pr (b:=oE k (F9 Z) (fun q=>(aKG k).jn Z 1000009 [] k (aOM t fuel q)) defs t fuel) (by kernel_rfl) (pr (by simp only [aOP];rfl) (al h))
def a8:Rw S:=aj aPE xn fun defs a b fuel Z=>aa k (L1 k defs a b fuel) (F9 Z)
def aPq:Fx S:=fp 61 [(7,aKe k),(8,aKf k),(9,aKh k),(10,aLl k),(11,aKQ k),(12,KV k)] [] k f5 0
theorem aPu (ho:ai o):Tl o 5 (a8 k:Rw S):=ow (aPq k) ⟨aKA k ho,aKB k ho,aKD k ho,aOx k ho,aLM k ho,aNy k ho,trivial⟩ func5 fun defs a b fuel Z x h=>pA h
theorem aPy (o:Obj) (ho:ai o) (k:Nat):Tl o 4 (b5 k:Rw S):=aKI k ho
theorem aPR (o:Obj) (ho:ai o) (k:Nat):Tl o 5 (a8 k:Rw S):=aPu k ho
end
end
section
variable {S:Type} {k:Nat}
def bE {α β:Type} (x:Except Int α) (f:α->Except Int β):Except Int β:=match x with
 | .error e=> .error e
 | .ok a=>f a
theorem aD {α β:Type} (a:α) (f:α->Except Int β):bE (.ok a) f=f a:=rfl
theorem lk {α β:Type} (e:Int) (f:α->Except Int β):bE (.error e) f= .error e:=rfl
theorem i8 {α β:Type} {x:Except Int α} {f:α->Except Int β} {b:β} (h:bE x f= .ok b): ∃a,x= .ok a/\f a= .ok b:=by
 cases x with
 |error e=>cases h
 |ok a=>exact ⟨a,rfl,h⟩
theorem be {α β:Type} {x:Except Int α} {f:α->Except Int β} {e:Int} (h:bE x f= .error e):x= .error e\/ ∃a,x= .ok a/\f a= .error e:=by
 cases x with
 |error e=>injection h with h;grind
 |ok a=>exact .inr ⟨a,rfl,h⟩
def eW (x:LC×Int):Except Int (LC):=if x.2=0 then .ok x.1 else .error x.2
theorem jF {x:LC×Int} (h:x.2=0):eW x= .ok x.1:=if_pos h
theorem iO {x:LC×Int} (h:x.2≠0):eW x= .error x.2:=if_neg h
theorem rR {x:LC×Int} {l:LC} (h:eW x= .ok l):x.2=0/\x.1=l:=by
 grind [eW]
theorem Ap {x:LC×Int} {e:Int} (h:eW x= .error e):x.2≠0/\x.2=e:=by
 grind [eW]
def EN (e:Int):Prop:=0<=e/\e<=1000
theorem uq:EN 0:=by unfold EN;omega
theorem lO:EN 2:=by unfold EN;omega
theorem en3:EN 3:=by unfold EN;omega
theorem acI:EN 10:=by unfold EN;omega
theorem k' (l:LC):EN (bp l).2:=by
 grind [bp,en3,uq,lO]
theorem z8 {step:LC->Cl->LC×Int} (hs: ∀h c,EN (step h c).2): ∀ {r h:LC},EN (xO step h r).2:=by
 intro r
 induction r<;>grind [uq,xO]
theorem agu (s i b:Int):EN (Db s i b).2:=by
 grind [Db,lO,L3,uq,acI]
theorem agk (c:Cl) (i b:Int):EN (dw c i b).2:=by
 grind [dw,agu,lO]
theorem q_ (f:LC) (i b:Int):EN (te f i b).2:=by
 unfold te
 split
 ·split
  ·exact k' _
  ·exact z8 fun h c=>agk c i b
 ·exact lO
theorem T8 {n b x y:Nat} (h:eU n b x=eU n b y):x=y:=by
 grind [eU]
theorem ak2 (n b:Nat) {l:List Nat} (h:l.Nodup):(l.map (eU n b)).Nodup:=
 List.Pairwise.map (S:=fun a b=>a≠b) (R:=fun a b=>a≠b) _ (fun x y q h=>q (T8 h)) h
theorem ags {m n b:Nat} (h:(L3 m n b).2=0) (j:Nat):(L3 m n b).1.testBit j=true↔ ∃x,x<24/\m.testBit x=true/\eU n b x=j:=by
 rw [Fg] at h ⊢
 split<;>grind [oG,ak2,oY,sW]
theorem ZC {m:Nat} (h:m<16777216):m&&&xF=m:=by
 apply Nat.eq_of_testBit_eq
 grind [g8,oZ]
theorem acY {i b:Int}: ∀ {r h:LC},(xO (dK i b) h r).2=0->(∀c∈r,(dw c i b).2=0)/\(xO (dK i b) h r).1=h++r.map fun c=>(dw c i b).1:=by
 intro r
 induction r<;>grind [xO,dK]
theorem agn {f:LC} {i b:Int} (h:(te f i b).2=0): ∀c∈(te f i b).1,∃d∈f,(dw d i b).2=0/\c=(dw d i b).1:=by
 grind [te,acY,bp,sZ]
theorem ZY {c:Cl}:bS c=false↔ ∀j,¬ (c.pos.toNat.testBit j=true/\c.neg.toNat.testBit j=true):=by
 unfold bS
 rw [Bool.not_eq_false',decide_eq_true_eq]
 constructor
 ·intro h j ⟨h1,h2⟩
  have:(c.pos.toNat&&&c.neg.toNat).testBit j=true:=by grind
  grind
 ·intro h
  apply Nat.eq_of_testBit_eq
  grind
theorem agt {s i b:Int} (h:(Db s i b).2=0) {j:Nat} (hj:(Db s i b).1.toNat.testBit j=true): ∃x,s.toNat.testBit x=true/\eU i.toNat b.toNat x=j:=by
 unfold Db at h hj
 split at h
 ·cases h
 ·next hn=>
  rw [if_neg hn] at hj
  have h':(L3 s.toNat i.toNat b.toNat).2=0:=by
   omega
  obtain ⟨x,_,h2,q⟩:=(ags h' j).1 hj
  grind
theorem agj {c:Cl} {i b:Int} (h:(dw c i b).2=0) (hc:bS c=false):bS (dw c i b).1=false:=by
 grind [ZY,dw,agt,T8]
def EZ (d b:Int) (f:LC):Except Int (LC):=if b=0\/d>=24 then .ok f else eW (te f d b)
theorem GY {d b:Int} {f g:LC} (hf:RF f) (h:EZ d b f= .ok g):RF g:=by
 grind [EZ,rR,kQ]
theorem Bq {d b:Int} {f:LC} {e:Int} (h:EZ d b f= .error e):0<e/\e<=1000:=by
 grind [EZ,Ap,q_,EN]
theorem aiw {d b:Int} {f g:LC} (hf:f.all (fun c=> !bS c)=true) (h:EZ d b f= .ok g):g.all (fun c=> !bS c)=true:=by
 grind [EZ,rR,agn,agj]
theorem Bt (d b:Int):EZ d b []= .ok []:=by
 unfold EZ
 split
 all_goals rfl
mutual
def uK (vb db v d:Int):Tm->Except Int Tm
 | .mk kd n nm r z sys=>
  if kd=1/\n>=v/\n>1000000000-vb then .error 100
  else bE (EZ d db r) fun A=>bE (dm vb db v d kd 0 z) fun x=>bE (H0 vb db v d kd sys) fun q=> .ok (.mk kd (if kd=1/\n>=v then n+vb else n) nm A x q)
def dm (vb db v d kd:Int) (i:Nat):LT->Except Int (LT)
 |[]=> .ok []
 |t::l=>bE (uK vb db (v+Am kd i) (d+bJ kd i) t) fun t'=>bE (dm vb db v d kd (i+1) l) fun q=> .ok (t'::q)
def H0 (vb db v d kd:Int):LB->Except Int (LB)
 |[]=> .ok []
 |b::l=>bE (n8 vb db v d kd b) fun q=>bE (H0 vb db v d kd l) fun x=> .ok (q::x)
def n8 (vb db v d kd:Int):Br Tm->Except Int (Br Tm)
 | .mk f x=>bE (EZ d db f) fun z=>bE (Ic vb db v d kd x) fun q=> .ok (.mk z q)
def Ic (vb db v d kd:Int):LT->Except Int (LT)
 |[]=> .ok []
 |t::l=>bE (uK vb db v (d+av kd) t) fun t'=>bE (Ic vb db v d kd l) fun q=> .ok (t'::q)
end
mutual
def q7:Tm->Prop
 | .mk kd n nm r q sys=>(RF r/\(kd=1->r=[])/\0<=kd)/\dQ q/\eA sys
def dQ:LT->Prop
 |[]=>True
 |t::l=>q7 t/\dQ l
def eA:LB->Prop
 |[]=>True
 |b::l=>mZ b/\eA l
def mZ:Br Tm->Prop
 | .mk f q=>RF f/\dQ q
end
theorem xV: ∀ {l:LT},dQ l↔ ∀t∈l,q7 t:=by
 intro l
 induction l<;>grind [dQ]
theorem G3 {b:Br Tm}:mZ b↔RF b.f/\ ∀t∈b.c,q7 t:=by cases b;rw [mZ,xV]
theorem FF: ∀ {l:LB},eA l↔ ∀b∈l,RF b.f/\ ∀t∈b.c,q7 t:=by
 intro l
 induction l<;>grind [eA,G3]
inductive F2 {α β:Type} (R:α->β->Prop):List α->List β->Prop
 |nil:F2 R [] []
 |cons {a:α} {b:β} {l:List α} {m:List β}:R a b->F2 R l m->F2 R (a::l) (b::m)
theorem F2.len {α β:Type} {R:α->β->Prop} {l:List α} {m:List β} (h:F2 R l m):m.length=l.length:=by
 induction h<;>grind
theorem F2.imp {α β:Type} {R Q:α->β->Prop} {l:List α} {m:List β} (h:F2 R l m) (q: ∀a b,R a b->Q a b):F2 Q l m:=by
 induction h<;>grind [nil,cons]
theorem ago {vb db v d kd:Int} {R:Tm->Tm->Prop}: ∀ {l:LT} {i:Nat} {l':LT},(∀x∈l,∀v d q,uK vb db v d x= .ok q->R x q)->dm vb db v d kd i l= .ok l'->F2 R l l':=by
 intro l
 induction l with
 |nil=>intro i l' _ h;rw [dm] at h;injection h with h;subst h;exact .nil
 |cons t l A=>
  intro i l' z h
  rw [dm] at h
  obtain ⟨t',h1,h⟩:=i8 h
  obtain ⟨m,h2,h⟩:=i8 h
  injection h with h;subst h
  exact .cons (z t (by simp) _ _ _ h1) (A (fun x B=>z x (by simp [B])) h2)
theorem agp {vb db v d kd:Int} {R:Tm->Tm->Prop}: ∀ {l:LT} {l':LT},(∀x∈l,∀v d q,uK vb db v d x= .ok q->R x q)->Ic vb db v d kd l= .ok l'->F2 R l l':=by
 intro l
 induction l with
 |nil=>intro l' _ h;rw [Ic] at h;injection h with h;subst h;exact .nil
 |cons t l A=>
  intro l' z h
  rw [Ic] at h
  obtain ⟨t',h1,h⟩:=i8 h
  obtain ⟨m,h2,h⟩:=i8 h
  injection h with h;subst h
  exact .cons (z t (by simp) _ _ _ h1) (A (fun x B=>z x (by simp [B])) h2)
theorem agv {vb db v d kd:Int} {R:Tm->Tm->Prop}: ∀ {l l':LB},(∀b∈l,∀x∈b.c,∀v d z,uK vb db v d x= .ok z->R x z)->H0 vb db v d kd l= .ok l'->
  F2 (fun b q=>EZ d db b.f= .ok q.f/\F2 R b.c q.c) l l':=by
 intro l
 induction l with
 |nil=>intro l' _ h;rw [H0] at h;injection h with h;subst h;exact .nil
 |cons b l B=>
  intro l' A h
  rw [H0] at h
  obtain ⟨q,h1,h⟩:=i8 h
  obtain ⟨m,h2,h⟩:=i8 h
  injection h with h;subst h
  cases b with
  |mk f E=>
   rw [n8] at h1
   obtain ⟨L,F,h1⟩:=i8 h1
   obtain ⟨I,J,h1⟩:=i8 h1
   injection h1 with h1;subst h1
   exact .cons ⟨F,agp (A ⟨f,E⟩ (by simp)) J⟩ (B (fun b hb=>A b (by simp [hb])) h2)
theorem Av {f:LC} {d:Int} (h:24<=d):dg f d=true:=by
 grind [dg,sW]
def Up (x q:Tm):Prop:=am q=am x/\au q=au x/\q.k=x.k/\(pw x->pw q/\(q7 x->q7 q)/\ ∀A z,24<=A->24<=z->rE false (-1) A x=true->rE false (-1) z q=true)
theorem Ua {l l':LT} (h:F2 Up l l'):aH l'=aH l:=by
 induction h with
 |nil=>rfl
 |cons h1 _ q=>rw [aH,aH,h1.1,q]
theorem Ud {l l':LT} (h:F2 Up l l'):ay l'=ay l:=by
 induction h with
 |nil=>rfl
 |cons h1 _ q=>rw [ay,ay,h1.2.1,q]
theorem ala {l l':LB} (h:F2 (fun b q:Br Tm=>F2 Up b.c q.c) l l'):aO l'=aO l:=by
 induction h with
 |nil=>rfl
 |cons h1 _ x=>grind [aO,pD,Ua]
theorem alb {l l':LB} (h:F2 (fun b q:Br Tm=>F2 Up b.c q.c) l l'):aI l'=aI l:=by
 induction h with
 |nil=>rfl
 |cons h1 _ x=>grind [aI,kZ,Ud]
theorem Ub {l l':LT} (h:F2 Up l l'):aZ l->aZ l':=by
 induction h with
 |nil=>exact id
 |cons h1 _ q=>rw [aZ,aZ];exact fun h=>⟨(h1.2.2.2 h.1).1,q h.2⟩
theorem Uc {l l':LT} (h:F2 Up l l'):aZ l->dQ l->dQ l':=by
 induction h with
 |nil=>simp
 |cons h1 _ q=>rw [aZ,dQ,dQ];exact fun h g=>⟨(h1.2.2.2 h.1).2.1 g.1,q h.2 g.2⟩
theorem B2 (v:Int):cQ (-1) v= -1:=by rfl
theorem ak9 {kd x q:Int} (h1:24<=x) (h2:24<=q) {l l':LT} (h:F2 Up l l'): ∀ {i:Nat},aZ l->bO false (-1) x kd i l=true->bO false (-1) q kd i l'=true:=by
 induction h with
 |nil=>exact fun _ h=>h
 |cons z _ A=>
  intro i
  rw [aZ,bO,bO,ql,ql,B2]
  have:=gr kd i
  exact fun h g=>⟨(z.2.2.2 h.1).2.2 _ _ (by omega) (by omega) g.1,A h.2 g.2⟩
theorem ak_ {kd x q:Int} (h1:24<=x) (h2:24<=q) {l l':LT} (h:F2 Up l l'):aZ l->ca false (-1) x kd l=true->ca false (-1) q kd l'=true:=by
 induction h with
 |nil=>exact fun _ h=>h
 |cons z _ A=>
  rw [aZ,ca,ca,ql,ql]
  have:=K5 kd
  exact fun h g=>⟨(z.2.2.2 h.1).2.2 _ _ (by omega) (by omega) g.1,A h.2 g.2⟩
def oN (d db:Int) (b q:Br Tm):Prop:=EZ d db b.f= .ok q.f/\F2 Up b.c q.c
theorem QG {d db:Int} {f g:LC} (h:EZ d db f= .ok g) (hf:aq f) (hl:f.length<1073741824):aq g/\g.length<1073741824:=by
 unfold EZ at h
 split at h
 ·grind
 ·obtain ⟨h1,rfl⟩:=rR h
  have:=kQ h1
  exact ⟨this.2,by have:=this.len;omega⟩
theorem QH {d db:Int} {f g:LC} (h:EZ d db f= .ok g) (hf:aq f) (q:xY f=true):xY g=true:=(GY ((Mb hf).1 q) h).right
theorem QF {d db:Int} {f g:LC} (h:EZ d db f= .ok g) (hf:aq f) (q:cV f=true):cV g=true:=by
 grind [cV,QH,aiw]
theorem aiv {d db:Int} {f g:LC} (h:EZ d db f= .ok g) (hf:f.length=0):g.length=0:=by
 grind [Bt]
theorem ak6 {d db:Int} {l l':LB} (h:F2 (oN d db) l l'):ba l->ba l':=by
 induction h with
 |nil=>exact id
 |cons h1 _ x=>
  rw [ba,ba,oh,oh]
  intro h
  have q:=QG h1.1 h.1.1.1 h.1.1.2.1
  exact ⟨⟨⟨q.1,q.2,by have:=h1.2.len;omega⟩,vi.1 (Ub h1.2 (vi.2 h.1.2))⟩,x h.2⟩
theorem ak8 {d db:Int} {l l':LB} (h:F2 (oN d db) l l'):ba l->eA l->eA l':=by
 induction h with
 |nil=>simp
 |cons h1 _ q=>
  rw [ba,oh,eA,eA,G3,G3]
  intro h g
  exact ⟨⟨GY g.1.1 h1.1,xV.1 (Uc h1.2 (vi.2 h.1.2) (xV.2 g.1.2))⟩,q h.2 g.2⟩
theorem ak5 {d db kd x q:Int} (h1:24<=x) (h2:24<=q) {l l':LB} (h:F2 (oN d db) l l'):ba l->ck false (-1) x kd l=true->ck false (-1) q kd l'=true:=by
 induction h with
 |nil=>exact fun _ h=>h
 | @cons a b _ _ z _ A=>
  rw [ba,oh,ck,ck,ql,ql]
  intro h g
  refine ⟨?_,A h.2 g.2⟩
  cases a;cases b
  have g1:=g.1
  rw [jT] at g1 ⊢
  exact ak_ h1 h2 z.2 (vi.2 h.1.2) g1
theorem ak7 {d db kd x q:Int} (h1:24<=x) (h2:24<=q) {l l':LB} (h:F2 (oN d db) l l'):ba l->l.all (bX kd x)=true->l'.all (bX kd q)=true:=by
 induction h with
 |nil=>simp
 | @cons a b _ _ z _ A=>
  rw [ba,oh,List.all_cons,List.all_cons,ql,ql]
  intro h g
  refine ⟨?_,A h.2 g.2⟩
  have g1:=g.1
  unfold bX at g1 ⊢
  rw [ql,ql,decide_eq_true_eq] at g1 ⊢
  rw [z.2.len]
  exact ⟨g1.1,QF z.1 h.1.1.1 g1.2.1,Av h2⟩
theorem T_ {d db:Int} {l l':LB} (h:F2 (oN d db) l l'):F2 (fun b q:Br Tm=>F2 Up b.c q.c) l l':=h.imp fun _ _ h=>h.2
theorem uP {vb db:Int} (W:0<=vb) (T:vb<=1000000000) (t:Tm): ∀v d t',uK vb db v d t= .ok t'->Up t t':=by
 induction t using gq with
 |h kd n nm r Y sys F I=>
  intro v d t' h
  rw [uK] at h
  split at h
  ·cases h
  next hv=>
  obtain ⟨r',hr,h⟩:=i8 h
  obtain ⟨J,hk,h⟩:=i8 h
  obtain ⟨z,hs,h⟩:=i8 h
  injection h with h;subst h
  have E:F2 Up Y J:=ago (fun x L v d M=>F x L v d M) hk
  have fs:F2 (oN d db) sys z:=agv (fun b hb x L v d M=>I b hb x L v d M) hs
  refine ⟨?_, ?_,rfl,fun A=> ?_⟩
  ·grind [am,Ua,ala,T_]
  ·grind [au,Ud,alb,T_]
  ·obtain ⟨o1,o2,o3,o4,o5,o6,o7⟩:=A.node
   have q:=A
   rw [pw] at q
   obtain ⟨_,ok,os⟩:=q
   have B:=QG hr o4 o5
   have O:=o2
   unfold aG at O
   refine ⟨?_, ?_, ?_⟩
   ·rw [pw]
    refine ⟨⟨o1, ?_,o3,B.1,B.2,by rw [E.len];exact o6,by rw [fs.len];exact o7⟩,Ub E ok,ak6 fs os⟩
    grind [aG]
   ·grind [q7,GY,Uc,ak8,Bt]
   ·intro dd ad h1 h2
    rw [rE,rE]
    simp only [Bool.false_and,sV,Bool.true_and,ql]
    rintro ⟨a,b,c⟩
    refine ⟨?_,ak9 h1 h2 E ok b,ak5 h1 h2 fs os c⟩
    unfold cL at a ⊢
    simp only [ql,decide_eq_true_eq,E.len,fs.len] at a ⊢
    grind [aiv,QH,Av,QF,ak7]
theorem aed {kd:Int} {n:Nat} (h:ct kd=n):0<=kd:=by
 grind [ct]
theorem ZA {bd:Bool} (t:Tm): ∀ {vars nW:Int},pw t->rE bd vars nW t=true->q7 t:=by
 induction t using gq with
 |h kd n nm r W sys J L=>
  intro vars nW B h
  rw [rE,ql,ql,ql] at h
  obtain ⟨_,a,b,c⟩:=h
  obtain ⟨Y,o2,o3,O,o5,o6,o7⟩:=B.node
  have A:=B
  rw [pw] at A
  obtain ⟨_,ok,os⟩:=A
  have E: ∀ {l:LT} {i:Nat},(∀x∈l,∀ {vars nW:Int},pw x->rE bd vars nW x=true->q7 x)->aZ l->bO bd vars nW kd i l=true->dQ l:=by
   intro l
   induction l<;>grind [dQ,bO,aZ]
  rw [wH,xq] at c
  unfold cL at a
  simp only [ql,decide_eq_true_eq] at a
  obtain ⟨⟨a1,a2,a3,a4⟩,a5⟩:=a
  have T: ∀ {l:LC},l.length=0->RF l:=fun h=>by
   grind [rA]
  rw [q7]
  have q:(sys=[]\/sys.all (bX kd nW)=true)/\RF r/\(kd=1->r=[]):=by
   have z:xX kd=0->sys=[]:=fun h=>Ix.1 (a4 h)
   by_cases c1:kd=1
   ·rw [if_pos c1] at a5
    simp only [ql,decide_eq_true_eq] at a5
    exact ⟨.inl (z (by subst c1;decide)),T a5.1,fun _=>Ix.1 a5.1⟩
   ·rw [if_neg c1] at a5
    by_cases c2:kd=2
    ·rw [if_pos c2] at a5
     simp only [ql,decide_eq_true_eq] at a5
     exact ⟨.inl (z (by subst c2;decide)),T a5.1,fun h=>absurd h c1⟩
    ·rw [if_neg c2] at a5
     by_cases c3:kd=13\/kd=21\/kd=26
     ·rw [if_pos c3,ql] at a5
      exact ⟨.inl (z (by rcases c3 with rfl|rfl|rfl<;>decide)),(Mb O).1 a5.1,fun h=>absurd h c1⟩
     ·rw [if_neg c3] at a5
      by_cases c4:kd=14
      ·rw [if_pos c4,ql] at a5
       unfold cV at a5
       rw [ql] at a5
       exact ⟨.inl (z (by subst c4;decide)),(Mb O).1 a5.1.1,fun h=>absurd h c1⟩
      grind
  refine ⟨⟨q.2.1,q.2.2,aed a1⟩,E (fun x I=>J x I) ok b, ?_⟩
  rw [FF]
  intro br F
  have hc:=c br F
  rw [xq] at hc
  have M:=B.br F
  refine ⟨?_,fun x I=>L br F x I (M.2 x I) (hc x I)⟩
  rcases q.1 with h|h<;>grind [bX,cV,Mb]
theorem M5 {vb db:Int} (t:Tm): ∀ {v d e},uK vb db v d t= .error e->0<e/\e<=1000:=by
 induction t using gq with
 |h kd n nm r L sys F I=>
  intro v d e h
  rw [uK] at h
  split at h
  ·grind
  rcases be h with h|⟨_,_,h⟩
  ·exact Bq h
  have z: ∀ {l:LT} {i:Nat},(∀x∈l,∀ {v d e},uK vb db v d x= .error e->0<e/\e<=1000)->dm vb db v d kd i l= .error e->0<e/\e<=1000:=by
   intro l
   induction l with
   |nil=>grind [dm]
   |cons t l A=>
    intro i hl h
    rw [dm] at h
    rcases be h with h|⟨_,_,h⟩
    ·exact hl t (by simp) h
    grind [be]
  have q: ∀ {l:LT},(∀x∈l,∀ {v d e},uK vb db v d x= .error e->0<e/\e<=1000)-> ∀ {e},Ic vb db v d kd l= .error e->0<e/\e<=1000:=by
   intro l
   induction l with
   |nil=>grind [Ic]
   |cons t l A=>
    intro hl e h
    rw [Ic] at h
    rcases be h with h|⟨_,_,h⟩
    ·grind
    ·rcases be h with h|⟨_,_,h⟩
     ·exact A (fun x J=>hl x (by simp [J])) h
     simp_all
  have E: ∀ {l:LB},(∀b∈l,∀x∈b.c,∀ {v d e},uK vb db v d x= .error e->0<e/\e<=1000)->H0 vb db v d kd l= .error e->0<e/\e<=1000:=by
   intro l
   induction l with
   |nil=>grind [H0]
   |cons b l A=>
    intro hl h
    rw [H0] at h
    rcases be h with h|⟨_,_,h⟩
    ·cases b with
     |mk f B=>
      rw [n8] at h
      rcases be h with h|⟨_,_,h⟩
      ·exact Bq h
      ·rcases be h with h|⟨_,_,h⟩
       ·exact q (hl (Br.mk f B) (by simp)) h
       ·cases h
    grind [be]
  grind [be]
abbrev dC:=Int->LC->Except Int (LC)
mutual
def ub (fo fa:dC) (d:Int):Tm->Except Int Tm
 | .mk kd n nm r z sys=>bE (if kd=14 then fa d r else fo d r) fun A=>bE (aig fo fa d kd 0 z) fun x=>bE (uL fo fa d kd sys) fun q=> .ok (.mk kd n nm A x q)
def aig (fo fa:dC) (d kd:Int) (i:Nat):LT->Except Int (LT)
 |[]=> .ok []
 |t::l=>bE (ub fo fa (d+bJ kd i) t) fun t'=>bE (aig fo fa d kd (i+1) l) fun q=> .ok (t'::q)
def uL (fo fa:dC) (d kd:Int):LB->Except Int (LB)
 |[]=> .ok []
 |b::l=>bE (Km fo fa d kd b) fun o=>bE (uL fo fa d kd l) fun q=> .ok (o++q)
def Km (fo fa:dC) (d kd:Int):Br Tm->Except Int (LB)
 | .mk f z=>bE (fa d f) fun x=>if x.length=0 then .ok [] else bE (xD fo fa d kd z) fun q=> .ok [.mk x q]
def xD (fo fa:dC) (d kd:Int):LT->Except Int (LT)
 |[]=> .ok []
 |t::l=>bE (ub fo fa (d+av kd) t) fun t'=>bE (xD fo fa d kd l) fun q=> .ok (t'::q)
end
theorem alf {fo fa:dC} {d kd:Int} {R:Tm->Tm->Prop}: ∀ {l:LT} {i:Nat} {l':LT},(∀x∈l,∀d q,ub fo fa d x= .ok q->R x q)->aig fo fa d kd i l= .ok l'->F2 R l l':=by
 intro l
 induction l with
 |nil=>intro i l' _ h;rw [aig] at h;injection h with h;subst h;exact .nil
 |cons t l A=>
  intro i l' z h
  rw [aig] at h
  obtain ⟨t',h1,h⟩:=i8 h
  obtain ⟨m,h2,h⟩:=i8 h
  injection h with h;subst h
  exact .cons (z t (by simp) _ _ h1) (A (fun x B=>z x (by simp [B])) h2)
theorem alh {fo fa:dC} {d kd:Int} {R:Tm->Tm->Prop}: ∀ {l:LT} {l':LT},(∀x∈l,∀d q,ub fo fa d x= .ok q->R x q)->xD fo fa d kd l= .ok l'->F2 R l l':=by
 intro l
 induction l with
 |nil=>intro l' _ h;rw [xD] at h;injection h with h;subst h;exact .nil
 |cons t l A=>
  intro l' z h
  rw [xD] at h
  obtain ⟨t',h1,h⟩:=i8 h
  obtain ⟨m,h2,h⟩:=i8 h
  injection h with h;subst h
  exact .cons (z t (by simp) _ _ h1) (A (fun x B=>z x (by simp [B])) h2)
def Wk (x q:Tm):Prop:=am q<=am x/\au q<=au x/\q.k=x.k/\(pw x->q7 x->pw q/\q7 q)
theorem Un {l l':LT} (h:F2 Wk l l'):aH l'<=aH l:=by
 induction h with
 |nil=>simp
 |cons h1 _ q=>rw [aH,aH];have:=h1.1;omega
theorem Uq {l l':LT} (h:F2 Wk l l'):ay l'<=ay l:=by
 induction h with
 |nil=>simp
 |cons h1 _ q=>rw [ay,ay];have:=h1.2.1;omega
theorem Uo {l l':LT} (h:F2 Wk l l'):aZ l->dQ l->aZ l'/\dQ l':=by
 induction h with
 |nil=>grind
 |cons h1 _ q=>
  rw [aZ,aZ,dQ,dQ]
  intro h g
  have a:=h1.2.2.2 h.1 g.1
  grind
theorem alk {fo fa:dC} {d kd:Int} (hfa: ∀d f g,RF f->fa d f= .ok g->RF g): ∀ {l l':LB},(∀b∈l,∀x∈b.c,∀d B,ub fo fa d x= .ok B->Wk x B)->uL fo fa d kd l= .ok l'->
  aO l'<=aO l/\aI l'<=aI l/\l'.length<=l.length/\(ba l->eA l->ba l'/\eA l'):=by
 intro l
 induction l with
 |nil=>grind [uL]
 |cons b l I=>
  intro l' E h
  rw [uL] at h
  obtain ⟨o,h1,h⟩:=i8 h
  obtain ⟨m,h2,h⟩:=i8 h
  injection h with h;subst h
  obtain ⟨i1,i2,i3,i4⟩:=I (fun b hb=>E b (by simp [hb])) h2
  cases b with
  |mk f F=>
   rw [Km] at h1
   obtain ⟨A,J,h1⟩:=i8 h1
   split at h1
   ·grind [aO,aI,ba,eA]
   ·obtain ⟨q,L,h1⟩:=i8 h1
    injection h1 with h1;subst h1
    have f2:F2 Wk F q:=alh (E ⟨f,F⟩ (by simp)) L
    have hd:=Un f2
    have hs:=Uq f2
    refine ⟨?_, ?_, ?_,fun ho z=> ?_⟩
    ·grind [aO,Ej]
    ·grind [aI,Ft]
    ·grind
    ·rw [ba,Fa] at ho;rw [eA,mZ] at z
     have a:=Uo f2 ho.1.2 z.1.2
     have b:=i4 ho.2 z.2
     have c:=hfa d f A z.1.1 J
     show ba (Br.mk A q::m)/\eA (Br.mk A q::m)
     rw [ba,Fa,eA,mZ]
     exact ⟨⟨⟨⟨c.2,by have:=c.len;omega,by rw [f2.len];simp_all⟩,a.1⟩,b.1⟩,⟨c,a.2⟩,b.2⟩
theorem Uj {fo fa:dC} (hfo: ∀d f g,RF f->fo d f= .ok g->RF g) (hfa: ∀d f g,RF f->fa d f= .ok g->RF g) (h0: ∀d,fo d []= .ok []) (t:Tm): ∀d t',ub fo fa d t= .ok t'->Wk t t':=by
 induction t using gq with
 |h kd n nm r L sys E F=>
  intro d t' h
  rw [ub] at h
  obtain ⟨M,hr,h⟩:=i8 h
  obtain ⟨I,hk,h⟩:=i8 h
  obtain ⟨J,hs,h⟩:=i8 h
  injection h with h;subst h
  have B:F2 Wk L I:=alf E hk
  obtain ⟨s1,s2,s3,O⟩:=alk hfa F hs
  refine ⟨?_, ?_,rfl,fun x A=> ?_⟩
  ·rw [am,am];have:=Un B;omega
  ·rw [au,au];have:=Uq B;omega
  ·rw [pw] at x;rw [q7] at A
   obtain ⟨⟨T,W,Y,o4,o5,o6,o7⟩,ok,os⟩:=x
   obtain ⟨⟨a,b,z⟩,c,e⟩:=A
   have hk:=Uo B ok c
   have hs:=O os e
   have q:RF M:=by
    grind
   rw [pw,q7]
   refine ⟨⟨⟨T,W,Y,q.2,by have:=q.len;omega,by rw [B.len];exact o6,by omega⟩,hk.1,hs.1⟩,⟨q,fun h1=> ?_,z⟩,hk.2,hs.2⟩
   grind
section
variable {fo fa:dC} {G:Int->LC->LC}
def DS (f:dC) (G:Int->LC->LC):dC:=fun d l=>bE (f d l) fun m=> .ok (G d m)
def j0 (G:Int->LC->LC):dC:=fun d l=> .ok (G d l)
theorem B5 (t:Tm): ∀d,∃t',ub (j0 G) (j0 G) d t= .ok t':=by
 induction t using gq with
 |h kd n nm r A sys B E=>
  intro d
  have hk: ∀ {l:LT} {i:Nat},(∀x∈l,∀d,∃t',ub (j0 G) (j0 G) d x= .ok t')-> ∃q,aig (j0 G) (j0 G) d kd i l= .ok q:=by
   intro l
   induction l with
   |nil=>simp_all [aig]
   |cons t l z=>
    intro i h
    obtain ⟨t',e⟩:=h t (by simp) (d+bJ kd i)
    obtain ⟨q,e'⟩:=z (i:=i+1) fun x F=>h x (by simp [F])
    grind [aig,aD]
  have L: ∀ {l:LT},(∀x∈l,∀d,∃t',ub (j0 G) (j0 G) d x= .ok t')-> ∃q,xD (j0 G) (j0 G) d kd l= .ok q:=by
   intro l
   induction l with
   |nil=>simp_all [xD]
   |cons t l z=>
    intro h
    obtain ⟨t',e⟩:=h t (by simp) (d+av kd)
    obtain ⟨q,e'⟩:=z fun x F=>h x (by simp [F])
    grind [xD,aD]
  have hs: ∀ {l:LB},(∀b∈l,∀x∈b.c,∀d,∃t',ub (j0 G) (j0 G) d x= .ok t')-> ∃q,uL (j0 G) (j0 G) d kd l= .ok q:=by
   intro l
   induction l with
   |nil=>simp_all [uL]
   |cons b l z=>
    intro h
    obtain ⟨q,e'⟩:=z fun b hb=>h b (by simp [hb])
    cases b with
    |mk f A=>
     obtain ⟨I,e⟩:=L (h ⟨f,A⟩ (by simp))
     have: ∃o,Km (j0 G) (j0 G) d kd (.mk f A)= .ok o:=by
      grind [Km,j0,aD]
     grind [uL,aD]
  obtain ⟨I,M⟩:=hk (i:=0) B
  obtain ⟨J,es⟩:=hs E
  simp_all [j0,ub,aD]
theorem alg (d kd:Int): ∀ (l:LT) (i:Nat),∃l',aig (j0 G) (j0 G) d kd i l= .ok l':=by
 intro l
 induction l with
 |nil=>simp_all [aig]
 |cons t l q=>
  intro i
  obtain ⟨t',e⟩:=B5 (G:=G) t (d+bJ kd i)
  obtain ⟨l',e'⟩:=q (i+1)
  grind [aig,aD]
theorem Ui (d kd:Int): ∀ (l:LT),∃l',xD (j0 G) (j0 G) d kd l= .ok l':=by
 intro l
 induction l with
 |nil=>simp_all [xD]
 |cons t l q=>
  obtain ⟨t',e⟩:=B5 (G:=G) t (d+av kd)
  grind [xD,aD]
theorem ale (d kd:Int) (b:Br Tm): ∃o,Km (j0 G) (j0 G) d kd b= .ok o:=by
 cases b with
 |mk f q=>
  obtain ⟨x,e⟩:=Ui (G:=G) d kd q
  rw [Km,j0,aD]
  split<;>simp_all [aD]
theorem alj (d kd:Int): ∀ (l:LB),∃l',uL (j0 G) (j0 G) d kd l= .ok l':=by
 intro l
 induction l with
 |nil=>simp_all [uL]
 |cons b l q=>
  obtain ⟨l',e'⟩:=q
  obtain ⟨o,e⟩:=ale (G:=G) d kd b
  grind [uL,aD]
theorem ali (d kd:Int): ∀ (a b:LB),uL fo fa d kd (a++b)=bE (uL fo fa d kd a) fun a'=>bE (uL fo fa d kd b) fun q=> .ok (a'++q):=by
 intro a
 induction a with
 |nil=>intro b;rw [zi,uL,aD];cases uL fo fa d kd b<;>rfl
 |cons x a z=>
  intro b
  rw [List.cons_append,uL,uL,z]
  cases Km fo fa d kd x with
  |error e=>rfl
  |ok o=>
   rw [aD,aD]
   cases uL fo fa d kd a with
   |error e=>rfl
   |ok a'=>
    rw [aD,aD]
    cases uL fo fa d kd b with
    |error e=>rfl
    |ok q=>grind [aD]
theorem alm (hfa: ∀d f g,RF f->fa d f= .ok g->RF g) (hG: ∀d f,RF f->((G d f).length=0↔f.length=0)) (t:Tm): ∀d,q7 t->bE (ub fo fa d t) (ub (j0 G) (j0 G) d)=ub (DS fo G) (DS fa G) d t:=by
 induction t using gq with
 |h kd n nm r ks sys I J=>
  intro d z
  rw [q7] at z
  obtain ⟨_,L,M⟩:=z
  have hk: ∀ {l:LT} {i:Nat},(∀x∈l,∀d,q7 x->bE (ub fo fa d x) (ub (j0 G) (j0 G) d)=ub (DS fo G) (DS fa G) d x)->dQ l->bE (aig fo fa d kd i l) (aig (j0 G) (j0 G) d kd i)=aig (DS fo G) (DS fa G) d kd i l:=by
   intro l
   induction l with
   |nil=>grind [aig,aD]
   |cons t l B=>
    intro i h q
    rw [dQ] at q
    have h1:=h t (by simp) (d+bJ kd i) q.1
    have h2:=B (i:=i+1) (fun x O=>h x (by simp [O])) q.2
    rw [aig,aig,<-h1,<-h2]
    cases ub fo fa (d+bJ kd i) t with
    |error e=>rfl
    |ok t'=>
     rw [aD,aD]
     obtain ⟨T,e⟩:=B5 (G:=G) t' (d+bJ kd i)
     rw [e,aD]
     cases aig fo fa d kd (i+1) l with
     |error e=>rfl
     |ok E=>
      grind [aD,aig]
  have hm: ∀ {l:LT},(∀x∈l,∀d,q7 x->bE (ub fo fa d x) (ub (j0 G) (j0 G) d)=ub (DS fo G) (DS fa G) d x)->dQ l->bE (xD fo fa d kd l) (xD (j0 G) (j0 G) d kd)=xD (DS fo G) (DS fa G) d kd l:=by
   intro l
   induction l with
   |nil=>grind [xD,aD]
   |cons t l B=>
    intro h q
    rw [dQ] at q
    have h1:=h t (by simp) (d+av kd) q.1
    have h2:=B (fun x O=>h x (by simp [O])) q.2
    rw [xD,xD,<-h1,<-h2]
    cases ub fo fa (d+av kd) t with
    |error e=>rfl
    |ok t'=>
     rw [aD,aD]
     obtain ⟨T,e⟩:=B5 (G:=G) t' (d+av kd)
     rw [e,aD]
     cases xD fo fa d kd l with
     |error e=>rfl
     |ok E=>
      grind [aD,xD]
  have hb: ∀ {b:Br Tm},(∀x∈b.c,∀d,q7 x->bE (ub fo fa d x) (ub (j0 G) (j0 G) d)=ub (DS fo G) (DS fa G) d x)->mZ b->bE (Km fo fa d kd b) (uL (j0 G) (j0 G) d kd)=Km (DS fo G) (DS fa G) d kd b:=by
   intro b h q
   cases b with
   |mk f A=>
    rw [mZ] at q
    have h2:=hm h q.2
    rw [Km,Km]
    show _=bE (bE (fa d f) fun m=> .ok (G d m)) _
    cases hf:fa d f with
    |error e=>rfl
    |ok F=>
     rw [aD,aD,aD]
     have Y:=hG d F (hfa d f F q.1 hf)
     by_cases W:F.length=0
     ·grind [aD,uL]
     ·rw [if_neg W,if_neg (fun h=>W (Y.1 h)),<-h2]
      cases xD fo fa d kd A with
      |error e=>rfl
      |ok E=>
       rw [aD,aD,aD,uL,Km]
       show bE (bE (.ok (G d F)) _) _=_
       rw [aD,if_neg (fun h=>W (Y.1 h))]
       obtain ⟨ax,e⟩:=Ui (G:=G) d kd E
       grind [aD,uL]
  have hs: ∀ {l:LB},(∀b∈l,∀x∈b.c,∀d,q7 x->bE (ub fo fa d x) (ub (j0 G) (j0 G) d)=ub (DS fo G) (DS fa G) d x)->eA l->bE (uL fo fa d kd l) (uL (j0 G) (j0 G) d kd)=uL (DS fo G) (DS fa G) d kd l:=by
   intro l
   induction l with
   |nil=>grind [uL,aD]
   |cons b l B=>
    intro h q
    rw [eA] at q
    have h1:=hb (h b (by simp)) q.1
    have h2:=B (fun b hb=>h b (by simp [hb])) q.2
    rw [uL,uL,<-h1,<-h2]
    cases Km fo fa d kd b with
    |error e=>rfl
    |ok o=>
     rw [aD,aD]
     obtain ⟨o',e⟩:=alj (G:=G) d kd o
     rw [e,aD]
     cases uL fo fa d kd l with
     |error e=>rfl
     |ok E=>
      grind [aD,ali]
  rw [ub,ub,<-hk (i:=0) I L,<-hs J M]
  have qk:(if kd=14 then DS fa G d r else DS fo G d r)=bE (if kd=14 then fa d r else fo d r) fun m=> .ok (G d m):=by split<;>rfl
  rw [qk]
  cases (if kd=14 then fa d r else fo d r) with
  |error e=>rfl
  |ok r'=>
   rw [aD,aD,aD]
   cases aig fo fa d kd 0 ks with
   |error e=>rfl
   |ok A=>
    rw [aD,aD]
    obtain ⟨ad,ek⟩:=alg (G:=G) d kd A 0
    rw [ek,aD]
    cases uL fo fa d kd sys with
    |error e=>rfl
    |ok ao=>
     grind [aD,ub,j0]
end
theorem Ly (kd:Int):(kd<0\/kd>28)\/(∃n:Nat,n<29/\kd=n):=by
 by_cases h:kd<0\/kd>28
 ·omega
 ·exact .inr ⟨kd.toNat,by omega,by omega⟩
theorem aiR (kd:Int) (I:Int->OS S):zA k kd I=I (ct kd):=by
 simp only [zA]
 rcases Ly kd with h|⟨n,hn,rfl⟩
 ·simp only [cH,beq_iff_eq]
  unfold ct
  rw [if_pos h]
  repeat rw [if_neg (by omega)]
 ·unfold ct
  rw [if_neg (by omega),EI]
  match n,hn with
  |0,_=>rfl
  |1,_=>rfl
  |2,_=>rfl
  |3,_=>rfl
  |4,_=>rfl
  |5,_=>rfl
  |6,_=>rfl
  |7,_=>rfl
  |8,_=>rfl
  |9,_=>rfl
  |10,_=>rfl
  |11,_=>rfl
  |12,_=>rfl
  |13,_=>rfl
  |14,_=>rfl
  |15,_=>rfl
  |16,_=>rfl
  |17,_=>rfl
  |18,_=>rfl
  |19,_=>rfl
  |20,_=>rfl
  |21,_=>rfl
  |22,_=>rfl
  |23,_=>rfl
  |24,_=>rfl
  |25,_=>rfl
  |26,_=>rfl
  |27,_=>rfl
  |28,_=>rfl
  |n+29,h=>omega
theorem jE (kd i:Int) (I:Int×Int->OS S):gI k kd i I=I (Am kd i,bJ kd i):=by
 simp only [gI,cH,beq_iff_eq]
 grind [Am,bJ]
theorem Q8 (kd:Int) (I:Int->OS S):lJ k kd I=I (xX kd):=by
 grind [lJ,cH,xX]
theorem Jq (s t:BA):(s==t)=decide (s=t):=by
 obtain ⟨a⟩:=s;obtain ⟨b⟩:=t
 show (a==b)=_
 grind
theorem FO (s:BA):(s==po)=decide (s.size=0):=by
 simp_all [Jq]
theorem rN (s:BA):(s.size:Int)=(s.data.toList.length:Int):=by
 rfl
def js (p:List UInt8) (r:List UInt8):Bool:=match p with
 |[]=>q9 r
 |_::_=>r.all fun d=>kP d||pG d
theorem NI (p:List UInt8) (x:UInt8) (r:List UInt8):js p (x::r)=((kP x||(decide (p≠[])&&pG x))&&js (p++[x]) r):=by
 cases p<;>grind [js,q9]
theorem NJ {p:List UInt8}:js p []=decide (p.length≠0):=by
 cases p with
 |nil=>rfl
 |cons c l=>rfl
theorem afb (hk:Fu k) (I:Bool->OS S) {s:BA} (hs:s.size<2147483648):
  ∀ (r p:List UInt8) (m:Nat),s.data.toList=p++r->r.length<m->n7 k I s m (p.length:Int)=I (js p r):=by
 obtain ⟨q,rfl⟩: ∃q,k=q+1:=⟨k-1,by omega⟩
 have A:s.data.toList.length<2147483648:=by simp_all
 intro r
 induction r with
 |nil=>
  grind [pz,n7,tv,rN,n3,FO,NJ]
 |cons x r B=>
  intro p m h E
  obtain ⟨m,rfl,z⟩:=pz E
  obtain ⟨F,J,L,M⟩:=qI h (by omega)
  have O:=B (p++[x]) m M z
  rw [NI]
  simp only [n7,tv,rN,F,ae,J,qm,aY,Aq,Dk,L,O]
  have hl: ∀b:Bool,b=kP x->ab (!b) (ab (((p.length:Nat):Int)==0) (I false) (if ((x.toNat:Nat):Int)<48 then I false else if ((x.toNat:Nat):Int)>57 then I false else I (js (p++[x]) r))) (I (js (p++[x]) r))=I ((kP x||(decide (p≠[])&&pG x))&&js (p++[x]) r):=by
   grind [cH,List.length_pos_iff,pG]
  grind [kP]
theorem ajo (hk:Fu k) {s:BA} (hs:s.size<2147483648) (I:Bool->OS S):zC k s I=I (q9 s.data.toList):=by
 simp only [zC,IY]
 have:=afb hk I hs s.data.toList [] k rfl (by grind [rN])
 exact this
theorem qY (n:Nat):(((n:Nat):Int)==0)=decide (n=0):=by grind
theorem aff (hk:Fu k) (I:Bool->OS S) {t:Tm} {nW:Int} (hd:0<=nW) (q:nW<9223372036854775808) (hs: ∀b∈t.s,aq b.f/\b.f.length<1073741824) (hlen:t.s.length<1073741824):
  ∀ (r p:LB) (m:Nat),t.s=p++r->r.length<m->kO k I t nW m (p.length:Int)=I (r.all (bX t.k nW)&&decide (t.r.length=0)):=by
 intro r
 induction r with
 |nil=>
  grind [pz,kO,yl,n3,qY]
 |cons x r B=>
  intro p m h E
  obtain ⟨m,rfl,z⟩:=pz E
  obtain ⟨F,J,L,M⟩:=qI h (by omega)
  have A:=hs x (by grind)
  have hb:((x.c.length:Int)==xX t.k)=decide ((x.c.length:Int)=xX t.k):=by rfl
  simp only [kO,yl,F,ae,J,qm,ag hk,Q8,Hb hk A.1 (show x.f.length<2147483648 by omega),RZ hk A.1 (show x.f.length<4294967296 by omega) hd q,L,B (p++[x]) m M z,List.all_cons,hb]
  grind [bX,decide,Int,cV,ae,n3]
theorem aj4 {S:Type} (b c:Bool) (I:Bool->OS S):ab b (I c) (I false)=I (b&&c):=by
 cases b<;>rfl
def om (vars nW:Int) (t:Tm):Bool:=
 if t.k=1 then decide (t.r.length=0)&&(decide (0<=t.n)&&decide (vars<0\/t.n<vars))
   else if t.k=2 then decide (t.r.length=0)&&q9 t.name.data.toList
   else if t.k=13\/t.k=21\/t.k=26 then xY t.r&&dg t.r nW
   else if t.k=14 then cV t.r&&dg t.r nW
   else t.s.all (bX t.k nW)&&decide (t.r.length=0)
theorem NY (vars nW:Int) (t:Tm):cL vars nW t=((decide (ct t.k=t.c.length)&&(decide (t.k=1\/t.n=0)&&(decide (t.k=2\/t.name.size=0)&&decide (xX t.k=0->t.s.length=0))))&&om vars nW t):=by
 cases t;rfl
def Zm (t:Tm):Prop:=aG t.k/\aG t.n/\t.name.size<1073741824/\aq t.r/\t.r.length<1073741824/\t.c.length<1073741824/\t.s.length<1073741824
theorem pw.no {t:Tm} (h:pw t):Zm t:=by cases t;exact h.node
theorem pw.ki {t x:Tm} (h:pw t) (q:x∈t.c):pw x:=by cases t;exact h.bV q
theorem pw.bi {t:Tm} {b:Br Tm} (h:pw t) (hb:b∈t.s):(aq b.f/\b.f.length<1073741824/\b.c.length<1073741824)/\ ∀t∈b.c,pw t:=by cases t;exact h.br hb
theorem aju (hk:Fu k) {t:Tm} (A:pw t) {vars nW:Int} (hd:0<=nW) (x:nW<9223372036854775808) (I:Bool->OS S):Ar k I t vars nW k=I (om vars nW t):=by
 obtain ⟨F,J,L,z,M,O,B⟩:=A.no
 have hb:=fun b hb=>(A.bi (b:=b) hb).1
 obtain ⟨q,E⟩: ∃q,k=q+1:=⟨k-1,by omega⟩
 have: ∀j,j=q+1->Ar k I t vars nW j=tw k I t vars nW (fun v109=>kO k I t nW k v109):=by rintro j rfl;rfl
 rw [this k E]
 have hl:=aff hk I hd x (fun b h=>⟨(hb b h).1,(hb b h).2.1⟩) B t.s [] k rfl (by omega)
 have hl:kO k I t nW k 0=_:=hl
 simp only [tw,ag hk,ajo hk (show t.name.size<2147483648 by omega),rH hk z (show t.r.length<2147483648 by omega),Hb hk z (show t.r.length<2147483648 by omega),RZ hk z (show t.r.length<4294967296 by omega) hd x,hl,qY,aj4]
 grind [cH,om]
theorem ajt (hk:Fu k) {t:Tm} (x:pw t) {vars nW:Int} (hd:0<=nW) (q:nW<9223372036854775808) (I:Bool->OS S):uj k t vars nW I=I (cL vars nW t):=by
 have z:(ct t.k==(t.c.length:Int))=decide (ct t.k=t.c.length):=by rfl
 have hp:(xX t.k==0)=decide (xX t.k=0):=bG _
 simp only [uj,IZ,ag hk,aiR,Q8,aju hk x hd q,FO,z,hp,bG,NY]
 have A:ab (decide (xX t.k=0)) (ab (decide (((t.s.length:Nat):Int)>0)) (I false) (I (om vars nW t))) (I (om vars nW t))=I (decide (xX t.k=0->t.s.length=0)&&om vars nW t):=by
  rw [aY,aY]
  by_cases h1:xX t.k=0
  ·rw [if_pos h1]
   by_cases h2:t.s.length=0<;>grind
  grind
 grind [ae,n3,decide_eq_false]
abbrev Fd (k n:Nat):Prop:=4294967296+n<=k
theorem Fd.fu {n:Nat} (h:Fd k n):Fu k:=by omega
theorem Fd.pos {n:Nat} (h:Fd k n): ∃q,k=q+1/\ ∀j,j+1<=n->Fd q j:=⟨k-1,by omega,fun j hj=>by omega⟩
theorem Fd.pos' {n:Nat} (h:Fd k n) (hn:1<=n): ∃q,k=q+1/\Fu q/\ ∀j,j+1<=n->Fd q j:=⟨k-1,by omega,by omega,fun j hj=>by omega⟩
theorem H3 (t:Tm):1<=am t:=by cases t;rw [am];omega
theorem pF (t:Tm):am t=max (aH t.c) (aO t.s)+1:=by cases t;rfl
theorem rM (t:Tm):au t=1+ay t.c+aI t.s:=by cases t;rfl
theorem bY {t x:Tm} (h:x∈t.c):am x+1<=am t:=by rw [pF t];have:=D0 h;omega
theorem b8 {t:Tm} {b:Br Tm} {x:Tm} (hb:b∈t.s) (h:x∈b.c):am x+1<=am t:=by rw [pF t];have:=D0 h;have:=JP hb;omega
theorem c7 {Q:Tm->Prop} (h: ∀t,(∀x∈t.c,Q x)->(∀b∈t.s,∀x∈b.c,Q x)->Q t) (t:Tm):Q t:=gq (fun kd n nm r q sys h1 h2=>h (.mk kd n nm r q sys) h1 h2) t
theorem aDj {α:Type} (b c:Bool) (x y:α):ab (!b) y (if c then x else y)=if b&&c then x else y:=by cases b<;>cases c<;>rfl
theorem kY {S:Type} (b c:Bool) (I:Bool->OS S):ab (!b) (I false) (I c)=I (b&&c):=by cases b<;>rfl
theorem vf {n:Int} (h1: -9223372036854775808<=n) (h2:n<9223372036854775808):ou .i64 n=n:=alX h1 h2
section
variable {hd:Tm->Int->(Bool->OS S)->OS S} {c0:Int} {t:Tm} {Q:Tm->Bool}
theorem aeL (hk:Fu k) (I:Bool->OS S) (q:Int->Int->OS S) (hc: -9223372036854775807<=c0) (A:c0<9223372036854775808) {v more:Int} {x:Br Tm} (B: ∀y∈x.c,∀g,hd y (c0-1) g=g (Q y)) (hl:x.c.length<1073741824):
  ∀ (r p:LT) (m:Nat),x.c=p++r->r.length<m->SQ hd k I q c0 t v x more m (p.length:Int)=if r.all Q then q (ou .i64 (v+1)) more else I false:=by
 intro r
 induction r with
 |nil=>
  grind [pz,SQ,yi,n3]
 |cons y r E=>
  intro p m h F
  obtain ⟨m,rfl,z⟩:=pz F
  obtain ⟨J,L,M,O⟩:=qI h (by omega)
  have T:=B y (by grind)
  simp only [SQ,yi,J,ae,L,qm,ag hk,uk,ar,vf (show-9223372036854775808<=c0-1 by omega) (by omega),T,M,E (p++[y]) m O z,aDj]
  rfl
theorem aeK (hk:Fu k) (I:Bool->OS S) (hc: -9223372036854775807<=c0) (q:c0<9223372036854775808) {more:Int} (F: ∀b∈t.s,∀y∈b.c,∀g,hd y (c0-1) g=g (Q y)) (hl:t.s.length<1073741824) (z: ∀b∈t.s,b.c.length<1073741824):
  ∀ (r p:LB) (m:Nat),t.s=p++r->r.length<m->jp hd k I c0 t m (p.length:Int) more=I (r.all fun b=>b.c.all Q):=by
 intro r
 induction r with
 |nil=>
  grind [pz,jp,tp,n3]
 |cons x r J=>
  intro p m h L
  obtain ⟨m,rfl,A⟩:=pz L
  obtain ⟨M,O,T,W⟩:=qI h (by omega)
  have E:x∈t.s:=by grind
  have B:=z x E
  have:=aeL (t:=t) hk I (jp hd k I c0 t m) (v:=(p.length:Int)) (more:=more) hc q (F x E) B x.c [] k rfl (by omega)
  simp only [jp,tp,M,ae,O,qm,List.all_cons]
  refine pr this ?_
  rw [T,J (p++[x]) m W A]
  cases x.c.all Q<;>rfl
theorem aeJ (hk:Fu k) (I:Bool->OS S) (hc: -9223372036854775807<=c0) (x:c0<9223372036854775808) (E: ∀y∈t.c,∀g,hd y (c0-1) g=g (Q y)) (z: ∀b∈t.s,∀y∈b.c,∀g,hd y (c0-1) g=g (Q y)) (B:pw t):
  ∀ (r p:LT) (m:Nat),t.c=p++r->r.length<m->qS hd k I c0 t m (p.length:Int)=I (r.all Q&&t.s.all fun b=>b.c.all Q):=by
 obtain ⟨Y,o2,o3,o4,o5,o6,F⟩:=B.no
 intro r
 induction r with
 |nil=>
  intro p m h A
  obtain ⟨m,rfl,q⟩:=pz A
  have hs: ∀more:Int,jp hd k I c0 t k 0 more=_:=fun more=>aeK hk I hc x (more:=more) z F (fun b hb=>(B.bi hb).1.2.2) t.s [] k rfl (by omega)
  simp only [qS,tn,xy h,n3,hs]
  cases (t.k==15)<;>rfl
 |cons y r J=>
  intro p m h A
  obtain ⟨m,rfl,q⟩:=pz A
  obtain ⟨L,M,O,T⟩:=qI h (by omega)
  have W:=E y (by grind)
  simp only [qS,tn,L,ae,M,qm,ag hk,jE,uk,ar,vf (show-9223372036854775808<=c0-1 by omega) (by omega),W,O,J (p++[y]) m T q,kY,List.all_cons,Bool.and_assoc]
end
theorem JN {n:Int} (hn:0<=n): ∀ {l:LT},(l.all fun x=>decide ((am x:Int)<=n))=decide ((aH l:Int)<=n):=by
 intro l
 induction l<;>grind [aH]
theorem aah {n:Int} (hn:0<=n): ∀ {l:LB},(l.all fun b=>b.c.all fun x=>decide ((am x:Int)<=n))=decide ((aO l:Int)<=n):=by
 intro l
 induction l with
 |nil=>rw [aO];simp [hn]
 |cons b l q=>rw [List.all_cons,q,JN hn,aO,pD,Bool.eq_iff_iff];grind
theorem ajY (t:Tm):pw t-> ∀ {k:Nat} {left:Int} (I:Bool->OS S),Fd k (am t)-> -4611686018427387904<=left->left<4611686018427387904->jf k t left I=I (decide ((am t:Int)<=left)):=by
 induction t using c7 with
 |h t A B=>
  intro z k left I hk h1 h2
  obtain ⟨q,rfl,F,hf⟩:=hk.pos' (H3 t)
  simp only [jf,TV,aY,ar,ag F]
  by_cases J:left>0
  ·rw [if_pos J]
   have L: ∀y∈t.c,∀g:Bool->OS S,jf q y (left-1) g=g (decide ((am y:Int)<=left-1)):=fun y x g=>A y x (z.ki x) g (hf _ (bY x)) (by omega) (by omega)
   have E: ∀b∈t.s,∀y∈b.c,∀g:Bool->OS S,jf q y (left-1) g=g (decide ((am y:Int)<=left-1)):=fun b hb y x g=>B b hb y x ((z.bi hb).2 y x) g (hf _ (b8 hb x)) (by omega) (by omega)
   have:=aeJ (Q:=fun y=>decide ((am y:Int)<=left-1)) F I (by omega) (by omega) L E z t.c [] q rfl (by have:=z.no.2.2.2.2.2.1;omega)
   simp only [DX,IV]
   refine pr this ?_
   rw [JN (by omega),aah (by omega),pF]
   congr 1
   rw [Bool.eq_iff_iff];simp;omega
  grind [H3]
section
variable {hd:Tm->Int->(Bool×Int->OS S)->OS S} {t:Tm}
def rT (hd:Tm->Int->(Bool×Int->OS S)->OS S) (k:Nat) (y:Tm):Prop:= ∀ (c:Int) (g:Bool×Int->OS S),0<=c->c<4611686018427387904->
 ∃v,pB hd k y c g=g (decide ((au y:Int)<=c),v)/\((au y:Int)<=c->v=c-au y)
theorem aeI (hk:Fu k) (I:Bool×Int->OS S) (q:Int->Int->Int->OS S) {v more:Int} {x:Br Tm} (A: ∀y∈x.c,rT hd k y) (hl:x.c.length<1073741824):
  ∀ (r p:LT) (m:Nat) (c:Int),0<=c->c<4611686018427387904->x.c=p++r->r.length<m->
  ((ay r:Int)<=c->kL hd k I q t v x more m c (p.length:Int)=q (c-ay r) (ou .i64 (v+1)) more)/\(¬ (ay r:Int)<=c-> ∃w,kL hd k I q t v x more m c (p.length:Int)=I (false,w)):=by
 intro r
 induction r with
 |nil=>
  grind [pz,kL,yg,n3,ay]
 |cons y r Y=>
  intro p m c B h1 h E
  obtain ⟨m,rfl,F⟩:=pz E
  obtain ⟨J,L,M,e4⟩:=qI h (by omega)
  have O:=A y (by grind)
  obtain ⟨w,T,W⟩:=O c (fun r1=>(fun z:Bool×Int=>ab (!z.1) (I (false,z.2)) (kL hd k I q t v x more m z.2 (((p++[y]).length:Nat):Int))) (r1.1,r1.2)) B h1
  simp only [kL,yg,J,ae,L,qm,ag hk,ul,ar,M,ay]
  rw [T]
  by_cases hs:(au y:Int)<=c
  ·grind [n3]
  grind [ae]
theorem aeH (hk:Fu k) (I:Bool×Int->OS S) {more:Int} (E: ∀b∈t.s,∀y∈b.c,rT hd k y) (hl:t.s.length<1073741824) (q: ∀b∈t.s,b.c.length<1073741824):
  ∀ (r p:LB) (m:Nat) (c:Int),0<=c->c<4611686018427387904->t.s=p++r->r.length<m->
  ((aI r:Int)<=c->Mx hd k I t m c (p.length:Int) more=I (true,c-aI r))/\(¬ (aI r:Int)<=c-> ∃w,Mx hd k I t m c (p.length:Int) more=I (false,w)):=by
 intro r
 induction r with
 |nil=>
  grind [pz,Mx,tj,n3,aI]
 |cons x r F=>
  intro p m c J h1 h L
  obtain ⟨m,rfl,z⟩:=pz L
  obtain ⟨M,O,T,W⟩:=qI h (by omega)
  have B:x∈t.s:=by grind
  have A:=q x B
  have:=aeI (t:=t) hk I (Mx hd k I t m) (v:=(p.length:Int)) (more:=more) (E x B) A x.c [] k c J h1 rfl (by omega)
  simp only [Mx,tj,M,ae,O,qm,aI,kZ]
  obtain ⟨t1,t2⟩:=this
  rw [show (((([]:LT).length:Nat):Int))=0 from rfl] at t1 t2
  by_cases hs:(ay x.c:Int)<=c
  ·obtain ⟨i1,i2⟩:=F (p++[x]) m (c-ay x.c) (by omega) (by omega) W z
   rw [t1 hs,T]
   refine ⟨fun h=> ?_,fun h=>i2 (by omega)⟩
   rw [i1 (by omega),show c-(ay x.c:Int)-(aI r:Int)=c-((ay x.c+aI r:Nat):Int) by omega]
  ·exact ⟨fun h=>absurd (by omega) hs,fun _=>t2 hs⟩
theorem aeG (hk:Fu k) (I:Bool×Int->OS S) (L: ∀y∈t.c,rT hd k y) (x: ∀b∈t.s,∀y∈b.c,rT hd k y) (J:pw t):
  ∀ (r p:LT) (m:Nat) (c:Int),0<=c->c<4611686018427387904->t.c=p++r->r.length<m->
  ∃w,nY hd k I t m c (p.length:Int)=I (decide (((ay r+aI t.s:Nat):Int)<=c),w)/\(((ay r+aI t.s:Nat):Int)<=c->w=c-((ay r+aI t.s:Nat):Int)):=by
 obtain ⟨o1,o2,o3,o4,o5,o6,M⟩:=J.no
 intro r
 induction r with
 |nil=>
  intro p m c z h1 h A
  obtain ⟨m,rfl,q⟩:=pz A
  have hs: ∀more:Int,_:=fun more=>aeH hk I (more:=more) x M (fun b hb=>(J.bi hb).1.2.2) t.s [] k c z h1 rfl (by omega)
  have key: ∀more:Int,∃w,Mx hd k I t k c 0 more=I (decide (((aI t.s:Nat):Int)<=c),w)/\(((aI t.s:Nat):Int)<=c->w=c-((aI t.s:Nat):Int)):=fun more=>by
   by_cases hc:(aI t.s:Int)<=c
   ·simp_all
   ·obtain ⟨w,e⟩:=(hs more).2 hc
    grind
  have B:ay []+aI t.s=aI t.s:=by rw [ay,EJ]
  rw [B]
  simp only [nY,ti,xy h,n3]
  cases (t.k==15) with
  |true=>exact key 1
  |false=>exact key 0
 |cons y r O=>
  intro p m c z h1 h A
  obtain ⟨m,rfl,q⟩:=pz A
  obtain ⟨T,W,Y,e4⟩:=qI h (by omega)
  have hy:=L y (by grind)
  obtain ⟨w,hw,E⟩:=hy c (fun r1=>(fun F:Bool×Int=>ab (!F.1) (I (false,F.2)) (nY hd k I t m F.2 (((p++[y]).length:Nat):Int))) (r1.1,r1.2)) z h1
  have B:ay (y::r)+aI t.s=au y+ay r+aI t.s:=by rw [ay]
  rw [B]
  simp only [nY,ti,T,ae,W,qm,ag hk,jE,ul,ar,Y]
  rw [hw]
  by_cases hs:(au y:Int)<=c
  ·have:=E hs
   subst this
   obtain ⟨u,i1,i2⟩:=O (p++[y]) m (c-au y) (by omega) (by omega) e4 q
   grind [n3]
  grind [ae,decide_eq_false]
end
theorem ai5 (t:Tm):pw t-> ∀ {k:Nat} (c:Int) (I:Bool×Int->OS S),Fd k (am t)->0<=c->c<4611686018427387904->
  ∃w,K7 k t c I=I (decide ((au t:Int)-1<=c),w)/\((au t:Int)-1<=c->w=c-((au t:Int)-1)):=by
 induction t using c7 with
 |h t B E=>
  intro A k c I hk h1 h2
  obtain ⟨q,rfl,J,hf⟩:=hk.pos' (H3 t)
  have z: ∀y,(∀ {k:Nat} (c:Int) (I:Bool×Int->OS S),Fd k (am y)->0<=c->c<4611686018427387904-> ∃w,K7 k y c I=I (decide ((au y:Int)-1<=c),w)/\((au y:Int)-1<=c->w=c-((au y:Int)-1)))->
    Fd q (am y)->rT (S:=S) (K7 q) q y:=by
   intro y x F c g L h1
   simp only [pB,ar,vf (show-9223372036854775808<=c-1 by omega) (by omega),aY]
   have:=mB y
   by_cases hc:c-1>=0
   ·rw [if_pos hc]
    obtain ⟨w,e,e'⟩:=x (c-1) (fun r1=>g (r1.1,r1.2)) F (by omega) (by omega)
    grind
   ·rw [if_neg hc]
    exact ⟨c-1,by grind,fun h=>by omega⟩
  obtain ⟨w,e,e'⟩:=aeG J I (fun y x=>z y (fun c I=>B y x (A.ki x) c I) (hf _ (bY x))) (fun b hb y x=>z y (fun c I=>E b hb y x ((A.bi hb).2 y x) c I) (hf _ (b8 hb x))) A t.c [] q c h1 h2 rfl (by have:=A.no.2.2.2.2.2.1;omega)
  grind [K7,IT,rM]
theorem aj0 {t:Tm} (q:pw t) (hk:Fd k (am t)) {ox:Int} (x:0<ox) (h1:ox<4611686018427387904) (I:Bool->OS S):zE k t ox I=I (decide ((au t:Int)<=ox)):=by
 simp only [zE,ag hk.fu,pB,ar,vf (show-9223372036854775808<=ox-1 by omega) (by omega),aY]
 rw [if_pos (by omega)]
 obtain ⟨w,e,_⟩:=ai5 t q (ox-1) (fun r1=>I (r1.1,r1.2).1) hk (by omega) (by omega)
 grind
def VW (vars nW:Int) (n:Nat):Prop:= -9223372036854775808<=vars/\vars<9223372036854775808/\0<=nW/\nW+n<4611686018427387904
section
variable {hd:Tm->Int->Int->Bool->(Bool->OS S)->OS S} {vars nW:Int} {bd:Bool} {t:Tm}
theorem Rc (hv:VW vars nW 1) {v d:Int} (h1:0<=v/\v<=1) (h2:0<=d/\d<=1) (y:Tm) (g:Bool->OS S):uh hd k y v d vars nW bd g=hd y (ou .i64 (cQ vars v)) (nW+d) bd g:=by
 obtain ⟨v1,v2,v3,v4⟩:=hv
 simp only [uh,ar,aY,vf (show-9223372036854775808<=nW+d by omega) (by omega)]
 unfold cQ
 split
 ·rw [Int.add_zero]
 ·rfl
theorem aeF (hk:Fu k) (I:Bool->OS S) (q:Int->Int->OS S) (hv:VW vars nW 1) {v more:Int} {x:Br Tm} (z:more=av t.k) (B: ∀y∈x.c,∀g,hd y vars (nW+more) bd g=g (rE bd vars (nW+more) y)) (hl:x.c.length<1073741824):
  ∀ (r p:LT) (m:Nat),x.c=p++r->r.length<m->mi hd k I q vars nW bd t v x more m (p.length:Int)=if ca bd vars nW t.k r then q (ou .i64 (v+1)) more else I false:=by
 subst z
 intro r
 induction r with
 |nil=>
  intro p m h z
  obtain ⟨m,rfl,A⟩:=pz z
  simp only [mi,yh,xy h,n3];rfl
 |cons y r E=>
  intro p m h z
  obtain ⟨m,rfl,A⟩:=pz z
  obtain ⟨F,J,L,M⟩:=qI h (by omega)
  have O:=B y (by grind)
  have T:ou .i64 (cQ vars 0)=vars:=by rw [show cQ vars 0=vars by grind [cQ]];exact vf hv.1 hv.2.1
  simp only [mi,yh,F,ae,J,qm,ag hk,ar,Rc hv (show (0:Int)<=0/\(0:Int)<=1 by omega) (K5 t.k),T,O,L,E (p++[y]) m M A,aDj]
  rw [ca]
theorem aeE (hk:Fu k) (I:Bool->OS S) (hv:VW vars nW 1) {more:Int} (F:more=av t.k) (J: ∀b∈t.s,∀y∈b.c,∀g,hd y vars (nW+more) bd g=g (rE bd vars (nW+more) y)) (hl:t.s.length<1073741824) (q: ∀b∈t.s,b.c.length<1073741824):
  ∀ (r p:LB) (m:Nat),t.s=p++r->r.length<m->iC hd k I vars nW bd t m (p.length:Int) more=I (ck bd vars nW t.k r):=by
 intro r
 induction r with
 |nil=>
  grind [pz,iC,tl,n3,ck]
 |cons x r L=>
  intro p m h z
  obtain ⟨m,rfl,A⟩:=pz z
  obtain ⟨M,O,T,W⟩:=qI h (by omega)
  have E:x∈t.s:=by grind
  have B:=q x E
  have:=aeF (t:=t) (bd:=bd) hk I (iC hd k I vars nW bd t m) hv (v:=(p.length:Int)) F (J x E) B x.c [] k rfl (by omega)
  have this:mi hd k I (iC hd k I vars nW bd t m) vars nW bd t (p.length:Int) x more k 0=_:=this
  simp only [iC,tl,M,ae,O,qm,this,T,L (p++[x]) m W A]
  have Y:ck bd vars nW t.k (x::r)=(ca bd vars nW t.k x.c&&ck bd vars nW t.k r):=by cases x;rfl
  grind
theorem aeD (hk:Fu k) (I:Bool->OS S) (hv:VW vars nW 1) (F: ∀y∈t.c,∀v d,0<=v/\v<=1->0<=d/\d<=1-> ∀g,hd y (ou .i64 (cQ vars v)) (nW+d) bd g=g (rE bd (cQ vars v) (nW+d) y)) (x: ∀b∈t.s,∀y∈b.c,∀g,hd y vars (nW+av t.k) bd g=g (rE bd vars (nW+av t.k) y)) (A:pw t):
  ∀ (r p:LT) (m:Nat),t.c=p++r->r.length<m->nZ hd k I vars nW bd t m (p.length:Int)=I (bO bd vars nW t.k p.length r&&ck bd vars nW t.k t.s):=by
 obtain ⟨o1,o2,o3,o4,o5,o6,J⟩:=A.no
 intro r
 induction r with
 |nil=>
  intro p m h z
  obtain ⟨m,rfl,q⟩:=pz z
  have hs:iC hd k I vars nW bd t k 0 (av t.k)=_:=aeE hk I hv rfl x J (fun b hb=>(A.bi hb).1.2.2) t.s [] k rfl (by omega)
  grind [nZ,tk,bO,av,cH]
 |cons y r L=>
  intro p m h z
  obtain ⟨m,rfl,q⟩:=pz z
  obtain ⟨M,O,T,W⟩:=qI h (by omega)
  have B:=g7 t.k p.length
  have E:=gr t.k p.length
  have Y:=F y (by grind) (Am t.k p.length) (bJ t.k p.length) B E
  simp only [nZ,tk,M,ae,O,qm,ag hk,jE,ar,Rc hv B E,Y,T,L (p++[y]) m W q,kY]
  grind [bO]
end
theorem wI (bd:Bool) (vars nW:Int) (t:Tm):rE bd vars nW t=(!(bd&&decide (nW>24))&&(cL vars nW t&&(bO bd vars nW t.k 0 t.c&&ck bd vars nW t.k t.s))):=by cases t;rfl
theorem Uf {vars v:Int} (h:0<=v/\v<=1):vars<=cQ vars v/\cQ vars v<=vars+1:=by grind [cQ]
theorem Zv {bd:Bool} (t:Tm):pw t-> ∀ {V W D:Int},W<0->9223372036854775808<=V->rE bd W D t=rE bd V D t:=by
 induction t using gq with
 |h kd n nm r I sys B E=>
  intro q V W D J hV
  have ho:=q
  rw [pw] at q
  obtain ⟨T,L,Y,o4,o5,o6,o7⟩:=q.1
  have hk: ∀ {l:LT} {i:Nat},(∀x∈l,pw x-> ∀ {V W D:Int},W<0->9223372036854775808<=V->rE bd W D x=rE bd V D x)->aZ l->bO bd W D kd i l=bO bd V D kd i l:=by
   intro l
   induction l with
   |nil=>intro i _ _;rw [bO,bO]
   |cons t l z=>
    intro i h hl
    rw [aZ] at hl
    have hb:=g7 kd i
    rw [bO,bO,z (fun x F=>h x (by simp [F])) hl.2,h t (by simp) hl.1 (W:=cQ W (Am kd i)) (V:=cQ V (Am kd i)) (by unfold cQ;split<;>omega) (by unfold cQ;split<;>omega)]
  have M: ∀ {l:LT},(∀x∈l,pw x-> ∀ {V W D:Int},W<0->9223372036854775808<=V->rE bd W D x=rE bd V D x)->aZ l->ca bd W D kd l=ca bd V D kd l:=by
   intro l
   induction l with
   |nil=>intro _ _;rw [ca,ca]
   |cons t l z=>
    intro h hl
    rw [aZ] at hl
    rw [ca,ca,z (fun x F=>h x (by simp [F])) hl.2,h t (by simp) hl.1 J hV]
  have hs: ∀ {l:LB},(∀b∈l,∀x∈b.c,pw x-> ∀ {V W D:Int},W<0->9223372036854775808<=V->rE bd W D x=rE bd V D x)->ba l->ck bd W D kd l=ck bd V D kd l:=by
   intro l
   induction l with
   |nil=>intro _ _;rw [ck,ck]
   |cons b l z=>
    intro h hl
    obtain ⟨f,A⟩:=b
    rw [ba,Fa] at hl
    rw [ck,ck,jT,jT,z (fun b hb=>h b (by simp [hb])) hl.2,M (l:=A) (h ⟨f,A⟩ (by simp)) hl.1.2]
  have O:cL W D (.mk kd n nm r I sys)=cL V D (.mk kd n nm r I sys):=by
   unfold cL
   have:decide (W<0\/n<W)=decide (V<0\/n<V):=by
    have hn:n<9223372036854775808:=by unfold aG at L;omega
    rw [decide_eq_true (.inl J),decide_eq_true (.inr (by omega))]
   dsimp only
   rw [this]
  rw [rE,rE,O,hk B q.2.1,hs E q.2.2]
theorem aC5 (t:Tm):pw t-> ∀ {k:Nat} {vars nW:Int} {bd:Bool} (I:Bool->OS S),Fd k (am t)->VW vars nW (am t)->ic k t vars nW bd I=I (rE bd vars nW t):=by
 induction t using c7 with
 |h t A E=>
  intro z k vars nW bd I hk hv
  obtain ⟨q,rfl,F,hf⟩:=hk.pos' (H3 t)
  have hp:=H3 t
  have J:=hv
  unfold VW at J
  have L:VW vars nW 1:=by unfold VW;omega
  have Y:=K5 t.k
  have T: ∀y∈t.c,∀v d,0<=v/\v<=1->0<=d/\d<=1-> ∀g:Bool->OS S,ic q y (ou .i64 (cQ vars v)) (nW+d) bd g=g (rE bd (cQ vars v) (nW+d) y):=fun y x v d h1 h2 g=>by
   have hd:=bY x
   have W:=Uf (vars:=vars) h1
   by_cases M:cQ vars v<9223372036854775808
   ·rw [vf (by omega) M]
    exact A y x (z.ki x) g (hf _ (bY x)) (by unfold VW;omega)
   ·have e:cQ vars v=9223372036854775808:=by omega
    rw [e,show ou .i64 9223372036854775808= -9223372036854775808 from by decide,A y x (z.ki x) g (hf _ (bY x)) (by unfold VW;omega),Zv y (z.ki x) (by omega) (Int.le_refl _)]
  have O: ∀b∈t.s,∀y∈b.c,∀g:Bool->OS S,ic q y vars (nW+av t.k) bd g=g (rE bd vars (nW+av t.k) y):=fun b hb y x g=>E b hb y x ((z.bi hb).2 y x) g (hf _ (b8 hb x)) (by
   have:=b8 hb x;unfold VW;omega)
  have:=aeD (bd:=bd) F I L T O z t.c [] q rfl (by have:=z.no.2.2.2.2.2.1;omega)
  have this:nZ (ic q) q I vars nW bd t q 0=_:=this
  simp only [ic,TT,ar,ag F,ajt F z (show 0<=nW by omega) (show nW<9223372036854775808 by omega),zB,IU,this]
  rw [wI]
  cases bd with
  |true=>
   rw [ae,aY,Bool.true_and]
   by_cases B:nW>24
   ·grind
   ·rw [if_neg B,decide_eq_false B]
    cases cL vars nW t<;>rfl
  |false=>
   rw [n3]
   cases cL vars nW t<;>rfl
def VD (vars nW:Int) (n:Nat):Prop:= -4611686018427387904<=vars/\vars+n<4611686018427387904/\0<=nW/\nW+n<4611686018427387904
theorem ai1 (t:Tm) (q:pw t) {k:Nat} {vars nW:Int} {bd:Bool} (I:Bool->OS S) (hk:Fd k (am t)) (hv:VD vars nW (am t)):ic k t vars nW bd I=I (rE bd vars nW t):=
 aC5 t q I hk (by obtain ⟨v1,v2,v3,v4⟩:=hv;exact ⟨by omega,by omega,v3,v4⟩)
theorem ajZ {t:Tm} (q:pw t) (hk:Fd k (am t)) (I:Int->OS S):zD k t I=I (if am t>200 then 62 else if au t>20000 then 221 else 0):=by
 simp only [zD,ar,ajY t q _ hk (show (-4611686018427387904:Int)<=200 by omega) (show (200:Int)<4611686018427387904 by omega),ag hk.fu,aj0 q hk (show (0:Int)<20000 by omega) (show (20000:Int)<4611686018427387904 by omega)]
 by_cases h1:am t>200
 ·rw [if_pos h1,decide_eq_false (by omega)];rfl
 ·rw [if_neg h1,decide_eq_true (by omega),va,n3]
  by_cases h2:au t>20000
  ·rw [if_pos h2,decide_eq_false (by omega)];rfl
  ·rw [if_neg h2,decide_eq_true (by omega)];rfl
theorem An {t:Tm} (q:pw t) (hk:Fd k (am t)) (x:am t<1099511627776) (I:Int->OS S):DR k t I=I (bw t):=by
 simp only [DR,ar,ag hk.fu,ajZ q hk,ai1 t q _ hk (show VD (-1) 24 (am t) by unfold VD;omega),bG]
 unfold bw
 by_cases h1:am t>200
 ·rw [if_pos h1,if_pos h1];rfl
 ·rw [if_neg h1,if_neg h1]
  by_cases h2:au t>20000
  ·rw [if_pos h2,if_pos h2];rfl
  ·rw [if_neg h2,if_neg h2,decide_eq_true rfl,va,n3]
   cases rE false (-1) 24 t<;>rfl
theorem JO: ∀ {l:LT},(∀x∈l,am x<=au x)->aH l<=ay l:=by
 intro l
 induction l<;>grind [aH,ay]
theorem aai: ∀ {l:LB},(∀b∈l,∀x∈b.c,am x<=au x)->aO l<=aI l:=by
 intro l
 induction l<;>grind [aO,aI,pD,kZ,JO]
theorem zG (t:Tm):am t<=au t:=by
 induction t using c7<;>grind [pF,rM,JO,aai]
section
variable {hd:Tm->(Int->OS S)->OS S} {t:Tm}
end
section
variable {hd:Tm->(Int->OS S)->OS S} {t:Tm}
end
section
variable {hd:Tm->Int->Int->Bool->(Bool->OS S)->OS S} {vars nW:Int} {bd:Bool} {t:Tm}
end
section
variable {hd:Tm->Tm->(Bool->OS S)->OS S}
end
section
variable {hd:Tm->Int->(Int->OS S)->OS S} {t:Tm}
end
def pE {α:Type}:Except Int α->py Int α
 | .ok a=> .ok a
 | .error e=> .bD e
def eE {α β:Type} (x:Except Int α) (f:α->β) (g:Int->β):β:=match x with
 | .ok a=>f a
 | .error e=>g e
theorem ij {α β:Type} (x:Except Int α) (f:α->β) (g:Int->β):py.elim (pE x) f g=eE x f g:=by cases x<;>rfl
theorem AS {α β γ:Type} (x:Except Int α) (f:α->Except Int β) (u:β->γ) (w:Int->γ):eE (bE x f) u w=eE x (fun a=>eE (f a) u w) w:=by cases x<;>rfl
theorem aP {α β:Type} (a:α) (f:α->β) (g:Int->β):eE (.ok a) f g=f a:=rfl
theorem Qx {α:Type} (x:Except Int α) (I:py Int α->OS S):I (pE x)=eE x (fun a=>I (.ok a)) fun e=>I (.bD e):=by cases x<;>rfl
def ov:Tm:= .mk 0 0 po [] [] []
def tE:Except Int Tm->Tm×Int
 | .ok t=>(t,0)
 | .error e=>(ov,e)
theorem Dc {α β:Type} {x:Except Int α} {f q:α->β} {g g':Int->β} (h: ∀a,x= .ok a->f a=q a) (h': ∀e,x= .error e->g e=g' e):eE x f g=eE x q g':=by
 cases x with
 |ok a=>exact h a rfl
 |error e=>exact h' e rfl
theorem Ru (hk:Fu k) {a b d:Int} {f:LC} (hf:aq f) (hl:f.length<1073741824) (hd:aG d) (hb:aG b) (I:py Int (LC)->OS S):tN k a b f d I=I (pE (EZ d b f)):=by
 simp only [tN,ag hk,vX hk hf hl hd hb,bG,aY,J5 (show 0+f.length<=1099511627776 by omega)]
 unfold EZ
 by_cases q:b=0
 ·rw [if_pos q,if_pos (.inl q)];rfl
 ·rw [if_neg q]
  by_cases h1:d>=24
  ·rw [if_pos h1,if_pos (.inr h1)];rfl
  ·rw [if_neg h1,if_neg (show ¬ (b=0\/d>=24) by omega)]
   by_cases h2:(te f d b).2=0
   ·rw [decide_eq_true h2,jF h2];rfl
   ·rw [decide_eq_false h2,iO h2];rfl
section
variable {hd:Int->Int->Tm->Int->Int->(py Int Tm->OS S)->OS S} {vb db v d:Int} {t:Tm}
theorem ae5 (hk:Fu k) (I:py Int Tm->OS S) (q:LB->Int->Int->OS S) {Ao r2:LC} {b1 xo:Int} {ks:LT} {o:LB} {x:Br Tm} {more:Int} (z:more=av t.k)
  (B:0<=d/\d<4611686018427387904) (E: ∀y∈x.c,∀g,hd vb db y v (d+more) g=g (pE (uK vb db v (d+more) y))) (hl:x.c.length<1073741824) (ho:o.length<1073741824):
  ∀ (r p:LT) (m:Nat) (acc:LT),x.c=p++r->r.length<m->acc.length=p.length->
  l7 hd k I q Ao vb db t b1 r2 ks o x more v d xo m acc (p.length:Int)=eE (Ic vb db v d t.k r) (fun l=>q (o++[⟨Ao,acc++l⟩]) more (ou .i64 (xo+1))) fun e=>I (.bD e):=by
 subst z
 have F:=K5 t.k
 intro r
 induction r with
 |nil=>
  grind [pz,l7,xe,n3,Ic,aP,J5]
 |cons y r J=>
  intro p m acc h z ha
  obtain ⟨m,rfl,A⟩:=pz z
  obtain ⟨L,M,O,T⟩:=qI h (by omega)
  have W:p.length<x.c.length:=by grind
  have Y:=E y (by grind)
  simp only [l7,xe,L,ae,M,qm,ar,vf (n:=d+av t.k) (by omega) (by omega),Y,ij,Ic,AS,aP]
  refine Dc (fun t' ad=> ?_) fun e _=>rfl
  rw [J5 (by grind),O,J (p++[y]) m (acc++[t']) T A (by grind)]
  simp
theorem ae4 (hk:Fu k) (I:py Int Tm->OS S) {r2:LC} {b1:Int} {ks:LT} {more:Int} (M:more=av t.k) (J:pw t) (z:aG db) (A:0<=d/\d<4611686018427387904)
  (O: ∀b∈t.s,∀y∈b.c,∀g,hd vb db y v (d+more) g=g (pE (uK vb db v (d+more) y))):
  ∀ (r p:LB) (m:Nat) (o:LB),t.s=p++r->r.length<m->o.length=p.length->
  My hd k I vb db t b1 r2 ks v d m o more (p.length:Int)=eE (H0 vb db v d t.k r) (fun l=>I (.ok (.mk t.k b1 t.name r2 ks (o++l)))) fun e=>I (.bD e):=by
 obtain ⟨o1,o2,o3,o4,o5,o6,o7⟩:=J.no
 intro r
 induction r with
 |nil=>
  grind [pz,My,sA,n3,H0,aP]
 |cons x r T=>
  intro p m o h B ho
  obtain ⟨m,rfl,E⟩:=pz B
  obtain ⟨W,Y,e3,e4⟩:=qI h (by omega)
  have L:x∈t.s:=by grind
  have ad:p.length<t.s.length:=by grind
  have hb:=(J.bi L).1
  have qk:=Ru (S:=S) hk (a:=vb) hb.1 hb.2.1 (show aG d by unfold aG;omega) z
  have:=fun Ao=>ae5 hk I (My hd k I vb db t b1 r2 ks v d m) (Ao:=Ao) (r2:=r2) (b1:=b1) (xo:=(p.length:Int)) (ks:=ks) (o:=o) M A (O x L) hb.2.2 (by omega) x.c [] k [] rfl (by omega) rfl
  have this: ∀Ao,l7 hd k I (My hd k I vb db t b1 r2 ks v d m) Ao vb db t b1 r2 ks o x more v d (p.length:Int) k [] 0=_:=this
  have hB:n8 vb db v d t.k x=bE (EZ d db x.f) fun F=>bE (Ic vb db v d t.k x.c) fun q=> .ok (.mk F q):=by cases x;rfl
  simp only [My,sA,W,ae,Y,qm,ag hk,qk,ij,this,H0,hB,AS,aP,zi,e3]
  refine Dc (fun F _=>Dc (fun q _=> ?_) fun e _=>rfl) fun e _=>rfl
  rw [T (p++[x]) m (o++[Br.mk F q]) e4 E (by grind)]
  simp
theorem ae3 (hk:Fu k) (I:py Int Tm->OS S) {r2:LC} {b1:Int} (J:pw t) (x:aG db) (z:0<=d/\d<4611686018427387904) (L:0<=v/\v<4611686018427387904)
  (M: ∀y∈t.c,∀a b,0<=a/\a<=1->0<=b/\b<=1-> ∀g,hd vb db y (v+a) (d+b) g=g (pE (uK vb db (v+a) (d+b) y))) (A: ∀b∈t.s,∀y∈b.c,∀g,hd vb db y v (d+av t.k) g=g (pE (uK vb db v (d+av t.k) y))):
  ∀ (r p:LT) (m:Nat) (acc:LT),t.c=p++r->r.length<m->acc.length=p.length->
  Ni hd k I vb db t b1 r2 v d m acc (p.length:Int)=eE (dm vb db v d t.k p.length r) (fun l=>eE (H0 vb db v d t.k t.s) (fun s=>I (.ok (.mk t.k b1 t.name r2 (acc++l) s))) fun e=>I (.bD e)) fun e=>I (.bD e):=by
 obtain ⟨o1,o2,o3,o4,o5,o6,o7⟩:=J.no
 intro r
 induction r with
 |nil=>
  intro p m acc h B ha
  obtain ⟨m,rfl,q⟩:=pz B
  have hs:My hd k I vb db t b1 r2 acc v d k [] (av t.k) 0=_:=ae4 hk I rfl J x z A t.s [] k [] rfl (by omega) rfl
  grind [Ni,sz,dm,aP,cH,av]
 |cons y r O=>
  intro p m acc h B ha
  obtain ⟨m,rfl,q⟩:=pz B
  obtain ⟨T,W,Y,e4⟩:=qI h (by omega)
  have ad:p.length<t.c.length:=by grind
  have E:=g7 t.k p.length
  have F:=gr t.k p.length
  have hy:=M y (by grind) (Am t.k p.length) (bJ t.k p.length) E F
  simp only [Ni,sz,T,ae,W,qm,ag hk,jE,ar,vf (n:=v+Am t.k p.length) (by omega) (by omega),vf (n:=d+bJ t.k p.length) (by omega) (by omega),hy,ij,dm,AS,aP]
  refine Dc (fun t' ao=> ?_) fun e _=>rfl
  rw [J5 (by grind),Y,O (p++[y]) m (acc++[t']) e4 q (by grind),show (p++[y]).length=p.length+1 by simp]
  simp
end
theorem Fh (vb db v d:Int) (t:Tm):uK vb db v d t=if t.k=1/\t.n>=v/\t.n>1000000000-vb then .error 100 else bE (EZ d db t.r) fun z=>bE (dm vb db v d t.k 0 t.c) fun x=>bE (H0 vb db v d t.k t.s) fun q=> .ok (.mk t.k (if t.k=1/\t.n>=v then t.n+vb else t.n) t.name z x q):=by cases t;rfl
theorem q7.no {t:Tm} (h:q7 t):RF t.r/\(t.k=1->t.r=[])/\0<=t.k:=by cases t;rw [q7] at h;exact h.1
theorem q7.ki {t x:Tm} (h:q7 t) (q:x∈t.c):q7 x:=by cases t;rw [q7] at h;exact xV.1 h.2.1 x q
theorem q7.bi {t:Tm} {b:Br Tm} (h:q7 t) (hb:b∈t.s):RF b.f/\ ∀x∈b.c,q7 x:=by cases t;rw [q7] at h;exact FF.1 h.2.2 b hb
def VP (v d:Int) (n:Nat):Prop:=0<=v/\v+n<4611686018427387904/\0<=d/\d+n<4611686018427387904
theorem et {vb db:Int} (T:0<=vb/\vb<=1000000000) (A:aG db) (t:Tm):pw t->q7 t-> ∀ {k:Nat} {v d:Int} (I:py Int Tm->OS S),Fd k (am t)->VP v d (am t)->dk k vb db t v d I=I (pE (uK vb db v d t)):=by
 induction t using c7 with
 |h t E F=>
  intro B z k v d I hk hv
  obtain ⟨q,rfl,J,hf⟩:=hk.pos' (H3 t)
  obtain ⟨L,W⟩: ∃L,q=L+1:=⟨q-1,by omega⟩
  have hp:=H3 t
  unfold VP at hv
  obtain ⟨o1,Y,o3,o4,o5,o6,o7⟩:=B.no
  have ad:=K5 t.k
  have hQ: ∀y∈t.c,∀a b,0<=a/\a<=1->0<=b/\b<=1-> ∀g:py Int Tm->OS S,dk q vb db y (v+a) (d+b) g=g (pE (uK vb db (v+a) (d+b) y)):=fun y x a b h1 h2 g=>
   E y x (B.ki x) (z.ki x) g (hf _ (bY x)) (by have:=bY x;unfold VP;omega)
  have M: ∀b∈t.s,∀y∈b.c,∀g:py Int Tm->OS S,dk q vb db y v (d+av t.k) g=g (pE (uK vb db v (d+av t.k) y)):=fun b hb y x g=>
   F b hb y x ((B.bi hb).2 y x) ((z.bi hb).2 y x) g (hf _ (b8 hb x)) (by have:=b8 hb x;unfold VP;omega)
  have h1:=fun r2 b1=>ae3 (r2:=r2) (b1:=b1) J I B A (show 0<=d/\d<4611686018427387904 by omega) (show 0<=v/\v<4611686018427387904 by omega) hQ M t.c [] q [] rfl (by omega) rfl
  have h0: ∀r2 b1,uJ (dk q) q I vb db t r2 v d q b1=Ni (dk q) q I vb db t b1 r2 v d q [] 0:=by
   intro r2 b1
   have: ∀j,j=L+1->uJ (dk q) q I vb db t r2 v d j b1=Ni (dk q) q I vb db t b1 r2 v d q [] 0:=by rintro j rfl;rfl
   grind
  have h2: ∀r2 b1,uJ (dk q) q I vb db t r2 v d q b1=_:=fun r2 b1=>(h0 r2 b1).trans (h1 r2 b1)
  have qk:=Ru (S:=S) J (a:=vb) o4 o5 (show aG d by unfold aG;omega) A
  simp only [dk,HY,ag J,qk,ij,h2,List.length_nil,zi]
  rw [Qx _ I,Fh]
  unfold aG at Y
  by_cases hc:t.k=1
  ·have hr:=z.no.2.1 hc
   rw [hr,Bt,aP,hc,show ((1:Int)==1)=true from rfl,ae,aY]
   by_cases hn:t.n>=v
   ·rw [if_pos hn,vf (n:=1000000000-vb) (by omega) (by omega),aY]
    by_cases hb:t.n>1000000000-vb
    ·rw [if_pos hb,if_pos (show (1:Int)=1/\t.n>=v/\t.n>1000000000-vb from ⟨rfl,hn,hb⟩)];rfl
    grind [AS,vf,aP]
   grind [AS,aP]
  ·have O:(t.k==1)=false:=by grind
   rw [O,if_neg (show ¬ (t.k=1/\t.n>=v/\t.n>1000000000-vb) from fun h=>hc h.1)]
   simp_all [n3,AS,aP]
section
variable {hd:Tm->Int->Int->Int->Int->(Tm->OS S)->OS S} {vb db v d:Int} {t:Tm}
theorem wx {z:LC×Int} {α:Type} (f:LC->α) (g:Int->α):ab (!(z.2==0)) (g z.2) (f z.1)=eE (eW z) f g:=by
 rw [bG]
 unfold eW
 by_cases h:z.2=0
 ·rw [decide_eq_true h,if_pos h];rfl
 ·rw [decide_eq_false h,if_neg h];rfl
end
theorem Ij {t:Tm} (h:bw t=0):am t<=200/\au t<=20000/\rE false (-1) 24 t=true:=by
 grind [bw]
theorem pS {t:Tm} (h1:am t<=200) (h2:au t<=20000) (q:rE false (-1) 24 t=true):bw t=0:=by
 grind [bw]
theorem Et (t:Tm):0<=bw t/\bw t<=1000:=by
 grind [bw]
def Fm (t:Tm):Prop:=pw t/\bw t=0
theorem Fm.ok {t:Tm} (h:Fm t):pw t:=h.1
theorem Fm.rows {t:Tm} (h:Fm t):q7 t:=ZA t h.1 (Ij h.2).2.2
theorem Fm.dep {t:Tm} (h:Fm t):am t<=200:=(Ij h.2).1
theorem Fm.dP {t:Tm} (h:Fm t):au t<=20000:=(Ij h.2).2.1
theorem jr {vb db v d:Int} (q:0<=vb/\vb<=1000000000) {t t':Tm} (h:Fm t) (hl:uK vb db v d t= .ok t'):Fm t':=by
 obtain ⟨h1,h2,z,x⟩:=uP q.1 q.2 t v d t' hl
 obtain ⟨a,b,c⟩:=Ij h.2
 have:=x h.1
 exact ⟨this.1,pS (by omega) (by omega) (this.2.2 24 24 (by omega) (by omega) c)⟩
abbrev F3 (k:Nat):Prop:=4294968296<=k
theorem F3.fu (h:F3 k):Fu k:=by omega
theorem F3.fd (h:F3 k) {n:Nat} (hn:n<=1000):Fd k n:=by omega
theorem Fm.fd {t:Tm} (h:Fm t) (hk:F3 k):Fd k (am t):=hk.fd (by have:=h.dep;omega)
theorem Fm.vp {t:Tm} (h:Fm t) {v d:Int} (hv:0<=v/\v<=4611686018427380000) (hd:0<=d/\d<=4611686018427380000):VP v d (am t):=by have:=h.dep;unfold VP;omega
theorem Jx (x:Except Int Tm) (I:Tm×Int->OS S):I (tE x)=eE x (fun t=>I (t,0)) fun e=>I (ov,e):=by cases x<;>rfl
theorem aeU (hk:Fu k) (I:Tm×Int->OS S) {c0 c2:Int} {c1:Tm} {ns:List Int} (hl:ns.length<1000) (hn: ∀x∈ns,0<=x):
  ∀ (r p:List Int) (m:Nat),ns=p++r->r.length<m->nC k I c0 c1 c2 ns m (p.length:Int)=yX k c0 c1 c2 fun q=>py.elim q (fun q=>I (q,0)) fun B=>I (ov,B):=by
 intro r
 induction r with
 |nil=>
  intro p m h z
  obtain ⟨m,rfl,A⟩:=pz z
  simp only [nC,xa,xy h,n3,ag hk,ar];rfl
 |cons x r E=>
  intro p m h z
  obtain ⟨m,rfl,A⟩:=pz z
  obtain ⟨F,J,L,M⟩:=qI h (by omega)
  have O:=hn x (by grind)
  grind [nC,xa,aY]
theorem Rr (hk:F3 k) {t:Tm} (q:Fm t) {f b:Int} (hf:0<=f/\f<=24) (hb:0<=b/\b<9223372036854775808) (I:Tm×Int->OS S):lv k t f b I=I (tE (uK 0 b 0 f t)):=by
 have hl:=aeU hk.fu I (c0:=b) (c2:=f) (c1:=t) (ns:=[f,b]) (by simp) (by grind) [f,b] [] k rfl (by grind)
 have hl:nC k I b t f [f,b] k 0=_:=hl
 simp only [lv,ag hk.fu,ar,yZ,BQ,An q.ok (q.fd hk) (show am t<1099511627776 by have:=q.dep;omega),q.2,hl,yX]
 rw [show ((0:Int)==0)=true from rfl,va,n3,if_neg (by omega),et (by omega) (by unfold aG;omega) t q.ok q.rows _ (q.fd hk) (q.vp (by omega) (by omega)),ij,Jx _ I]
 rfl
def J6 (vb db:Int) (t:Tm):Except Int Tm:=bE (uK vb 0 0 0 t) (uK 0 db 0 0)
theorem mD {vb db:Int} (q:0<=vb/\vb<=1000000000) {t t':Tm} (h:Fm t) (hl:J6 vb db t= .ok t'):Fm t':=by
 obtain ⟨a,h1,h2⟩:=i8 hl
 exact jr (by omega) (jr q h h1) h2
theorem xN {vb db:Int} {t:Tm} {e:Int} (h:J6 vb db t= .error e):0<e/\e<=1000:=by
 rcases be h with h|⟨a,_,h⟩
 ·exact M5 t h
 ·exact M5 a h
theorem aeV (hk:Fu k) (I:Tm×Int->OS S) {c0 c1:Int} {c2:Tm} {ns:List Int} (hl:ns.length<1000) (hn: ∀x∈ns,0<=x):
  ∀ (r p:List Int) (m:Nat),ns=p++r->r.length<m->nE k I c0 c1 c2 ns m (p.length:Int)=yW k c0 c1 c2 fun q=>py.elim q (fun q=>I (q,0)) fun B=>I (ov,B):=by
 intro r
 induction r with
 |nil=>
  intro p m h z
  obtain ⟨m,rfl,A⟩:=pz z
  simp only [nE,xd,xy h,n3,ag hk,ar];rfl
 |cons x r E=>
  intro p m h z
  obtain ⟨m,rfl,A⟩:=pz z
  obtain ⟨F,J,L,M⟩:=qI h (by omega)
  have O:=hn x (by grind)
  grind [nE,xd,aY]
theorem He (hk:F3 k) {t:Tm} (q:Fm t) {vb db:Int} (z:0<=vb/\vb<=1000000) (A:0<=db/\db<9223372036854775808) (I:Tm×Int->OS S):lu k t vb db I=I (tE (J6 vb db t)):=by
 have hl:=aeV hk.fu I (c0:=db) (c1:=vb) (c2:=t) (ns:=[vb,db,1000000-vb]) (by simp) (by grind) [vb,db,1000000-vb] [] k rfl (by grind)
 have hl:nE k I db vb t [vb,db,1000000-vb] k 0=_:=hl
 simp only [lu,ag hk.fu,ar,vf (n:=1000000-vb) (by omega) (by omega),y7,BS,An q.ok (q.fd hk) (show am t<1099511627776 by have:=q.dep;omega),q.2,hl,yW]
 rw [show ((0:Int)==0)=true from rfl,va,n3,et (show 0<=vb/\vb<=1000000000 by omega) (show aG 0 by unfold aG;omega) t q.ok q.rows _ (q.fd hk) (q.vp (by omega) (by omega)),ij,Jx _ I]
 unfold J6
 rw [AS]
 refine Dc (fun y B=> ?_) fun _ _=>rfl
 have x:=jr (show 0<=vb/\vb<=1000000000 by omega) q B
 rw [et (show (0:Int)<=0/\(0:Int)<=1000000000 by omega) (show aG db by unfold aG;omega) y x.ok x.rows _ (x.fd hk) (x.vp (by omega) (by omega)),ij]
 rfl
theorem Rh {l:LC} (hl:l.length<1073741824) (I:LC->OS S):iu l I=I l:=by
 grind [iu,J5]
section
variable {hd:Tm->(Tm->OS S)->OS S}
theorem aev (hk:Fu k) (I:LT->OS S) {l:LT} (z: ∀y∈l,∀g,hd y g=g y) (hl:l.length<1073741824):
  ∀ (r p:LT) (m:Nat),l=p++r->r.length<m->ka hd k I l m p (p.length:Int)=I l:=by
 intro r
 induction r with
 |nil=>
  grind [pz,ka,yf,n3]
 |cons y r A=>
  intro p m h q
  obtain ⟨m,rfl,x⟩:=pz q
  obtain ⟨B,E,F,J⟩:=qI h (by omega)
  grind [ka,yf,ae,ar,J5]
theorem Ri (hk:Fu k) {l:LT} (q: ∀y∈l,∀g,hd y g=g y) (hl:l.length<1073741824) (I:LT->OS S):ui hd k l I=I l:=by
 simp only [ui,IS]
 exact aev hk I q hl l [] k rfl (by omega)
theorem aew (hk:Fu k) (I:Tm->OS S) {t:Tm} (x:pw t) (A: ∀b∈t.s,∀y∈b.c,∀g,hd y g=g y) (r1:LC) (r2:LT):
  ∀ (r p:LB) (m:Nat),t.s=p++r->r.length<m->qQ hd k I t r1 r2 m p (p.length:Int)=I (.mk t.k t.n t.name r1 r2 t.s):=by
 obtain ⟨O,T,W,Y,o5,o6,o7⟩:=x.no
 intro r
 induction r with
 |nil=>
  grind [pz,qQ,ye,n3]
 |cons y r B=>
  intro p m h E
  obtain ⟨m,rfl,q⟩:=pz E
  obtain ⟨F,J,L,M⟩:=qI h (by omega)
  have z:y∈t.s:=by grind
  have hb:=(x.bi z).1
  have hlen:p.length+r.length+1=t.s.length:=by grind
  simp only [qQ,ye,F,ae,J,qm,ar,L,Rh hb.2.1,ag hk,Ri hk (A y z) hb.2.2]
  rw [J5 (by grind)]
  have:=B (p++[y]) m M q
  omega
end
theorem vU (t:Tm):pw t-> ∀ {k:Nat} (I:Tm->OS S),Fd k (am t)->dJ k t I=I t:=by
 induction t using c7 with
 |h t A B=>
  intro z k I hk
  obtain ⟨q,rfl,E,hf⟩:=hk.pos' (H3 t)
  obtain ⟨L,M,O,T,F,J,W⟩:=z.no
  simp only [dJ,IP,Rh F,ag E,Ri E (fun y x g=>A y x (z.ki x) g (hf _ (bY x))) J]
  have:=aew E I z (fun b hb y x g=>B b hb y x ((z.bi hb).2 y x) g (hf _ (b8 hb x))) t.r t.c t.s [] q rfl (by omega)
  refine pr this ?_
  cases t;rfl
theorem ahz {v d d':Int} (h:24<=d) (h':24<=d') (t:Tm):cL v d t=cL v d' t:=by
 have hb: ∀kd,bX kd d=bX kd d':=fun kd=>by grind [bX,Av]
 simp_all [cL,Av]
theorem at8 (t:Tm): ∀ {v d d':Int},24<=d->24<=d'->rE false v d t=rE false v d' t:=by
 induction t using c7 with
 |h t q z=>
  intro v d d' h h'
  rw [wI,wI,ahz h h']
  have A: ∀ (l:LT) (i:Nat),(∀x∈l,x∈t.c)->bO false v d t.k i l=bO false v d' t.k i l:=by
   intro l
   induction l<;>grind [bO,bJ]
  grind [wH,av]
def td (i:Int) (r:LC) (fa:Bool):dC:=fun d f=>if bP (ie f) (i+d) then bE (eW (te r 0 d)) fun s=>eW (if fa then iG f (i+d) s else iH f (i+d) s) else .ok f
theorem D5 (f:LC):BD (ie f):=by
 have:=D6 f
 exact ⟨Int.natCast_nonneg _,by show ((fS f:Nat):Int)<_;omega⟩
theorem ahR {f r:LC} {i:Int} (q:aq r) (h:(iH f i r).2=0):RF (iH f i r).1:=by
 grind [iH,KG,N5,Mb,rA]
theorem azH (f g:LC):EN (IA f g).2:=k' _
theorem ES (f g:LC):EN (IB f g).2:=k' _
theorem agF (f g:LC):EN (MN f g).2:=k' _
theorem NM (f:LC):EN (F6 f).2:=z8 fun h c=>azH _ _
theorem ahH (i:Int) (r:LC) (c:Cl):EN (d_ i r c).2:=by
 grind [d_,azH,uq]
theorem ahJ (i:Int) (r:LC) (c:Cl) (g:LC):EN (MM i r c g).2:=by
 grind [MM,azH,NM,uq]
theorem ahG (i:Int) (r h:LC) (c:Cl):EN (dY i r h c).2:=by
 grind [dY,ES,ahJ,ahH]
theorem ahQ (f:LC) (i:Int) (r:LC):EN (iH f i r).2:=by
 grind [iH,z8,ahG,lO]
theorem agW (f:LC):EN (sa f).2:=by
 unfold sa
 split
 ·exact k' _
 ·exact lO
theorem agX (f:LC):EN (sg f).2:=by
 unfold sg
 split
 ·split
  ·exact k' _
  ·exact NM _
 ·exact lO
theorem ahM {i:Int} {c:Cl} {h:LC} {q:LC×Int} (x:EN q.2):EN (L4 i c h q).2:=by
 grind [L4,ES,agF]
theorem ahN (f:LC) (i:Int) (r:LC):EN (iG f i r).2:=by
 grind [iG,z8,IC,ahM,agW,agX,ES,lO]
theorem rB {i:Int} {r:LC} {fa:Bool} {d:Int} {f g:LC} (hf:RF f) (h:td i r fa d f= .ok g):RF g:=by
 unfold td at h
 split at h
 ·obtain ⟨s,h1,h⟩:=i8 h
  obtain ⟨q,rfl⟩:=rR h1
  have hs:=kQ q
  obtain ⟨h2,rfl⟩:=rR h
  cases fa with
  |true=>exact (ahO hf.2 hs.2 h2).1
  |false=>exact ahR hs.2 h2
 grind
theorem Bu {i:Int} {r:LC} {fa:Bool} {d:Int} {f:LC} {e:Int} (h:td i r fa d f= .error e):0<e/\e<=1000:=by
 grind [td,be,Ap,q_,EN,ahN,ahQ]
theorem QI {i:Int} {r:LC} {fa:Bool} {d:Int}:td i r fa d []= .ok []:=by
 grind [td,bP,ie,EI,D7,jJ]
def RT (i:Int) (r:LC) (fa:Bool) (d:Int) (f:LC):LC×Int:=if bP (ie f) (i+d) then if (te r 0 d).2=0 then if fa then iG f (i+d) (te r 0 d).1 else iH f (i+d) (te r 0 d).1 else ([],(te r 0 d).2) else (f,0)
theorem oJ (i:Int) (r:LC) (fa:Bool) (d:Int) (f:LC):eW (RT i r fa d f)=td i r fa d f:=by
 grind [RT,td,jF,aD,iO,lk]
section
variable {i d:Int} {r f:LC}
theorem RS (hk:Fu k) (hf:RF f) (x:RF r) (z:0<=i/\i<24) (hd:0<=d/\d<4611686018427387000) (I:LC×Int->OS S):tF k f d i r I=I (RT i r true d f):=by
 have A:=hf.len;have B:=x.len
 simp only [tF,ag hk,vf (n:=i+d) (by omega) (by omega),Ha hk hf.2 (show f.length<4294967296 by omega),rF hk (D5 f),tD,J5 (show 0+f.length<=1099511627776 by omega),vX hk x.2 (show r.length<1073741824 by omega) (show aG 0 by unfold aG;omega) (show aG d by unfold aG;omega)]
 unfold RT
 cases bP (ie f) (i+d) with
 |false=>rfl
 |true=>
  rw [va,n3,bG,if_pos rfl]
  by_cases q:(te r 0 d).2=0
  ·have hs:=kQ q
   rw [decide_eq_true q,va,n3,aje hk hf.2 hs.2 hf.lt hs.lt,if_pos q,if_pos rfl]
  grind [ae]
theorem ajW (hk:Fu k) (hf:RF f) (x:RF r) (z:0<=i/\i<24) (hd:0<=d/\d<4611686018427387000) (I:LC×Int->OS S):yF k f d i r I=I (RT i r false d f):=by
 have A:=hf.len;have B:=x.len
 simp only [yF,ag hk,vf (n:=i+d) (by omega) (by omega),Ha hk hf.2 (show f.length<4294967296 by omega),rF hk (D5 f),tD,J5 (show 0+f.length<=1099511627776 by omega),vX hk x.2 (show r.length<1073741824 by omega) (show aG 0 by unfold aG;omega) (show aG d by unfold aG;omega)]
 unfold RT
 cases bP (ie f) (i+d) with
 |false=>rfl
 |true=>
  rw [va,n3,bG,if_pos rfl]
  by_cases q:(te r 0 d).2=0
  ·have hs:=kQ q
   rw [decide_eq_true q,va,n3,ajb hk hf.2 hs.2 hf.lt hs.lt,if_pos q,if_neg (by decide)]
  grind [ae]
end
def jU (j:Int) (c:Cl):Cl:=⟨pI c.pos j,pI c.neg j⟩
def ue (j:Int) (f:LC):LC:=(bp (f.map (jU j))).1
theorem JR (s j:Int):0<=pI s j/\pI s j<16777216:=by
 have:=aam s.toNat j
 exact ⟨Int.natCast_nonneg _,by show ((j7 s.toNat j:Nat):Int)<_;omega⟩
theorem DA (j:Int) (c:Cl):RC (jU j c):=⟨JR _ _,JR _ _⟩
theorem DD (j:Int) (f:LC): ∀c∈f.map (jU j),RC c:=fun c hc=>by
 grind [DA]
theorem DC {j:Int} {f:LC} (hf:f.length<=64):bp (f.map (jU j))=(ue j f,0):=Prod.ext rfl (LH (DD j f) (by grind))
theorem aad {j:Int} {f:LC} (hf:f.length<=64):RF (ue j f):=qX (fun c hc=>(DD j f c hc).ok) (by rw [DC hf])
theorem agO: ∀ (n:Nat) {l:LC} {c:Cl},(l.filter fun d=>dR c d&& !decide (d=c)).length<=n->(∀d∈l,RC d)->c∈l-> ∃d∈l,ce l d=true:=by
 have hle: ∀ {a b:Cl},RC a->RC b->(dR a b=true↔(∀j,b.pos.toNat.testBit j=true->a.pos.toNat.testBit j=true)/\ ∀j,b.neg.toNat.testBit j=true->a.neg.toNat.testBit j=true):=by
  intro a b ha hb
  unfold dR d9
  rw [decide_eq_true_eq]
  have O: ∀ {x y:Int},0<=x->(ep x y=x↔ ∀j,y.toNat.testBit j=true->x.toNat.testBit j=true):=by
   intro x y B
   unfold ep
   constructor
   ·intro h j hj
    have:(x.toNat|||y.toNat)=x.toNat:=by omega
    grind
   ·intro h
    have:(x.toNat|||y.toNat)=x.toNat:=by
     apply Nat.eq_of_testBit_eq
     grind
    omega
  cases a with
  |mk p q=>
   have h1:0<=p:=ha.1.1
   have h2:0<=q:=ha.2.1
   grind
 have E: ∀ {a b:Cl},RC a->RC b->dR a b=true->dR b a=true->a=b:=by
  intro a b ha hb h1 h2
  have J:=(hle ha hb).1 h1
  have L:=(hle hb ha).1 h2
  have B: ∀ {x y:Int},0<=x->0<=y->(∀j,y.toNat.testBit j=true->x.toNat.testBit j=true)->(∀j,x.toNat.testBit j=true->y.toNat.testBit j=true)->x=y:=by
   intro x y B hy a b
   have:x.toNat=y.toNat:=by
    apply Nat.eq_of_testBit_eq
    grind
   omega
  cases a;cases b
  have p1:=B ha.1.1 hb.1.1 J.1 L.1
  have p2:=B ha.2.1 hb.2.1 J.2 L.2
  grind
 intro n
 induction n with
 |zero=>
  grind [ce,List.filter_eq_nil_iff]
 |succ n T=>
  intro l c hn hl hc
  by_cases h:ce l c=true
  ·grind
  ·unfold ce at h
   rw [xq] at h
   have: ∃d∈l,¬ ((decide (d=c)|| !dR c d)=true):=Classical.byContradiction fun W=>h fun d hd=>Classical.byContradiction fun h2=>W ⟨d,hd,h2⟩
   obtain ⟨d,hd,F⟩:=this
   have h1:d≠c:=fun h=>F (by grind)
   have h2:dR c d=true:=by
    grind
   refine T (c:=d) ?_ hl hd
   have M:(l.filter fun e=>dR d e&& !decide (e=d)).length<(l.filter fun e=>dR c e&& !decide (e=c)).length:=by
    have Y:=hl c hc;have ad:=hl d hd
    have himp: ∀e∈l,(dR d e&& !decide (e=d))=true->(dR c e&& !decide (e=c))=true:=by
     grind
    have A: ∀ (p q:Cl->Bool) (m:LC),(∀e∈m,p e=true->q e=true)->(m.filter p).length<=(m.filter q).length:=by
     intro p q m
     induction m<;>grind
    have I: ∀ (p q:Cl->Bool) (m:LC),(∀e∈m,p e=true->q e=true)->d∈m->p d=false->q d=true->(m.filter p).length<(m.filter q).length:=by
     intro p q m
     induction m with
     |nil=>simp
     |cons e m im=>
      intro hm hdm hp hq
      have z: ∀e∈m,p e=true->q e=true:=fun e he=>hm e (by simp [he])
      have hb:=A p q m z
      rcases xt.1 hdm with rfl|hdm<;>grind
    exact I _ _ l himp hd (by simp) (by grind)
   omega
theorem JE {j:Int} {f:LC} (hf:RF f):(ue j f).length=0↔f.length=0:=by
 have h:=DC (j:=j) hf.len
 have z:=(As h).1
 constructor
 ·intro q
  apply Classical.byContradiction
  intro x
  obtain ⟨c,hc⟩:=List.exists_mem_of_length_pos (l:=f.map (jU j)) (by grind)
  obtain ⟨d,hd,hn⟩:=agO _ (bu _) (DD j f) hc
  have:d∈ue j f:=by grind [sZ]
  grind
 ·intro q
  have:=Ix.1 q
  subst this;rfl
theorem aeC (hk:Fu k) (I:LC×Int->OS S) {i d:Int} (T:0<=i/\i<24) (hd:0<=d/\d<4611686018427387000) {f:LC} (hf:aq f) (hlen:f.length<1073741824):
  ∀ (r p:LC) (m:Nat) (o:LC),f=p++r->r.length<m->aq o->o.length=p.length->xf k I i d f m (p.length:Int) o=I (bp (o++r.map (jU (i+d)))):=by
 intro r
 induction r with
 |nil=>
  intro p m o h A q ho
  obtain ⟨m,rfl,z⟩:=pz A
  grind [xf,wN,n3,ag,kX]
 |cons x r E=>
  intro p m o h A q ho
  obtain ⟨m,rfl,z⟩:=pz A
  obtain ⟨F,J,L,M⟩:=qI h (by omega)
  have B:aX x:=hf x (by grind)
  have O:p.length<f.length:=by grind
  simp only [xf,wN,F,ae,J,qm,ag hk,vf (n:=i+d) (by omega) (by omega),Q4 hk B.1,Q4 hk B.2,L]
  rw [J5 (by grind)]
  have:=E (p++[x]) m (o++[jU (i+d) x]) M z (M6 q fun c hc=>by simp at hc;subst hc;exact (DA _ _).ok) (by grind)
  refine pr this ?_
  simp
theorem Rl (hk:Fu k) {i d:Int} (q:0<=i/\i<24) (hd:0<=d/\d<4611686018427387000) {f:LC} (hf:RF f) (I:LC×Int->OS S):pc k f d i I=I (ue (i+d) f,0):=by
 have x:=hf.len
 have:=aeC hk I q hd hf.2 (by omega) f [] k [] rfl (by omega) (fun c hc=>by cases hc) rfl
 grind [pc,Hx,DC]
theorem B4 (fo fa:dC) (d:Int) (t:Tm):ub fo fa d t=bE (if t.k=14 then fa d t.r else fo d t.r) fun z=>bE (aig fo fa d t.k 0 t.c) fun x=>bE (uL fo fa d t.k t.s) fun q=> .ok (.mk t.k t.n t.name z x q):=by cases t;rfl
theorem Ja {fo fa:dC} {d:Int} {x y:Tm} (h:ub fo fa d x= .ok y):y.k=x.k:=by
 rw [B4] at h
 obtain ⟨_,_,h⟩:=i8 h
 obtain ⟨_,_,h⟩:=i8 h
 obtain ⟨_,_,h⟩:=i8 h
 injection h with h;subst h;rfl
theorem B3 (fo fa:dC) (d kd:Int) (b:Br Tm):Km fo fa d kd b=bE (fa d b.f) fun x=>if x.length=0 then .ok [] else bE (xD fo fa d kd b.c) fun q=> .ok [.mk x q]:=by cases b;rfl
section
variable {fo fa:dC} (hfo: ∀d f e,fo d f= .error e->0<e/\e<=1000) (hfa: ∀d f e,fa d f= .error e->0<e/\e<=1000)
include hfo hfa
theorem jK (t:Tm): ∀ {d e},ub fo fa d t= .error e->0<e/\e<=1000:=by
 induction t using gq with
 |h kd n nm r J sys E F=>
  intro d e h
  rw [ub] at h
  rcases be h with h|⟨_,_,h⟩
  ·grind
  have q: ∀ {l:LT} {i:Nat},(∀x∈l,∀ {d e},ub fo fa d x= .error e->0<e/\e<=1000)->aig fo fa d kd i l= .error e->0<e/\e<=1000:=by
   intro l
   induction l with
   |nil=>grind [aig]
   |cons t l A=>
    intro i hl h
    rw [aig] at h
    rcases be h with h|⟨_,_,h⟩
    ·exact hl t (by simp) h
    grind [be]
  have z: ∀ {l:LT},(∀x∈l,∀ {d e},ub fo fa d x= .error e->0<e/\e<=1000)-> ∀ {e},xD fo fa d kd l= .error e->0<e/\e<=1000:=by
   intro l
   induction l with
   |nil=>grind [xD]
   |cons t l A=>
    intro hl e h
    rw [xD] at h
    rcases be h with h|⟨_,_,h⟩
    ·grind
    ·rcases be h with h|⟨_,_,h⟩
     ·exact A (fun x I=>hl x (by simp [I])) h
     simp_all
  have B: ∀ {l:LB},(∀b∈l,∀x∈b.c,∀ {d e},ub fo fa d x= .error e->0<e/\e<=1000)->uL fo fa d kd l= .error e->0<e/\e<=1000:=by
   intro l
   induction l<;>grind [uL,be,B3]
  grind [be]
theorem Ug {kd d:Int}: ∀ {l:LT} {i:Nat} {e:Int},aig fo fa d kd i l= .error e->0<e/\e<=1000:=by
 intro l
 induction l with
 |nil=>grind [aig]
 |cons t l q=>
  intro i e h
  rw [aig] at h
  rcases be h with h|⟨_,_,h⟩
  ·exact jK hfo hfa t h
  grind [be]
theorem Uh {kd d:Int}: ∀ {l:LT} {e:Int},xD fo fa d kd l= .error e->0<e/\e<=1000:=by
 intro l
 induction l<;>grind [xD,be,jK]
end
theorem hZ {α β:Type} (x:Except Int Tm) (q: ∀e,x= .error e->0<e/\e<=1000) (f:Tm->α) (g:Int->α):(fun r:Tm×Int=>ab (!(r.2==0)) (g r.2) (f r.1)) (tE x)=eE x f g:=by
 cases x with
 |ok t=>rfl
 |error e=>
  have:=(q e rfl).1
  show ab (!(e==0)) (g e) (f ov)=g e
  grind [decide_eq_false,ae]
theorem AM {α β γ:Type} (x:Except Int α) (q: ∀e,x= .error e->0<e/\e<=1000) (z:α) (f:α->β) (g:Int->β):eE x (fun l=>(fun r:α×Int=>ab (!(r.2==0)) (g r.2) (f r.1)) (l,0)) (fun e=>(fun r:α×Int=>ab (!(r.2==0)) (g r.2) (f r.1)) (z,e))=eE x f g:=by
 cases x with
 |ok t=>rfl
 |error e=>
  have:=(q e rfl).1
  show ab (!(e==0)) (g e) (f z)=g e
  grind [decide_eq_false,ae]
theorem mo {G:Int->LC->LC}: ∀d f e,j0 G d f= .error e->0<e/\e<=1000:=fun d f e h=>by cases h
theorem jD {i:Int} {r:LC} {fa:Bool}: ∀d f e,td i r fa d f= .error e->0<e/\e<=1000:=fun d f e h=>Bu h
section
variable {hd:Tm->Int->Int->LC->(Tm×Int->OS S)->OS S} {i d:Int} {t:Tm} {r:LC}
theorem ahV (hk:Fu k) (A:0<=i/\i<24) (B:RF r) (E:0<=d/\d<4611686018427386000) (x:q7 t) (I:LC×Int->OS S): ∃z:LC×Int,eW z=(if t.k=14 then (td i r true) d t.r else (td i r false) d t.r)/\yG k t d i r I=I z:=by
 have q:=x.no.1
 simp only [yG,ag hk,RS hk q B A (show 0<=d/\d<4611686018427387000 by omega),ajW hk q B A (show 0<=d/\d<4611686018427387000 by omega)]
 by_cases h:t.k=14
 ·rw [h,if_pos rfl,show ((14:Int)==14)=true from rfl,ae]
  grind [oJ]
 ·rw [if_neg h,show (t.k==14)=false from by grind,n3]
  grind [oJ]
theorem ahS (hk:Fu k) (I:LT×Int->OS S) (B:0<=d/\d<4611686018427386000) (E: ∀y∈t.c,∀b,0<=b/\b<=1-> ∀g,hd y (d+b) i r g=g (tE (ub (td i r false) (td i r true) (d+b) y))) (hl:t.c.length<1073741824):
  ∀ (q p:LT) (m:Nat) (acc:LT),t.c=p++q->q.length<m->acc.length=p.length->
  lX hd k I i r t t.c d m acc (p.length:Int)=eE (aig (td i r false) (td i r true) d t.k p.length q) (fun l=>I (acc++l,0)) fun e=>I ([],e):=by
 intro q
 induction q with
 |nil=>
  grind [pz,lX,wR,n3,aig,aP]
 |cons y q F=>
  intro p m acc h J ha
  obtain ⟨m,rfl,x⟩:=pz J
  obtain ⟨L,M,O,T⟩:=qI h (by omega)
  have W:p.length<t.c.length:=by grind
  have A:=gr t.k p.length
  have Y:=E y (by grind) (bJ t.k p.length) A
  simp only [lX,wR,L,ae,M,qm,ag hk,tG,jE,ar,vf (n:=d+bJ t.k p.length) (by omega) (by omega),Y]
  refine pr (hZ (β:=Unit) _ (fun e he=>jK jD jD y he) (fun z=>oe (aw 1099511627776 acc.length [z].length) fun _=>lX hd k I i r t t.c d m (acc++[z]) (ou .i64 ((p.length:Int)+1))) fun e=>I ([],e)) ?_
  simp only [aig,AS,aP]
  refine Dc (fun t' ad=> ?_) fun e _=>rfl
  rw [J5 (by grind),O,F (p++[y]) m (acc++[t']) T x (by grind),show (p++[y]).length=p.length+1 by simp]
  simp
theorem ahT (hk:Fu k) (I:LT×Int->OS S) {x:Br Tm} {kd:Int} (B:0<=d/\d<4611686018427386000) (E: ∀y∈x.c,∀g,hd y (d+av kd) i r g=g (tE (ub (td i r false) (td i r true) (d+av kd) y))) (hl:x.c.length<1073741824):
  ∀ (q p:LT) (m:Nat) (acc:LT),x.c=p++q->q.length<m->acc.length=p.length->
  lW hd k I i r (av kd) x.c d m acc (p.length:Int)=eE (xD (td i r false) (td i r true) d kd q) (fun l=>I (acc++l,0)) fun e=>I ([],e):=by
 have F:=K5 kd
 intro q
 induction q with
 |nil=>
  grind [pz,lW,wQ,n3,xD,aP]
 |cons y q J=>
  intro p m acc h L ha
  obtain ⟨m,rfl,A⟩:=pz L
  obtain ⟨M,O,T,W⟩:=qI h (by omega)
  have Y:p.length<x.c.length:=by grind
  have hy:=E y (by grind)
  simp only [lW,wQ,M,ae,O,qm,ag hk,tH,ar,vf (n:=d+av kd) (by omega) (by omega),hy]
  refine pr (hZ (β:=Unit) _ (fun e he=>jK jD jD y he) (fun z=>oe (aw 1099511627776 acc.length [z].length) fun _=>lW hd k I i r (av kd) x.c d m (acc++[z]) (ou .i64 ((p.length:Int)+1))) fun e=>I ([],e)) ?_
  simp only [xD,AS,aP]
  refine Dc (fun t' ad=> ?_) fun e _=>rfl
  rw [J5 (by grind),T,J (p++[y]) m (acc++[t']) W A (by grind)]
  simp
theorem ahU (hk:Fu k) (I:Tm×Int->OS S) (hi:0<=i/\i<24) (hr:RF r) (J:0<=d/\d<4611686018427386000) {r1:LC×Int} {r2:LT×Int} (Y:pw t) (L:q7 t) (hQ: ∀b∈t.s,∀y∈b.c,∀g,hd y (d+av t.k) i r g=g (tE (ub (td i r false) (td i r true) (d+av t.k) y))):
  ∀ (B p:LB) (m:Nat) (o:LB),t.s=p++B->B.length<m->o.length<=p.length->
  fV hd k I i r t r1 r2 d m (av t.k) o (p.length:Int)=eE (uL (td i r false) (td i r true) d t.k B) (fun s=>I (.mk t.k t.n t.name r1.1 r2.1 (o++s),0)) fun e=>I (ov,e):=by
 obtain ⟨o1,o2,o3,o4,o5,o6,o7⟩:=Y.no
 intro B
 induction B with
 |nil=>
  grind [pz,fV,wS,n3,uL,aP]
 |cons x B ih=>
  intro p m o h M ho
  obtain ⟨m,rfl,E⟩:=pz M
  obtain ⟨e1,e2,e3,e4⟩:=qI h (by omega)
  have O:x∈t.s:=by grind
  have ad:p.length<t.s.length:=by grind
  have hb:=(Y.bi O).1
  have T:=(L.bi O).1
  have hM:=fun g:LT×Int->OS S=>ahT (kd:=t.k) hk g J (hQ x O) hb.2.2 x.c [] k [] rfl (by omega) rfl
  have hM: ∀g:LT×Int->OS S,lW hd k g i r (av t.k) x.c d k [] 0=_:=hM
  simp only [fV,wS,e1,ae,e2,qm,ag hk,RS hk T hr hi (show 0<=d/\d<4611686018427387000 by omega),DK,HB,hM,e3,zi]
  have W:=fun q:LC=>AM (β:=OS S) (γ:=Unit) (xD (td i r false) (td i r true) d t.k x.c) (fun e he=>Uh jD jD he) [] (fun l=>oe (aw 1099511627776 o.length [Br.mk q l].length) fun _=>fV hd k I i r t r1 r2 d m (av t.k) (o++[Br.mk q l]) (((p++[x]).length:Nat):Int)) fun e=>I (ov,e)
  refine pr (wx (z:=(RT i r true d x.f)) (fun q=>ab (((q.length:Nat):Int)==0) (fV hd k I i r t r1 r2 d m (av t.k) o (((p++[x]).length:Nat):Int)) (eE (xD (td i r false) (td i r true) d t.k x.c) (fun l=>(fun A:LT×Int=>ab (!(A.2==0)) (I (ov,A.2)) (oe (aw 1099511627776 o.length [Br.mk q A.1].length) fun _=>fV hd k I i r t r1 r2 d m (av t.k) (o++[Br.mk q A.1]) (((p++[x]).length:Nat):Int))) (l,0)) fun e=>(fun A:LT×Int=>ab (!(A.2==0)) (I (ov,A.2)) (oe (aw 1099511627776 o.length [Br.mk q A.1].length) fun _=>fV hd k I i r t r1 r2 d m (av t.k) (o++[Br.mk q A.1]) (((p++[x]).length:Nat):Int))) ([],e))) fun e=>I (ov,e)) ?_
  rw [show eW (RT i r true d x.f)=(td i r true) d x.f from oJ _ _ _ _ _]
  rw [uL,B3,AS,AS]
  refine Dc (fun q ao=> ?_) fun e _=>rfl
  rw [qY,aY]
  by_cases F:q.length=0
  ·rw [if_pos F,if_pos F,aP,AS,ih (p++[x]) m o e4 E (by grind)]
   rfl
  ·rw [if_neg F,if_neg F,W q,AS]
   refine Dc (fun l hl=> ?_) fun e _=>rfl
   rw [aP,AS,J5 (by grind),ih (p++[x]) m (o++[Br.mk q l]) e4 E (by grind)]
   grind [aP]
end
theorem ahW {i:Int} {r:LC} (W:0<=i/\i<24) (Y:RF r) (t:Tm):pw t->q7 t-> ∀ {k:Nat} {d:Int} (I:Tm×Int->OS S),Fd k (am t)->0<=d->d+am t<4611686018427386000->d7 k t d i r I=I (tE (ub (td i r false) (td i r true) d t)):=by
 induction t using c7 with
 |h t M O=>
  intro F A k d I hk hv ad
  obtain ⟨q,rfl,J,hf⟩:=hk.pos' (H3 t)
  have hp:=H3 t
  have B:0<=d/\d<4611686018427386000:=by omega
  obtain ⟨o1,o2,o3,o4,o5,o6,o7⟩:=F.no
  have ao:=K5 t.k
  have hQ: ∀y∈t.c,∀b,0<=b/\b<=1-> ∀g:Tm×Int->OS S,d7 q y (d+b) i r g=g (tE (ub (td i r false) (td i r true) (d+b) y)):=fun y x b h2 g=>
   M y x (F.ki x) (A.ki x) g (hf _ (bY x)) (by omega) (by have:=bY x;omega)
  have T: ∀b∈t.s,∀y∈b.c,∀g:Tm×Int->OS S,d7 q y (d+av t.k) i r g=g (tE (ub (td i r false) (td i r true) (d+av t.k) y)):=fun b hb y x g=>
   O b hb y x ((F.bi hb).2 y x) ((A.bi hb).2 y x) g (hf _ (b8 hb x)) (by omega) (by have:=b8 hb x;omega)
  have hK: ∀g:LT×Int->OS S,lX (d7 q) q g i r t t.c d q [] 0=_:=fun g=>ahS J g B hQ o6 t.c [] q [] rfl (by omega) rfl
  have hS:=fun (r1:LC×Int) (r2:LT×Int)=>ahU (r1:=r1) (r2:=r2) J I W Y B F A T t.s [] q [] rfl (by omega) (bu _)
  have hS: ∀ (r1:LC×Int) (r2:LT×Int),fV (d7 q) q I i r t r1 r2 d q (av t.k) [] 0=_:=hS
  have E: ∀ (r1:LC×Int) (r2:LT×Int),ab (t.k==15) (fV (d7 q) q I i r t r1 r2 d q 1 [] 0) (fV (d7 q) q I i r t r1 r2 d q 0 [] 0)=eE (uL (td i r false) (td i r true) d t.k t.s) (fun s=>I (.mk t.k t.n t.name r1.1 r2.1 s,0)) fun e=>I (ov,e):=by
   grind [cH,av]
  obtain ⟨z,hz,qk⟩:=ahV J W Y B A (fun r1=>ab (!(r1.2==0)) (I (ov,r1.2)) (eE (aig (td i r false) (td i r true) d t.k 0 t.c) (fun l=>(fun r2:LT×Int=>ab (!(r2.2==0)) (I (ov,r2.2)) (eE (uL (td i r false) (td i r true) d t.k t.s) (fun s=>I (.mk t.k t.n t.name r1.1 r2.1 s,0)) fun e=>I (ov,e))) (l,0)) fun e=>(fun r2:LT×Int=>ab (!(r2.2==0)) (I (ov,r2.2)) (eE (uL (td i r false) (td i r true) d t.k t.s) (fun s=>I (.mk t.k t.n t.name r1.1 r2.1 s,0)) fun e=>I (ov,e))) ([],e)))
  simp only [d7,HF,ag J,ar,DL,HC,hK,E,zi,List.length_nil]
  refine pr qk ?_
  rw [Jx _ I,B4,<-hz]
  refine pr (wx (z:=z) (fun L=>eE (aig (td i r false) (td i r true) d t.k 0 t.c) (fun l=>(fun r2:LT×Int=>ab (!(r2.2==0)) (I (ov,r2.2)) (eE (uL (td i r false) (td i r true) d t.k t.s) (fun s=>I (.mk t.k t.n t.name L r2.1 s,0)) fun e=>I (ov,e))) (l,0)) fun e=>(fun r2:LT×Int=>ab (!(r2.2==0)) (I (ov,r2.2)) (eE (uL (td i r false) (td i r true) d t.k t.s) (fun s=>I (.mk t.k t.n t.name L r2.1 s,0)) fun e=>I (ov,e))) ([],e)) fun e=>I (ov,e)) ?_
  rw [AS]
  refine Dc (fun L _=> ?_) fun e _=>rfl
  refine pr (AM (β:=OS S) (γ:=Unit) (aig (td i r false) (td i r true) d t.k 0 t.c) (fun e he=>Ug jD jD he) [] (fun l=>eE (uL (td i r false) (td i r true) d t.k t.s) (fun s=>I (.mk t.k t.n t.name L l s,0)) fun e=>I (ov,e)) fun e=>I (ov,e)) ?_
  simp only [AS,aP]
section
variable {hd:Tm->Int->Int->(Tm×Int->OS S)->OS S} {i d:Int} {t:Tm}
theorem aaq (hk:Fu k) (A:0<=i/\i<24) (B:0<=d/\d<4611686018427386000) (q:q7 t) (I:LC×Int->OS S): ∃z:LC×Int,eW z=(if t.k=14 then (j0 fun d f=>ue (i+d) f) d t.r else (j0 fun d f=>ue (i+d) f) d t.r)/\yH k t d i I=I z:=by
 have x:=q.no.1
 simp only [yH,ag hk,Rl hk A (show 0<=d/\d<4611686018427387000 by omega) x]
 by_cases h:t.k=14
 ·rw [h,if_pos rfl,show ((14:Int)==14)=true from rfl,ae]
  exact ⟨_,rfl,rfl⟩
 ·rw [if_neg h,show (t.k==14)=false from by grind,n3]
  exact ⟨_,rfl,rfl⟩
theorem aan (hk:Fu k) (I:LT×Int->OS S) (B:0<=d/\d<4611686018427386000) (E: ∀y∈t.c,∀b,0<=b/\b<=1-> ∀g,hd y (d+b) i g=g (tE (ub (j0 fun d f=>ue (i+d) f) (j0 fun d f=>ue (i+d) f) (d+b) y))) (hl:t.c.length<1073741824):
  ∀ (q p:LT) (m:Nat) (acc:LT),t.c=p++q->q.length<m->acc.length=p.length->
  lV hd k I i t t.c d m acc (p.length:Int)=eE (aig (j0 fun d f=>ue (i+d) f) (j0 fun d f=>ue (i+d) f) d t.k p.length q) (fun l=>I (acc++l,0)) fun e=>I ([],e):=by
 intro q
 induction q with
 |nil=>
  grind [pz,lV,wP,n3,aig,aP]
 |cons y q F=>
  intro p m acc h J ha
  obtain ⟨m,rfl,x⟩:=pz J
  obtain ⟨L,M,O,T⟩:=qI h (by omega)
  have W:p.length<t.c.length:=by grind
  have A:=gr t.k p.length
  have Y:=E y (by grind) (bJ t.k p.length) A
  simp only [lV,wP,L,ae,M,qm,ag hk,tG,jE,ar,vf (n:=d+bJ t.k p.length) (by omega) (by omega),Y]
  refine pr (hZ (β:=Unit) _ (fun e he=>jK mo mo y he) (fun z=>oe (aw 1099511627776 acc.length [z].length) fun _=>lV hd k I i t t.c d m (acc++[z]) (ou .i64 ((p.length:Int)+1))) fun e=>I ([],e)) ?_
  simp only [aig,AS,aP]
  refine Dc (fun t' ad=> ?_) fun e _=>rfl
  rw [J5 (by grind),O,F (p++[y]) m (acc++[t']) T x (by grind),show (p++[y]).length=p.length+1 by simp]
  simp
theorem aao (hk:Fu k) (I:LT×Int->OS S) {x:Br Tm} {kd:Int} (B:0<=d/\d<4611686018427386000) (E: ∀y∈x.c,∀g,hd y (d+av kd) i g=g (tE (ub (j0 fun d f=>ue (i+d) f) (j0 fun d f=>ue (i+d) f) (d+av kd) y))) (hl:x.c.length<1073741824):
  ∀ (q p:LT) (m:Nat) (acc:LT),x.c=p++q->q.length<m->acc.length=p.length->
  lU hd k I i (av kd) x.c d m acc (p.length:Int)=eE (xD (j0 fun d f=>ue (i+d) f) (j0 fun d f=>ue (i+d) f) d kd q) (fun l=>I (acc++l,0)) fun e=>I ([],e):=by
 have F:=K5 kd
 intro q
 induction q with
 |nil=>
  grind [pz,lU,wO,n3,xD,aP]
 |cons y q J=>
  intro p m acc h L ha
  obtain ⟨m,rfl,A⟩:=pz L
  obtain ⟨M,O,T,W⟩:=qI h (by omega)
  have Y:p.length<x.c.length:=by grind
  have hy:=E y (by grind)
  simp only [lU,wO,M,ae,O,qm,ag hk,tH,ar,vf (n:=d+av kd) (by omega) (by omega),hy]
  refine pr (hZ (β:=Unit) _ (fun e he=>jK mo mo y he) (fun z=>oe (aw 1099511627776 acc.length [z].length) fun _=>lU hd k I i (av kd) x.c d m (acc++[z]) (ou .i64 ((p.length:Int)+1))) fun e=>I ([],e)) ?_
  simp only [xD,AS,aP]
  refine Dc (fun t' ad=> ?_) fun e _=>rfl
  rw [J5 (by grind),T,J (p++[y]) m (acc++[t']) W A (by grind)]
  simp
theorem aap (hk:Fu k) (I:Tm×Int->OS S) (hi:0<=i/\i<24) (J:0<=d/\d<4611686018427386000) {r1:LC×Int} {r2:LT×Int} (Y:pw t) (L:q7 t) (hQ: ∀b∈t.s,∀y∈b.c,∀g,hd y (d+av t.k) i g=g (tE (ub (j0 fun d f=>ue (i+d) f) (j0 fun d f=>ue (i+d) f) (d+av t.k) y))):
  ∀ (B p:LB) (m:Nat) (o:LB),t.s=p++B->B.length<m->o.length<=p.length->
  L6 hd k I i t r1 r2 d m (av t.k) o (p.length:Int)=eE (uL (j0 fun d f=>ue (i+d) f) (j0 fun d f=>ue (i+d) f) d t.k B) (fun s=>I (.mk t.k t.n t.name r1.1 r2.1 (o++s),0)) fun e=>I (ov,e):=by
 obtain ⟨o1,o2,o3,o4,o5,o6,o7⟩:=Y.no
 intro B
 induction B with
 |nil=>
  grind [pz,L6,wT,n3,uL,aP]
 |cons x B ih=>
  intro p m o h M ho
  obtain ⟨m,rfl,E⟩:=pz M
  obtain ⟨e1,e2,e3,e4⟩:=qI h (by omega)
  have O:x∈t.s:=by grind
  have ad:p.length<t.s.length:=by grind
  have hb:=(Y.bi O).1
  have T:=(L.bi O).1
  have hM:=fun g:LT×Int->OS S=>aao (kd:=t.k) hk g J (hQ x O) hb.2.2 x.c [] k [] rfl (by omega) rfl
  have hM: ∀g:LT×Int->OS S,lU hd k g i (av t.k) x.c d k [] 0=_:=hM
  simp only [L6,wT,e1,ae,e2,qm,ag hk,Rl hk hi (show 0<=d/\d<4611686018427387000 by omega) T,DI,Hz,hM,e3,zi]
  have W:=fun q:LC=>AM (β:=OS S) (γ:=Unit) (xD (j0 fun d f=>ue (i+d) f) (j0 fun d f=>ue (i+d) f) d t.k x.c) (fun e he=>Uh mo mo he) [] (fun l=>oe (aw 1099511627776 o.length [Br.mk q l].length) fun _=>L6 hd k I i t r1 r2 d m (av t.k) (o++[Br.mk q l]) (((p++[x]).length:Nat):Int)) fun e=>I (ov,e)
  refine pr (wx (z:=(ue (i+d) x.f,(0:Int))) (fun q=>ab (((q.length:Nat):Int)==0) (L6 hd k I i t r1 r2 d m (av t.k) o (((p++[x]).length:Nat):Int)) (eE (xD (j0 fun d f=>ue (i+d) f) (j0 fun d f=>ue (i+d) f) d t.k x.c) (fun l=>(fun A:LT×Int=>ab (!(A.2==0)) (I (ov,A.2)) (oe (aw 1099511627776 o.length [Br.mk q A.1].length) fun _=>L6 hd k I i t r1 r2 d m (av t.k) (o++[Br.mk q A.1]) (((p++[x]).length:Nat):Int))) (l,0)) fun e=>(fun A:LT×Int=>ab (!(A.2==0)) (I (ov,A.2)) (oe (aw 1099511627776 o.length [Br.mk q A.1].length) fun _=>L6 hd k I i t r1 r2 d m (av t.k) (o++[Br.mk q A.1]) (((p++[x]).length:Nat):Int))) ([],e))) fun e=>I (ov,e)) ?_
  rw [show eW (ue (i+d) x.f,(0:Int))=(j0 fun d f=>ue (i+d) f) d x.f from rfl]
  rw [uL,B3,AS,AS]
  refine Dc (fun q ao=> ?_) fun e _=>rfl
  rw [qY,aY]
  by_cases F:q.length=0
  ·rw [if_pos F,if_pos F,aP,AS,ih (p++[x]) m o e4 E (by grind)]
   rfl
  ·rw [if_neg F,if_neg F,W q,AS]
   refine Dc (fun l hl=> ?_) fun e _=>rfl
   rw [aP,AS,J5 (by grind),ih (p++[x]) m (o++[Br.mk q l]) e4 E (by grind)]
   grind [aP]
end
theorem aar {i:Int} (W:0<=i/\i<24) (t:Tm):pw t->q7 t-> ∀ {k:Nat} {d:Int} (I:Tm×Int->OS S),Fd k (am t)->0<=d->d+am t<4611686018427386000->dT k t d i I=I (tE (ub (j0 fun d f=>ue (i+d) f) (j0 fun d f=>ue (i+d) f) d t)):=by
 induction t using c7 with
 |h t M O=>
  intro F A k d I hk hv ad
  obtain ⟨q,rfl,J,hf⟩:=hk.pos' (H3 t)
  have hp:=H3 t
  have B:0<=d/\d<4611686018427386000:=by omega
  obtain ⟨o1,o2,o3,o4,o5,o6,o7⟩:=F.no
  have ao:=K5 t.k
  have hQ: ∀y∈t.c,∀b,0<=b/\b<=1-> ∀g:Tm×Int->OS S,dT q y (d+b) i g=g (tE (ub (j0 fun d f=>ue (i+d) f) (j0 fun d f=>ue (i+d) f) (d+b) y)):=fun y x b h2 g=>
   M y x (F.ki x) (A.ki x) g (hf _ (bY x)) (by omega) (by have:=bY x;omega)
  have T: ∀b∈t.s,∀y∈b.c,∀g:Tm×Int->OS S,dT q y (d+av t.k) i g=g (tE (ub (j0 fun d f=>ue (i+d) f) (j0 fun d f=>ue (i+d) f) (d+av t.k) y)):=fun b hb y x g=>
   O b hb y x ((F.bi hb).2 y x) ((A.bi hb).2 y x) g (hf _ (b8 hb x)) (by omega) (by have:=b8 hb x;omega)
  have hK: ∀g:LT×Int->OS S,lV (dT q) q g i t t.c d q [] 0=_:=fun g=>aan J g B hQ o6 t.c [] q [] rfl (by omega) rfl
  have Y:=fun (r1:LC×Int) (r2:LT×Int)=>aap (r1:=r1) (r2:=r2) J I W B F A T t.s [] q [] rfl (by omega) (bu _)
  have Y: ∀ (r1:LC×Int) (r2:LT×Int),L6 (dT q) q I i t r1 r2 d q (av t.k) [] 0=_:=Y
  have E: ∀ (r1:LC×Int) (r2:LT×Int),ab (t.k==15) (L6 (dT q) q I i t r1 r2 d q 1 [] 0) (L6 (dT q) q I i t r1 r2 d q 0 [] 0)=eE (uL (j0 fun d f=>ue (i+d) f) (j0 fun d f=>ue (i+d) f) d t.k t.s) (fun s=>I (.mk t.k t.n t.name r1.1 r2.1 s,0)) fun e=>I (ov,e):=by
   grind [cH,av]
  obtain ⟨z,hz,qk⟩:=aaq J W B A (fun r1=>ab (!(r1.2==0)) (I (ov,r1.2)) (eE (aig (j0 fun d f=>ue (i+d) f) (j0 fun d f=>ue (i+d) f) d t.k 0 t.c) (fun l=>(fun r2:LT×Int=>ab (!(r2.2==0)) (I (ov,r2.2)) (eE (uL (j0 fun d f=>ue (i+d) f) (j0 fun d f=>ue (i+d) f) d t.k t.s) (fun s=>I (.mk t.k t.n t.name r1.1 r2.1 s,0)) fun e=>I (ov,e))) (l,0)) fun e=>(fun r2:LT×Int=>ab (!(r2.2==0)) (I (ov,r2.2)) (eE (uL (j0 fun d f=>ue (i+d) f) (j0 fun d f=>ue (i+d) f) d t.k t.s) (fun s=>I (.mk t.k t.n t.name r1.1 r2.1 s,0)) fun e=>I (ov,e))) ([],e)))
  simp only [dT,HG,ag J,ar,DJ,HA,hK,E,zi,List.length_nil]
  refine pr qk ?_
  rw [Jx _ I,B4,<-hz]
  refine pr (wx (z:=z) (fun L=>eE (aig (j0 fun d f=>ue (i+d) f) (j0 fun d f=>ue (i+d) f) d t.k 0 t.c) (fun l=>(fun r2:LT×Int=>ab (!(r2.2==0)) (I (ov,r2.2)) (eE (uL (j0 fun d f=>ue (i+d) f) (j0 fun d f=>ue (i+d) f) d t.k t.s) (fun s=>I (.mk t.k t.n t.name L r2.1 s,0)) fun e=>I (ov,e))) (l,0)) fun e=>(fun r2:LT×Int=>ab (!(r2.2==0)) (I (ov,r2.2)) (eE (uL (j0 fun d f=>ue (i+d) f) (j0 fun d f=>ue (i+d) f) d t.k t.s) (fun s=>I (.mk t.k t.n t.name L r2.1 s,0)) fun e=>I (ov,e))) ([],e)) fun e=>I (ov,e)) ?_
  rw [AS]
  refine Dc (fun L _=> ?_) fun e _=>rfl
  refine pr (AM (β:=OS S) (γ:=Unit) (aig (j0 fun d f=>ue (i+d) f) (j0 fun d f=>ue (i+d) f) d t.k 0 t.c) (fun e he=>Ug mo mo he) [] (fun l=>eE (uL (j0 fun d f=>ue (i+d) f) (j0 fun d f=>ue (i+d) f) d t.k t.s) (fun s=>I (.mk t.k t.n t.name L l s,0)) fun e=>I (ov,e)) fun e=>I (ov,e)) ?_
  simp only [AS,aP]
def yw (i:Int):Int->LC->LC:=fun d f=>ue (i+d) f
def eB (i:Int) (r:LC) (fa:Bool):dC:=DS (td i r fa) (yw i)
theorem uz (i:Int) (r:LC) (fa:Bool) (d:Int) (f:LC):eB i r fa d f=bE (td i r fa d f) fun m=> .ok (ue (i+d) m):=rfl
theorem pR {i:Int} {r:LC} {fa:Bool}: ∀d f e,eB i r fa d f= .error e->0<e/\e<=1000:=fun d f e h=>by
 rw [uz] at h
 rcases be h with h|⟨_,_,h⟩
 ·exact Bu h
 simp_all
section
variable {hd:Tm->Int->LC->Int->Bool->(Tm->OS S)->OS S} {i d:Int} {r:LC} {t:Tm}
end
def Ab (i:Int) (r:LC) (t:Tm):Except Int Tm:=bE (eW (te r i 1)) fun s=>ub (eB i s false) (eB i s true) 0 t
theorem fP {i:Int} {r:LC} {t:Tm} {e:Int} (h:Ab i r t= .error e):0<e/\e<=1000:=by
 rcases be h with h|⟨s,_,h⟩
 ·grind [Ap,q_,EN]
 ·exact jK pR pR t h
theorem TZ {i:Int} {r:LC} {t y:Tm} (h:Ab i r t= .ok y):y.k=t.k:=by
 obtain ⟨s,_,h⟩:=i8 h
 exact Ja h
theorem Ra (hk:F3 k) {t:Tm} (q:Fm t) {i:Int} (B:0<=i/\i<24) {r:LC} (z:RF r) (I:Tm×Int->OS S):m_ k t i r I=I (tE (Ab i r t)):=by
 have Y:=z.len
 have M:=q.dep
 simp only [m_,ag hk.fu,ar,DM,An q.ok (q.fd hk) (show am t<1099511627776 by omega),q.2,ai7 hk.fu,rH hk.fu z.2 z.lt,z.right,decide_eq_true B,vX hk.fu z.2 (show r.length<1073741824 by omega) (show aG i by unfold aG;omega) (show aG 1 by unfold aG;omega),DF,DG,DH,DE]
 rw [show ((0:Int)==0)=true from rfl,va,n3,n3,n3,n3]
 rw [Jx _ I]
 unfold Ab
 rw [AS]
 by_cases A:(te r i 1).2=0
 ·have hs:=kQ A
  rw [bG,decide_eq_true A,va,n3,jF A,aP,ahW B hs t q.ok q.rows _ (q.fd hk) (by omega) (by omega)]
  refine pr (hZ (α:=OS S) (β:=Unit) _ (fun e he=>jK jD jD t he) (fun x=>dT k x 0 i fun L=>I (L.1,L.2)) fun e=>I (ov,e)) ?_
  have E:=alm (fo:=td i (te r i 1).1 false) (fa:=td i (te r i 1).1 true) (G:=yw i) (fun d f g hf h=>rB hf h) (fun d f hf=>JE hf) t 0 q.rows
  show _=eE (ub (DS (td i (te r i 1).1 false) (yw i)) (DS (td i (te r i 1).1 true) (yw i)) 0 t) _ _
  rw [<-E,AS]
  refine Dc (fun x O=> ?_) fun e _=>rfl
  have T:=Uj (fun d f g hf h=>rB hf h) (fun d f g hf h=>rB hf h) (fun d=>QI) t 0 x O
  obtain ⟨w1,w2,w3,W⟩:=T
  obtain ⟨F,J⟩:=W q.ok q.rows
  rw [aar B x F J _ (hk.fd (by omega)) (by omega) (by omega)]
  exact Jx _ I
 ·rw [bG,decide_eq_false A,sV,ae,iO A];rfl
def In (k:Nat) (t:Tm):Prop:=pw t/\Fd k (am t)/\au t<1099511627776
theorem In.dep {t:Tm} (h:In k t):am t<1099511627776:=by have:=zG t;have:=h.2.2;omega
theorem Fm.isIn {t:Tm} (h:Fm t) (hk:F3 k):In k t:=⟨h.ok,h.fd hk,by have:=h.dP;omega⟩
def xx:LT->Int
 |[]=>0
 |t::l=>if bw t=0 then xx l else bw t
theorem Ss {l:LT} (hl: ∀t∈l,pw t) (h:xx l=0): ∀t∈l,Fm t:=by
 induction l with
 |nil=>simp
 |cons x l z=>
  intro t ht
  unfold xx at h
  split at h
  ·next q=>
   rcases xt.1 ht with rfl|ht
   ·exact ⟨hl _ (by simp),q⟩
   grind
  omega
theorem aki (l:LT):0<=xx l/\xx l<=1000:=by
 induction l with
 |nil=>grind [xx]
 |cons x l q=>
  unfold xx
  split<;>simp_all [Et]
theorem rI (c e:Int) (I:Int->OS S):iZ k e c I=I (if c=0 then e else c):=by
 grind [iZ,aY]
theorem aem (hk:Fu k) (I:Int->OS S) {l:LT} (hl: ∀t∈l,In k t) (hlen:l.length<1000):
  ∀ (r p:LT) (m:Nat) (b:Int),l=p++r->r.length<m->pY k I l m b (p.length:Int)=I (if b=0 then xx r else b):=by
 intro r
 induction r with
 |nil=>
  grind [pz,pY,wL,n3,xx]
 |cons x r A=>
  intro p m b h B
  obtain ⟨m,rfl,q⟩:=pz B
  obtain ⟨E,F,J,L⟩:=qI h (by omega)
  have z:=hl x (by grind)
  simp only [pY,wL,E,ae,F,qm,ag hk,ar,An z.1 z.2.1 z.dep,rI,J,A (p++[x]) m _ L q,xx]
  grind
theorem Re (hk:F3 k) {l:LT} (hl: ∀t∈l,In k t) (hlen:l.length<1000) (I:Int->OS S):m9 k l I=I (xx l):=by
 simp only [m9,Hs]
 have:=aem hk.fu I hl hlen l [] k 0 rfl (by omega)
 simp_all
def di (r:LC) (line:Tm):Except Int Tm:=bE (uK 0 2 0 1 line) (Ab 0 r)
theorem li {r:LC} {t:Tm} {e:Int} (h:di r t= .error e):0<e/\e<=1000:=by
 rcases be h with h|⟨s,_,h⟩
 ·exact M5 t h
 ·exact fP h
theorem acW {i:Int} {r:LC} {fa:Bool} {d:Int} {f g:LC} (hf:RF f) (h:eB i r fa d f= .ok g):RF g:=by
 rw [uz] at h
 obtain ⟨m,h1,h⟩:=i8 h
 injection h with h;subst h
 exact aad (rB hf h1).len
theorem acV {i:Int} {r:LC} {fa:Bool} (d:Int):eB i r fa d []= .ok []:=by
 rw [uz,QI,aD];rfl
theorem T0 {i:Int} {r:LC} {t y:Tm} (h:Ab i r t= .ok y):Wk t y:=by
 obtain ⟨s,_,h⟩:=i8 h
 grind [Uj,acW,acV]
theorem Jo {r:LC} {t y:Tm} (q:Fm t) (h:di r t= .ok y):pw y/\q7 y/\am y<=200/\au y<=20000:=by
 obtain ⟨s,h1,h⟩:=i8 h
 have hs:=jr (by omega) q h1
 obtain ⟨z,A,B,x⟩:=T0 h
 have E:=x hs.ok hs.rows
 have:=hs.dep;have:=hs.dP
 grind
section
variable {c:Int}
theorem aIy (hc:c≠0) (hk:F3 k) (f:LC) (I:LC×Int->OS S):tA k f c I=I ([],c):=by
 simp only [tA,ag hk.fu,de,bG,decide_eq_false hc,sV,ae]
theorem aDb (hc:c≠0) (hk:F3 k) (f g:LC) (I:LC×Int->OS S):RL k f g c I=I ([],c):=by
 simp only [RL,ag hk.fu,de,bG,decide_eq_false hc,sV,ae]
theorem bn (hc:c≠0) (hk:F3 k) (l:Tm) (r:LC) (I:Tm×Int->OS S):lr k l r c I=I (ov,c):=by
 simp only [lr,ag hk.fu,de,bG,decide_eq_false hc,sV,ae];rfl
theorem Hh (hc:c≠0) (hk:F3 k) (l:Tm) (a b:Int) (I:Tm×Int->OS S):Bx k l a b c I=I (ov,c):=by
 simp only [Bx,ag hk.fu,de,bG,decide_eq_false hc,sV,ae];rfl
theorem rG (hc:c≠0) (hk:F3 k) (l:Tm) (I:Tm×Int×Int->OS S):eQ k l c I=I (ov,c,c):=by
 simp only [eQ,ag hk.fu,de,bG,decide_eq_false hc,sV,ae,n3];rfl
end
theorem ajX (hk:F3 k) {f:LC} (hf:aq f) (hl:f.length<1073741824) (I:LC×Int->OS S):tA k f 0 I=I (te f 0 1):=by
 simp only [tA,ag hk.fu,de,vX hk.fu hf hl (show aG 0 by unfold aG;omega) (show aG 1 by unfold aG;omega),rI,if_true]
 rfl
theorem aIx (hk:F3 k) {f g:LC} (hf:aq f) (q:aq g) (h1:f.length<1073741824) (h2:g.length<1073741824) (I:LC×Int->OS S):RL k f g 0 I=I (EQ f g):=by
 simp only [RL,ag hk.fu,de,aH8 hk.fu hf q h1 h2,rI,if_true]
 rfl
theorem RW (hk:F3 k) {t:Tm} (q:Fm t) {a b:Int} (ha:0<=a/\a<=1000000) (hb:0<=b/\b<9223372036854775808) (I:Tm×Int->OS S):Bx k t a b 0 I=I (tE (J6 a b t)):=by
 simp only [Bx,ag hk.fu,de,ar,He hk q ha hb,rI,if_true]
 rfl
theorem Rd (hk:F3 k) {t:Tm} (q:Fm t) {r:LC} (A:RF r) (I:Tm×Int->OS S):lr k t r 0 I=I (tE (di r t)):=by
 simp only [lr,ag hk.fu,de,ar,Rr hk q (show (0:Int)<=1/\(1:Int)<=24 by omega) (show (0:Int)<=2/\(2:Int)<9223372036854775808 by omega),rI,if_true]
 rw [show ((0:Int)==0)=true from rfl,va,n3,Jx _ I]
 unfold di
 rw [AS]
 cases x:uK 0 2 0 1 t with
 |error e=>
  have:=M5 t x
  show ab (!(e==0)) (I (ov,e)) _=_
  rw [bG,decide_eq_false (by omega),sV,ae];rfl
 |ok y=>
  have B:=jr (by omega) q x
  show ab (!((0:Int)==0)) _ (m_ k y 0 r fun z=>I (z.1,if (0:Int)=0 then z.2 else 0))=_
  simp_all [n3,Ra,aP,Jx]
theorem ai9 (hk:F3 k) {t:Tm} (q:In k t) (I:Tm×Int×Int->OS S):eQ k t 0 I=I (if bw t=0 then (t,0,0) else (ov,bw t,bw t)):=by
 simp only [eQ,ag hk.fu,de,ar,An q.1 q.2.1 q.dep,rI,if_true]
 rw [show ((0:Int)==0)=true from rfl,ae,bG]
 by_cases x:bw t=0
 ·grind [n3]
 ·rw [decide_eq_false x,if_neg x,sV,ae];rfl
def pa (line:Tm) (ot:LC) (a:Tm) (en:Cl) (r:LC):Except Int Tm:=
 bE (eW (te ot 0 1)) fun f1=>bE (eW (EQ f1 [en])) fun f=>bE (di r line) fun l=>bE (J6 0 1 a) fun a'=> .ok (.mk 14 0 po f [l,a'] [])
def FD (x:Except Int Tm):Except Int Tm:=bE x fun t=>if bw t=0 then .ok t else .error (bw t)
def FJ (line:Tm) (ot:LC) (a:Tm) (en:Cl) (r:LC):Except Int Tm:=
 if xx [line,a]=0 then if cV ot then FD (pa line ot a en r) else .error 2 else .error (xx [line,a])
theorem aGg (f g:LC):EN (EQ f g).2:=by
 grind [EQ,ES,lO]
theorem aGh {f g:LC} (hf:aq f) (q:aq g) (h:(EQ f g).2=0):zr (EQ f g).1:=by
 grind [EQ,Af,oB]
theorem T2 {z:LC×Int} (q:EN z.2) {e:Int} (h:eW z= .error e):0<e/\e<=1000:=by
 grind [Ap,EN]
theorem aES {line:Tm} {ot:LC} {a:Tm} {en:Cl} {r:LC} {e:Int} (h:pa line ot a en r= .error e):0<e/\e<=1000:=by
 rcases be h with h|⟨_,_,h⟩
 ·exact T2 (q_ _ _ _) h
 rcases be h with h|⟨_,_,h⟩
 ·exact T2 (aGg _ _) h
 rcases be h with h|⟨_,_,h⟩
 ·exact li h
 rcases be h with h|⟨_,_,h⟩
 ·exact xN h
 simp_all
theorem aAH (hk:F3 k) {line:Tm} {ot:LC} {a:Tm} {en:Cl} {r:LC} (hl:Fm line) (ha:Fm a) (hp:RF ot) (he:aX en) {t:Tm} (h:pa line ot a en r= .ok t):In k t/\t.k=14:=by
 obtain ⟨f1,h1,h⟩:=i8 h
 obtain ⟨f,h2,h⟩:=i8 h
 obtain ⟨l,z,h⟩:=i8 h
 obtain ⟨a',A,h⟩:=i8 h
 injection h with h;subst h
 obtain ⟨g1,rfl⟩:=rR h1
 obtain ⟨g2,rfl⟩:=rR h2
 have x:=kQ g1
 have hf:=(aGh x.2 (fun c hc=>by grind) g2).1
 obtain ⟨B,E,F,I⟩:=Jo hl z
 have q:=mD (by omega) ha A
 have:=hf.len;have:=q.dep;have:=q.dP
 refine ⟨⟨?_,hk.fd ?_, ?_⟩,rfl⟩
 ·rw [pw,aZ,aZ,aZ,ba]
  refine ⟨⟨by unfold aG;omega,by unfold aG;omega,by simp,hf.2,by omega,by simp,by simp⟩,⟨B,q.ok,trivial⟩,trivial⟩
 all_goals grind [am,aH,aO,au,ay,aI]
theorem aC6 (hk:F3 k) {line a:Tm} {ot r:LC} {en:Cl} (hl:In k line) (ha:In k a) (hp:aq ot) (M:ot.length<1073741824) (he:aX en) (hr:RF r) (I:Tm×Int->OS S):J3 k line ot a en r I=I (tE (FJ line ot a en r)):=by
 have x: ∀t∈[line,a],In k t:=fun t ht=>by
  grind
 have O:aq [en]:=fun c hc=>by grind
 have bad: ∀c:Int,c≠0->(tA k ot c fun r4=>RL k r4.1 [en] r4.2 fun r5=>lr k line r r5.2 fun r6=>Bx k a 0 1 r6.2 fun r7=>
   xi k 14 [r6.1,r7.1] fun J=>eQ k (Tm.mk J.1 J.2.1 J.2.2.1 r5.1 J.2.2.2 []) r7.2 fun r9=>I (r9.1,r9.2.1))=I (ov,c):=by
  simp_all [xi,aIy,aDb,bn,Hh,rG]
 simp only [J3,ag hk.fu,ar,Re hk x (by simp),Hb hk.fu hp (show ot.length<2147483648 by omega),rI]
 unfold FJ
 by_cases z:xx [line,a]=0
 ·simp only [z,if_true]
  have A:=Ss (fun t ht=>(x t ht).1) z
  have B:=A line (by simp)
  have E:=A a (by simp)
  cases T:cV ot with
  |false=>
   rw [sV,ae,if_neg (show ¬ (false=true) by decide)]
   exact bad 2 (by decide)
  |true=>
   have W:=(oB hp).1 T
   rw [va,n3,if_pos (show true=true from rfl),ajX hk hp M,Jx _ I]
   unfold FD
   rw [AS]
   have q: ∀t,pa line ot a en r= .ok t->In k t:=fun t h=>(aAH hk B E W.1 he h).1
   revert q
   unfold pa
   intro q
   by_cases h1:(te ot 0 1).2=0
   ·have F:=kQ h1
    have Y:=F.len
    rw [jF h1,aD] at q ⊢
    rw [h1,aIx hk F.2 O (by omega) (by simp)]
    by_cases h2:(EQ (te ot 0 1).1 [en]).2=0
    ·rw [jF h2,aD] at q ⊢
     rw [h2,Rd hk B hr]
     cases h3:di r line with
     |error e=>
      have hc:=(li h3).1
      show Bx k a 0 1 e _=I (ov,e)
      grind [xi,Hh,rG]
     |ok l=>
      rw [h3,aD] at q
      show Bx k a 0 1 0 _=_
      rw [RW hk E (by omega) (by omega),aD]
      cases h4:J6 0 1 a with
      |error e=>
       have hc:=(xN h4).1
       show xi k 14 _ _=I (ov,e)
       simp only [xi]
       show eQ k _ e _=_
       grind [rG]
      |ok a'=>
       rw [h4,aD] at q
       show xi k 14 _ _=_
       simp only [xi]
       show eQ k (Tm.mk 14 0 po (EQ (te ot 0 1).1 [en]).1 [l,a'] []) 0 _=_
       rw [ai9 hk (q _ rfl),aD,aP]
       by_cases L:bw (Tm.mk 14 0 po (EQ (te ot 0 1).1 [en]).1 [l,a'] [])=0
       ·rw [if_pos L,if_pos L];rfl
       ·rw [if_neg L,if_neg L];rfl
    ·rw [iO h2]
     show _=I (ov,(EQ (te ot 0 1).1 [en]).2)
     grind [xi,bn,Hh,rG]
   ·rw [iO h1]
    show _=I (ov,(te ot 0 1).2)
    simp_all [xi,aDb,bn,Hh,rG]
 ·simp only [if_neg z]
  cases cV ot with
  |false=>rw [sV,ae];exact bad _ z
  |true=>rw [va,n3];exact bad _ z
theorem QD:RF [⟨3,0⟩]:=gS ⟨⟨by decide,by decide⟩,by decide,by decide⟩
theorem aC4:RF [⟨0,1⟩,⟨2,0⟩]:=by
 refine ⟨by rfl,fun c hc=> ?_⟩
 simp only [xt,List.not_mem_nil,or_false] at hc
 rcases hc with rfl|rfl
 ·exact ⟨⟨by decide,by decide⟩,by decide,by decide⟩
 ·exact ⟨⟨by decide,by decide⟩,by decide,by decide⟩
theorem ag0:aX ⟨0,1⟩:=⟨⟨by decide,by decide⟩,by decide,by decide⟩
theorem ag1:aX ⟨1,0⟩:=⟨⟨by decide,by decide⟩,by decide,by decide⟩
theorem aHV (hk:F3 k) {line a:Tm} {ot:LC} (hl:In k line) (ha:In k a) (hp:aq ot) (q:ot.length<1073741824) (I:Tm×Int->OS S):Hd k line ot a I=I (tE (FJ line ot a ⟨0,1⟩ [⟨3,0⟩])):=by
 grind [Hd,ar,ag,aC6,ag0,QD]
theorem aHR (hk:F3 k) {line a:Tm} {ot:LC} (hl:In k line) (ha:In k a) (hp:aq ot) (q:ot.length<1073741824) (I:Tm×Int->OS S):e0 k line ot a I=I (tE (FJ line ot a ⟨1,0⟩ [⟨0,1⟩,⟨2,0⟩])):=by
 grind [e0,ar,ag,aC6,ag1,aC4]
theorem agT:pw ov:=by
 unfold ov
 rw [pw,aZ,ba]
 exact ⟨⟨by unfold aG;omega,by unfold aG;omega,by simp,fun c hc=>(by cases hc),by simp,by simp,by simp⟩,trivial,trivial⟩
theorem gQ (hk:F3 k):In k ov:=⟨agT,hk.fd (by grind [ov,am,aH,aO]),by grind [ov,au,ay,aI]⟩
theorem Hl (t:Tm):au t=1+ay t.c+aI t.s:=by cases t;rfl
def sx (ox w:Int) (n:Nat):Prop:=1<=w/\w<=2*ox+1/\(w<=ox->(n:Int)<=w)
def Mo (ox:Int):Prop:=0<=ox/\ox<=1000
section
variable {hd:Tm->Int->(Int->OS S)->OS S} {t:Tm}
theorem aGM (hk:Fu k) (I:Int->OS S) (q:Int->Int->OS S) {v ox:Int} (B:Mo ox) {x:Br Tm} (hv:af t.s v=some x) (F: ∀y∈x.c,∀n,Mo n-> ∀g,∃w,hd y n g=g w/\sx n w (au y)) (hl:x.c.length<1073741824):
  ∀ (r p:LT) (m:Nat) (a:Int),x.c=p++r->r.length<m->1<=a->a<=2*ox+1-> ∃w,kA hd k I q t ox v m a (p.length:Int)=q w (ou .i64 (v+1))/\a<=w/\w<=2*ox+1/\(w<=ox->a+(ay r:Int)<=w):=by
 obtain ⟨J,L⟩:=B
 intro r
 induction r with
 |nil=>
  intro p m a h E ha z
  obtain ⟨m,rfl,A⟩:=pz E
  exact ⟨a,by grind [kA,xL,n3],Int.le_refl _,z,fun _=>by rw [ay];simp⟩
 |cons y r M=>
  intro p m a h E ha z
  obtain ⟨m,rfl,A⟩:=pz E
  obtain ⟨O,T,W,Y⟩:=qI h (by omega)
  simp only [kA,xL,hv,O,ae,T,qm,ar,W]
  by_cases hc:a<=ox
  ·rw [decide_eq_true hc,ae,vf (show-9223372036854775808<=ox-a by omega) (by omega)]
   obtain ⟨w,hw,w1,w2,w3⟩:=F y (by grind) (ox-a) ⟨by omega,by omega⟩ (fun r8=>kA hd k I q t ox v m (ou .i64 (a+r8)) (((p++[y]).length:Nat):Int))
   rw [hw,vf (show-9223372036854775808<=a+w by omega) (by omega)]
   obtain ⟨u,hu,u1,u2,u3⟩:=M (p++[y]) m (a+w) Y A (by omega) (by omega)
   exact ⟨u,hu,by omega,u2,fun hle=>by grind [ay]⟩
  grind [n3]
theorem aGL (hk:Fu k) (I:Int->OS S) {ox:Int} (q:Mo ox) (O: ∀b∈t.s,∀y∈b.c,∀n,Mo n-> ∀g,∃w,hd y n g=g w/\sx n w (au y)) (F:pw t):
  ∀ (r p:LB) (m:Nat) (a:Int),t.s=p++r->r.length<m->1<=a->a<=2*ox+1-> ∃w,jl hd k I t ox m a (p.length:Int)=I w/\a<=w/\w<=2*ox+1/\(w<=ox->a+(aI r:Int)<=w):=by
 obtain ⟨o1,o2,o3,o4,o5,o6,o7⟩:=F.no
 have T:=q.1
 have W:=q.2
 intro r
 induction r with
 |nil=>
  intro p m a h B ha z
  obtain ⟨m,rfl,A⟩:=pz B
  exact ⟨a,by grind [jl,sS,n3],Int.le_refl _,z,fun _=>by rw [aI];simp⟩
 |cons x r Y=>
  intro p m a h B ha z
  obtain ⟨m,rfl,A⟩:=pz B
  obtain ⟨e1,J,L,e4⟩:=qI h (by omega)
  have M:x∈t.s:=by grind
  have hb:=(F.bi M).1
  simp only [jl,sS,e1,ae,J,qm,L]
  by_cases hc:a<=ox
  ·rw [decide_eq_true hc,ae]
   by_cases hf:((x.f.length:Nat):Int)>ox
   ·grind [ae,vf]
   ·rw [decide_eq_false hf,n3,vf (show-9223372036854775808<=a+1 by omega) (by omega),vf (show-9223372036854775808<=a+1+((x.f.length:Nat):Int) by omega) (by omega)]
    obtain ⟨w,E,w1,w2,w3⟩:=aGM (t:=t) (ox:=ox) hk I (jl hd k I t ox m) q J (O x M) hb.2.2 x.c [] k (a+1+((x.f.length:Nat):Int)) rfl (by omega) (by omega) (by omega)
    have E:kA hd k I (jl hd k I t ox m) t ox (p.length:Int) k (a+1+((x.f.length:Nat):Int)) 0=_:=E
    rw [E,L]
    obtain ⟨u,hu,u1,u2,u3⟩:=Y (p++[x]) m w e4 A (by omega) w2
    exact ⟨u,hu,by omega,u2,fun hle=>by grind [aI,kZ]⟩
  grind [n3]
theorem aGK (hk:Fu k) (I:Int->OS S) {ox:Int} (q:Mo ox) (B: ∀y∈t.c,∀n,Mo n-> ∀g,∃w,hd y n g=g w/\sx n w (au y)) (x: ∀b∈t.s,∀y∈b.c,∀n,Mo n-> ∀g,∃w,hd y n g=g w/\sx n w (au y)) (A:pw t):
  ∀ (r p:LT) (m:Nat) (a:Int),t.c=p++r->r.length<m->1<=a->a<=2*ox+1-> ∃w,nQ hd k I t ox m a (p.length:Int)=I w/\a<=w/\w<=2*ox+1/\(w<=ox->a+(ay r:Int)+(aI t.s:Int)<=w):=by
 obtain ⟨o1,o2,o3,o4,o5,o6,o7⟩:=A.no
 have E:=q.1
 have F:=q.2
 intro r
 have hs:=fun a=>aGL (ox:=ox) hk I q x A t.s [] k a rfl (by omega)
 induction r with
 |nil=>
  grind [pz,nQ,p3,n3,ay]
 |cons y r J=>
  intro p m a h L ha M
  obtain ⟨m,rfl,z⟩:=pz L
  obtain ⟨O,T,W,Y⟩:=qI h (by omega)
  simp only [nQ,p3,O,ae,T,qm,ar,W]
  by_cases hc:a<=ox
  ·rw [decide_eq_true hc,ae,vf (show-9223372036854775808<=ox-a by omega) (by omega)]
   obtain ⟨w,hw,w1,w2,w3⟩:=B y (by grind) (ox-a) ⟨by omega,by omega⟩ (fun r2=>nQ hd k I t ox m (ou .i64 (a+r2)) (((p++[y]).length:Nat):Int))
   rw [hw,vf (show-9223372036854775808<=a+w by omega) (by omega)]
   obtain ⟨u,hu,u1,u2,u3⟩:=J (p++[y]) m (a+w) Y z (by omega) (by omega)
   exact ⟨u,hu,by omega,u2,fun hle=>by grind [ay]⟩
  grind [n3]
end
theorem aDd (t:Tm):pw t-> ∀ {k:Nat} (ox:Int),Mo ox-> ∀ (I:Int->OS S),Fd k (am t)-> ∃w,gE k t ox I=I w/\sx ox w (au t):=by
 induction t using c7 with
 |h t B E=>
  intro A k ox x I hk
  have J:=x.1
  have L:=x.2
  obtain ⟨q,rfl,M,hf⟩:=hk.pos' (H3 t)
  obtain ⟨o1,o2,o3,o4,o5,o6,o7⟩:=A.no
  have O: ∀y∈t.c,∀n,Mo n-> ∀ (g:Int->OS S),∃w,gE q y n g=g w/\sx n w (au y):=fun y z n hn g=>B y z (A.ki z) n hn g (hf _ (bY z))
  have F: ∀b∈t.s,∀y∈b.c,∀n,Mo n-> ∀ (g:Int->OS S),∃w,gE q y n g=g w/\sx n w (au y):=fun b hb y z n hn g=>E b hb y z ((A.bi hb).2 y z) n hn g (hf _ (b8 hb z))
  simp only [gE,Io]
  have out: ∃w,I (ou .i64 (ox+1))=I w/\sx ox w (au t):=⟨ox+1,by grind [vf],by omega,by omega,fun h=>by omega⟩
  by_cases T:((t.r.length:Nat):Int)>ox
  ·grind [ae]
  ·rw [decide_eq_false T,n3]
   by_cases hn:((t.name.size:Nat):Int)>ox
   ·grind [ae]
   ·rw [decide_eq_false hn,n3,vf (show-9223372036854775808<=1+((t.r.length:Nat):Int) by omega) (by omega),vf (show-9223372036854775808<=1+((t.r.length:Nat):Int)+((t.name.size:Nat):Int) by omega) (by omega)]
    obtain ⟨w,W,w1,Y,w3⟩:=aGK M I x O F A t.c [] q (1+((t.r.length:Nat):Int)+((t.name.size:Nat):Int)) rfl (by omega) (by omega) (by omega)
    exact ⟨w,W,by omega,Y,fun hle=>by grind [Hl]⟩
def dS (kd:Int) (l:LT):Tm:= .mk kd 0 po [] l []
def vN (n:Int):Tm:= .mk 1 n po [] [] []
def mE (c a b:Int) (t:Tm):Tm×Int:=if c=0 then tE (J6 a b t) else (ov,c)
def oy (p:Tm×Int):Except Int Tm:=if p.2=0 then .ok p.1 else .error p.2
theorem wz {c a b:Int} {t:Tm} (h:c≠0):mE c a b t=(ov,c):=if_neg h
theorem hy {c a b:Int} {t:Tm} (h:(mE c a b t).2=0):c=0:=by
 grind [wz]
theorem T9 (a b:Int) (t:Tm):mE 0 a b t=tE (J6 a b t):=rfl
theorem RV (hk:F3 k) {c:Int} {t:Tm} (h:c=0->Fm t) {a b:Int} (ha:0<=a/\a<=1000000) (hb:0<=b/\b<9223372036854775808) (I:Tm×Int->OS S):Bx k t a b c I=I (mE c a b t):=by
 by_cases hc:c=0
 ·subst hc;exact RW hk (h rfl) ha hb I
 grind [Hh,wz]
theorem Rk (hk:F3 k) {t:Tm} {c:Int} (h:c=0->In k t) (I:Tm×Int->OS S):(eQ k t c fun r=>I (r.1,r.2.1))=I (tE (FD (oy (t,c)))):=by
 by_cases hc:c=0
 ·subst hc
  rw [ai9 hk (h rfl)]
  show _=I (tE (FD (.ok t)))
  unfold FD
  rw [aD]
  by_cases q:bw t=0
  ·rw [if_pos q,if_pos q];rfl
  ·rw [if_neg q,if_neg q];rfl
 ·rw [rG hc hk]
  show _=I (tE (FD (if c=0 then _ else _)))
  rw [if_neg hc];rfl
def RJ (c:Int) (t a f y:Tm):Tm×Int:=
 (dS 7 [t,dS 11 [(mE c 1 1 a).1,(mE (mE c 1 1 a).2 1 0 y).1,dS 6 [(mE (mE (mE c 1 1 a).2 1 0 y).2 1 0 f).1,vN 0]]],(mE (mE (mE c 1 1 a).2 1 0 y).2 1 0 f).2)
def Md (t a f y:Tm):Except Int Tm:=bE (J6 1 1 a) fun a'=>bE (J6 1 0 y) fun q=>bE (J6 1 0 f) fun x=> .ok (dS 7 [t,dS 11 [a',q,dS 6 [x,vN 0]]])
theorem aA3 {c:Int} (h:c≠0) (t a f y:Tm):(RJ c t a f y).2=c:=by
 grind [RJ,wz]
theorem aA4 (t a f y:Tm):oy (RJ 0 t a f y)=Md t a f y:=by
 unfold RJ Md
 rw [T9]
 cases h1:J6 1 1 a with
 |error e=>
  have he:e≠0:=by have:=xN h1;omega
  show oy (_,(mE (mE e 1 0 y).2 1 0 f).2)=_
  rw [wz he,wz he,lk];exact if_neg he
 |ok a'=>
  rw [aD]
  show oy (dS 7 [t,dS 11 [a',(mE 0 1 0 y).1,dS 6 [(mE (mE 0 1 0 y).2 1 0 f).1,vN 0]]],(mE (mE 0 1 0 y).2 1 0 f).2)=_
  rw [T9]
  cases h2:J6 1 0 y with
  |error e=>
   have he:e≠0:=by have:=xN h2;omega
   show oy (_,(mE e 1 0 f).2)=_
   rw [wz he,lk];exact if_neg he
  |ok q=>
   rw [aD]
   show oy (dS 7 [t,dS 11 [a',q,dS 6 [(mE 0 1 0 f).1,vN 0]]],(mE 0 1 0 f).2)=_
   rw [T9]
   cases x:J6 1 0 f with
   |error e=>
    have he:e≠0:=by have:=xN x;omega
    rw [lk];exact if_neg he
   |ok z=>rfl
theorem aIa (hk:F3 k) {c:Int} {t a f y:Tm} (ha:c=0->Fm a) (hf:c=0->Fm f) (q:c=0->Fm y) (I:Int×Int×BA×LT×Int->OS S):
  SM k t a f y c I=I (7,0,po,(RJ c t a f y).1.c,(RJ c t a f y).2):=by
 simp only [SM,ag hk.fu,ar,RV hk ha (show (0:Int)<=1/\(1:Int)<=1000000 by omega) (show (0:Int)<=1/\(1:Int)<9223372036854775808 by omega),
  RV hk (fun h=>q (hy h)) (show (0:Int)<=1/\(1:Int)<=1000000 by omega) (show (0:Int)<=0/\(0:Int)<9223372036854775808 by omega),
  RV hk (fun h=>hf (hy (hy h))) (show (0:Int)<=1/\(1:Int)<=1000000 by omega) (show (0:Int)<=0/\(0:Int)<9223372036854775808 by omega),Iw,xi]
 rfl
def aE_ (t:Tm):Except Int Tm:=bE (J6 1 0 t) fun t1=>bE (J6 2 1 t) fun t2=> .ok (dS 7 [t,dS 4 [t1,dS 11 [t2,vN 1,vN 0]]])
def aFL (t a:Tm):Except Int Tm:=bE (J6 1 0 a) fun a1=>bE (J6 1 0 a) fun y=>bE (J6 2 0 t) fun t'=>bE (J6 2 0 a) fun a'=>bE (Md t' a' (vN 1) (vN 0)) fun x=>bE (aE_ x) fun c=> .ok (dS 7 [dS 4 [t,a1],dS 4 [y,c]])
theorem aFT {t a f y:Tm} {e:Int} (h:Md t a f y= .error e):0<e/\e<=1000:=by
 rcases be h with h|⟨_,_,h⟩
 ·exact xN h
 rcases be h with h|⟨_,_,h⟩
 ·exact xN h
 rcases be h with h|⟨_,_,h⟩
 ·exact xN h
 simp_all
theorem okv (n:Int) (h:0<=n/\n<=10):pw (vN n):=by
 unfold vN
 rw [pw,aZ,ba]
 exact ⟨⟨by unfold aG;omega,by unfold aG;omega,by simp,fun c hc=>(by cases hc),by simp,by simp,by simp⟩,trivial,trivial⟩
theorem Z2:Fm (vN 0):=⟨okv 0 (by omega),by rfl⟩
theorem j4:Fm (vN 1):=⟨okv 1 (by omega),by rfl⟩
theorem ag2 {kd:Int} (q:0<=kd/\kd<=28) {l:LT} (hl:l.length<10) (h: ∀x∈l,pw x):pw (dS kd l):=by
 unfold dS
 rw [pw,vi,ba]
 exact ⟨⟨by unfold aG;omega,by unfold aG;omega,by simp,fun c hc=>(by cases hc),by simp,by omega,by simp⟩,h,trivial⟩
theorem aAF {kd d:Int} (hd:24<=d) {l:LT} (ho:cL (-1) 24 (dS kd l)=true) (h: ∀x∈l,rE false (-1) 24 x=true):rE false (-1) d (dS kd l)=true:=by
 rw [at8 (dS kd l) hd (show (24:Int)<=24 by omega),wI,ho]
 have B: ∀ (r:LT) (i:Nat),(∀x∈r,rE false (-1) 24 x=true)->bO false (-1) 24 kd i r=true:=by
  intro r
  induction r with
  |nil=>intro i _;rw [bO]
  |cons x r z=>
   intro i q
   have hb:=gr kd i
   rw [bO,z _ fun y A=>q y (by simp [A])]
   have hv:cQ (-1) (Am kd i)= -1:=rfl
   rw [hv,at8 x (show (24:Int)<=24+bJ kd i by omega) (show (24:Int)<=24 by omega),q x (by simp)];rfl
 show (!(false&&_)&&(true&&(bO false (-1) 24 kd 0 l&&ck false (-1) 24 kd [])))=true
 grind [ck]
def BE (n m:Nat) (t:Tm):Prop:=pw t/\rE false (-1) 24 t=true/\am t<=n/\au t<=m
theorem BE.fm {n m:Nat} {t:Tm} (h:BE n m t) (hn:n<=200) (q:m<=20000):Fm t:=⟨h.1,pS (by have:=h.2.2.1;omega) (by have:=h.2.2.2;omega) h.2.1⟩
theorem BE.isIn {n m:Nat} {t:Tm} (h:BE n m t) (hk:F3 k) (hn:n<=1000) (q:m<=1000000):In k t:=⟨h.1,hk.fd (by have:=h.2.2.1;omega),by have:=h.2.2.2;omega⟩
theorem Fm.f2 {t:Tm} (h:Fm t):BE 200 20000 t:=⟨h.1,(Ij h.2).2.2,(Ij h.2).1,(Ij h.2).2.1⟩
theorem BE.mono {n m q x:Nat} {t:Tm} (h:BE n m t) (hn:n<=q) (z:m<=x):BE q x t:=⟨h.1,h.2.1,by have:=h.2.2.1;omega,by have:=h.2.2.2;omega⟩
theorem BE.up {n m:Nat} {t t':Tm} (h:BE n m t) {a b:Int} (ha:0<=a/\a<=1000000000) (hl:J6 a b t= .ok t'):BE n m t':=by
 obtain ⟨u,h1,h2⟩:=i8 hl
 obtain ⟨A,B,E,x⟩:=uP ha.1 ha.2 t 0 0 u h1
 obtain ⟨F,q2,I,z⟩:=uP (by omega) (by omega) u 0 0 t' h2
 have w:=x h.1
 have q:=z w.1
 have ho:=w.2.2 24 24 (by omega) (by omega) h.2.1
 exact ⟨q.1,q.2.2 24 24 (by omega) (by omega) ho,by have:=h.2.2.1;omega,by have:=h.2.2.2;omega⟩
theorem aA1 {kd:Int} (q:0<=kd/\kd<=28) {n m:Nat} {a b:Tm} (ho:cL (-1) 24 (dS kd [a,b])=true) (ha:BE n m a) (hb:BE n m b):BE (n+1) (2*m+1) (dS kd [a,b]):=by
 grind [BE,ag2,aAF,dS,am,aH,aO,au,ay,aI]
theorem aFP {kd:Int} (q:0<=kd/\kd<=28) {n m:Nat} {a b c:Tm} (ho:cL (-1) 24 (dS kd [a,b,c])=true) (ha:BE n m a) (hb:BE n m b) (hc:BE n m c):BE (n+1) (3*m+1) (dS kd [a,b,c]):=by
 grind [BE,ag2,aAF,dS,am,aH,aO,au,ay,aI]
theorem aFV {n m:Nat} (hn:1<=n) (q:1<=m) {i:Int} (x:i=0\/i=1):BE n m (vN i):=by
 have:BE 1 1 (vN i):=by
  rcases x with rfl|rfl
  ·exact ⟨Z2.1,by rfl,by show 1<=1;omega,by show 1<=1;omega⟩
  ·exact ⟨j4.1,by rfl,by show 1<=1;omega,by show 1<=1;omega⟩
 exact this.mono hn q
theorem aA5 {n m:Nat} (hn:1<=n) (q:1<=m) {t a f y x:Tm} (z:BE n m t) (ha:BE n m a) (hf:BE n m f) (A:BE n m y) (h:Md t a f y= .ok x):BE (n+3) (12*m+9) x:=by
 obtain ⟨a',h1,h⟩:=i8 h
 obtain ⟨E,h2,h⟩:=i8 h
 obtain ⟨F,B,h⟩:=i8 h
 injection h with h;subst h
 have c1:=aA1 (kd:=6) (by omega) (by rfl) (hf.up (by omega) B) (aFV hn q (.inl rfl))
 have c2:=aFP (kd:=11) (by omega) (by rfl) ((ha.up (by omega) h1).mono (Nat.le_succ n) (show m<=2*m+1 by omega)) ((A.up (by omega) h2).mono (Nat.le_succ n) (show m<=2*m+1 by omega)) c1
 exact (aA1 (kd:=7) (by omega) (by rfl) (z.mono (show n<=n+1+1 by omega) (show m<=3*(2*m+1)+1 by omega)) c2).mono (by omega) (by omega)
mutual
def zj (n:Int):Tm->Nat
 | .mk kd m _ _ q sys=>(if kd=1/\m=n then 1 else 0)+(cE n kd 0 q+Hv n sys)
def cE (n kd:Int) (i:Nat):LT->Nat
 |[]=>0
 |t::l=>zj (n+Am kd i) t+cE n kd (i+1) l
def Hv (n:Int):LB->Nat
 |[]=>0
 |b::l=>Dv n b+Hv n l
def Dv (n:Int):Br Tm->Nat
 | .mk _ q=>dc n q
def dc (n:Int):LT->Nat
 |[]=>0
 |t::l=>zj n t+dc n l
end
mutual
def H4 (n:Int) (u:Tm) (v d:Int):Tm->Except Int Tm
 | .mk kd m nm r z sys=>if kd=1/\m=n+v then J6 v d u else bE (dX n u v d kd 0 z) fun x=>bE (I2 n u v d kd sys) fun q=> .ok (.mk kd (if kd=1/\m>n+v then m-1 else m) nm r x q)
def dX (n:Int) (u:Tm) (v d kd:Int) (i:Nat):LT->Except Int (LT)
 |[]=> .ok []
 |t::l=>bE (H4 n u (v+Am kd i) (d+bJ kd i) t) fun t'=>bE (dX n u v d kd (i+1) l) fun q=> .ok (t'::q)
def I2 (n:Int) (u:Tm) (v d kd:Int):LB->Except Int (LB)
 |[]=> .ok []
 |b::l=>bE (AJ n u v d kd b) fun q=>bE (I2 n u v d kd l) fun x=> .ok (q::x)
def AJ (n:Int) (u:Tm) (v d kd:Int):Br Tm->Except Int (Br Tm)
 | .mk f x=>bE (Mn n u v d kd x) fun q=> .ok (.mk f q)
def Mn (n:Int) (u:Tm) (v d kd:Int):LT->Except Int (LT)
 |[]=> .ok []
 |t::l=>bE (H4 n u v (d+av kd) t) fun t'=>bE (Mn n u v d kd l) fun q=> .ok (t'::q)
end
def LQ (n:Int) (t u:Tm):Except Int Tm:=if au t+zj n t*(au u-1)>20000 then .error 221 else bE (H4 n u 0 0 t) fun o=>if am o>200 then .error 62 else .ok o
def Pg (n:Int) (u x q:Tm):Prop:=pw q/\rE false (-1) 24 q=true/\au q=au x+zj n x*(au u-1)/\am q<=am x+am u
abbrev wF (n:Int) (u x:Tm):Prop:= ∀ {v d:Int} {o:Tm},0<=v->0<=d->v+am x<=1000->pw x->rE false (-1) 24 x=true->H4 n u v d x= .ok o->Pg (n+v) u x o
section
variable {n v d kd:Int} {u:Tm}
theorem ahA: ∀ {l l':LT} {i:Nat},(∀x∈l,wF n u x)->0<=v->0<=d->v+aH l+1<=1000->aZ l->bO false (-1) 24 kd i l=true->dX n u v d kd i l= .ok l'->
  aZ l'/\bO false (-1) 24 kd i l'=true/\ay l'=ay l+cE (n+v) kd i l*(au u-1)/\aH l'<=aH l+am u/\l'.length=l.length:=by
 intro l
 induction l with
 |nil=>intro l' i _ _ _ _ _ _ h;rw [dX] at h;injection h with h;subst h;rw [aZ,bO,cE,ay,aH];simp
 |cons t l z=>
  intro l' i h hv hd hb ho ha hl
  rw [dX] at hl
  obtain ⟨t',A,hl⟩:=i8 hl
  obtain ⟨m,B,hl⟩:=i8 hl
  injection hl with hl;subst hl
  rw [aZ] at ho
  rw [bO,ql] at ha
  rw [aH] at hb
  have O:=g7 kd i;have T:=gr kd i
  have q:rE false (-1) 24 t=true:=by
   have:=ha.1
   rw [B2,at8 t (by omega) (Int.le_refl 24)] at this;exact this
  obtain ⟨E,F,I,W⟩:=h t (by simp) (v:=v+Am kd i) (d:=d+bJ kd i) (by omega) (by omega) (by omega) ho.1 q A
  obtain ⟨J,q2,L,Y,q5⟩:=z (fun x M=>h x (by simp [M])) hv hd (by omega) ho.2 ha.2 B
  rw [aZ,bO,cE,ay,ay,aH,aH,uA,uA]
  refine ⟨⟨E,J⟩, ?_, ?_,by omega,by omega⟩
  ·rw [ql,B2,at8 t' (show (24:Int)<=24+bJ kd i by omega) (Int.le_refl 24)];exact ⟨F,q2⟩
  ·rw [I,L,Nat.add_mul,Int.add_assoc];omega
theorem ahB: ∀ {l l':LT},(∀x∈l,wF n u x)->0<=v->0<=d->v+aH l+1<=1000->aZ l->ca false (-1) 24 kd l=true->Mn n u v d kd l= .ok l'->
  aZ l'/\ca false (-1) 24 kd l'=true/\ay l'=ay l+dc (n+v) l*(au u-1)/\aH l'<=aH l+am u/\l'.length=l.length:=by
 intro l
 induction l with
 |nil=>intro l' _ _ _ _ _ _ h;rw [Mn] at h;injection h with h;subst h;rw [aZ,ca,dc,ay,aH];simp
 |cons t l z=>
  intro l' h hv hd hb ho ha hl
  rw [Mn] at hl
  obtain ⟨t',A,hl⟩:=i8 hl
  obtain ⟨m,B,hl⟩:=i8 hl
  injection hl with hl;subst hl
  rw [aZ] at ho
  rw [ca,ql] at ha
  rw [aH] at hb
  have O:=K5 kd
  have q:rE false (-1) 24 t=true:=by
   have:=ha.1
   rw [at8 t (by omega) (Int.le_refl 24)] at this;exact this
  obtain ⟨E,F,I,T⟩:=h t (by simp) (v:=v) (d:=d+av kd) (by omega) (by omega) (by omega) ho.1 q A
  obtain ⟨J,q2,L,W,Y⟩:=z (fun x M=>h x (by simp [M])) hv hd (by omega) ho.2 ha.2 B
  rw [aZ,ca,dc,ay,ay,aH,aH,uA,uA]
  refine ⟨⟨E,J⟩, ?_, ?_,by omega,by omega⟩
  ·rw [ql,at8 t' (show (24:Int)<=24+av kd by omega) (Int.le_refl 24)];exact ⟨F,q2⟩
  ·rw [I,L,Nat.add_mul];omega
theorem ahC: ∀ {l l':LB},(∀b∈l,∀x∈b.c,wF n u x)->0<=v->0<=d->v+aO l+1<=1000->ba l->ck false (-1) 24 kd l=true->I2 n u v d kd l= .ok l'->
  ba l'/\ck false (-1) 24 kd l'=true/\aI l'=aI l+Hv (n+v) l*(au u-1)/\aO l'<=aO l+am u/\l'.length=l.length/\l'.all (bX kd 24)=l.all (bX kd 24):=by
 intro l
 induction l with
 |nil=>intro l' _ _ _ _ _ _ h;rw [I2] at h;injection h with h;subst h;rw [ba,ck,Hv,aI,aO];simp
 |cons b l E=>
  intro l' h hv hd hb ho ha hl
  rw [I2] at hl
  obtain ⟨Y,q,hl⟩:=i8 hl
  obtain ⟨m,F,hl⟩:=i8 hl
  injection hl with hl;subst hl
  obtain ⟨f,z⟩:=b
  rw [AJ] at q
  obtain ⟨A,I,q⟩:=i8 q
  injection q with q;subst q
  rw [ba,Fa] at ho
  rw [ck,jT,ql] at ha
  rw [aO,Ej] at hb
  obtain ⟨J,q2,L,q4,q5,M⟩:=E (fun b hb=>h b (by simp [hb])) hv hd (by omega) ho.2 ha.2 F
  obtain ⟨O,T,W,p4,B⟩:=ahB (n:=n) (u:=u) (kd:=kd) (l:=z) (h ⟨f,z⟩ (by simp)) hv hd (by omega) ho.1.2 ha.1 I
  rw [ba,Fa,ck,jT,Hv,Dv,aI,aI,Ft,Ft,aO,aO,Ej,Ej,uA,uA,List.all_cons,List.all_cons,M]
  refine ⟨⟨⟨⟨ho.1.1.1,ho.1.1.2.1,by rw [B];exact ho.1.1.2.2⟩,O⟩,J⟩,by rw [ql];exact ⟨T,q2⟩, ?_,by omega,by omega, ?_⟩
  ·rw [W,L,Nat.add_mul];omega
  ·have:bX kd 24 ⟨f,A⟩=bX kd 24 ⟨f,z⟩:=by unfold bX;simp only [B]
   rw [this]
theorem F8 (hu:Fm u) (hn:0<=n) (t:Tm):wF n u t:=by
 induction t using gq with
 |h kd m nm r L sys z A=>
  intro v d o hv hd hb q ha h
  rw [H4] at h
  have B:=q
  rw [pw] at q
  rw [am] at hb
  have M:=ha
  rw [rE] at ha
  simp only [Bool.false_and,sV,Bool.true_and,ql] at ha
  obtain ⟨q2,O,T⟩:=ha
  split at h
  ·rename_i hc
   have fo:=mD (by omega) hu h
   have u1:=(Fm.f2 hu).up (by omega) h
   have x:L=[]/\sys=[]:=by
    unfold cL at q2
    simp only [ql,decide_eq_true_eq] at q2
    obtain ⟨⟨a1,_,_,a4⟩,_⟩:=q2
    rw [hc.1] at a1 a4
    have:ct 1=0:=rfl
    exact ⟨Ix.1 (by omega),Ix.1 (a4 rfl)⟩
   obtain ⟨m1,h1,h2⟩:=i8 h
   have E:=uP (by omega) (by omega) u 0 0 m1 h1
   have F:=uP (by omega) (by omega) m1 0 0 o h2
   have W:au o=au u:=by rw [F.2.1,E.2.1]
   have I:am o=am u:=by rw [F.1,E.1]
   refine ⟨fo.ok,(Ij fo.2).2.2, ?_,by omega⟩
   rw [W,x.1,x.2,zj,if_pos hc,cE,Hv,au,ay,aI]
   have:=mB u
   omega
  ·rename_i hc
   obtain ⟨Y,I,h⟩:=i8 h
   obtain ⟨J,e3,h⟩:=i8 h
   injection h with h;subst h
   obtain ⟨k1,k2,k3,k4,k5⟩:=ahA z hv hd (by omega) q.2.1 O I
   obtain ⟨s1,s2,s3,s4,s5,s6⟩:=ahC A hv hd (by omega) q.2.2 T e3
   obtain ⟨o1,o2,o3,o4,o5,o6,o7⟩:=q.1
   have hm:0<=m->0<=(if kd=1/\m>n+v then m-1 else m):=by intro h;split<;>omega
   refine ⟨?_, ?_, ?_, ?_⟩
   ·rw [pw]
    exact ⟨⟨o1,by unfold aG at*;split<;>omega,o3,o4,o5,by omega,by omega⟩,k1,s1⟩
   ·rw [rE,k2,s2]
    simp only [Bool.false_and,sV,Bool.true_and,Bool.and_true]
    unfold cL at q2 ⊢
    simp only [ql,decide_eq_true_eq] at q2 ⊢
    rw [k5,s5,s6]
    obtain ⟨⟨a1,a2,a3,a4⟩,a5⟩:=q2
    refine ⟨⟨a1, ?_,a3,a4⟩, ?_⟩
    ·by_cases c:kd=1
     ·exact .inl c
     ·exact .inr (by rw [if_neg (fun h=>c h.1)];exact a2.resolve_left c)
    ·by_cases c1:kd=1
     ·rw [if_pos c1] at a5 ⊢
      simp only [ql,decide_eq_true_eq] at a5 ⊢
      exact ⟨a5.1,hm a5.2.1,.inl (by decide)⟩
     ·rw [if_neg c1] at a5 ⊢;exact a5
   ·rw [zj,if_neg hc,au,au,k3,s3,EJ,Nat.add_mul];omega
   ·rw [am,am];omega
end
theorem e3 {n:Int} (hn:0<=n) {t u o:Tm} (q:Fm t) (hu:Fm u) (h:LQ n t u= .ok o):Fm o:=by
 unfold LQ at h
 split at h
 ·cases h
 rename_i B
 obtain ⟨E,h1,h⟩:=i8 h
 split at h
 ·cases h
 rename_i h2
 injection h with h;subst h
 obtain ⟨d1,d2,d3⟩:=Ij q.2
 obtain ⟨x,z,A,F⟩:=F8 hu hn t (Int.le_refl 0) (Int.le_refl 0) (by omega) q.ok d3 h1
 rw [Int.add_zero] at A
 exact ⟨x,pS (by omega) (by omega) z⟩
theorem F7 {n:Int} {u:Tm} (t:Tm): ∀ {v d e:Int},H4 n u v d t= .error e->0<e/\e<=1000:=by
 induction t using gq with
 |h kd m nm r I sys z A=>
  intro v d e h
  have hk: ∀ {l:LT} {i:Nat},(∀x∈l,∀ {v d e:Int},H4 n u v d x= .error e->0<e/\e<=1000)->dX n u v d kd i l= .error e->0<e/\e<=1000:=by
   intro l
   induction l with
   |nil=>intro i _ h;rw [dX] at h;cases h
   |cons t l q=>
    intro i h hl
    rw [dX] at hl
    rcases be hl with hl|⟨_,_,hl⟩
    ·exact h t (by simp) hl
    rcases be hl with hl|⟨_,_,hl⟩
    ·exact q (fun x B=>h x (by simp [B])) hl
    ·cases hl
  have F: ∀ {l:LT},(∀x∈l,∀ {v d e:Int},H4 n u v d x= .error e->0<e/\e<=1000)->Mn n u v d kd l= .error e->0<e/\e<=1000:=by
   intro l
   induction l with
   |nil=>intro _ h;rw [Mn] at h;cases h
   |cons t l q=>
    intro h hl
    rw [Mn] at hl
    rcases be hl with hl|⟨_,_,hl⟩
    ·exact h t (by simp) hl
    rcases be hl with hl|⟨_,_,hl⟩
    ·exact q (fun x B=>h x (by simp [B])) hl
    ·cases hl
  have hs: ∀ {l:LB},(∀b∈l,∀x∈b.c,∀ {v d e:Int},H4 n u v d x= .error e->0<e/\e<=1000)->I2 n u v d kd l= .error e->0<e/\e<=1000:=by
   intro l
   induction l with
   |nil=>intro _ h;rw [I2] at h;cases h
   |cons b l q=>
    intro h hl
    rw [I2] at hl
    obtain ⟨f,E⟩:=b
    rcases be hl with hl|⟨_,_,hl⟩
    ·rw [AJ] at hl
     rcases be hl with hl|⟨_,_,hl⟩
     ·exact F (h ⟨f,E⟩ (by simp)) hl
     ·cases hl
    ·rcases be hl with hl|⟨_,_,hl⟩
     ·exact q (fun b hb=>h b (by simp [hb])) hl
     ·cases hl
  rw [H4] at h
  split at h
  ·exact xN h
  ·rcases be h with h|⟨_,_,h⟩
   ·exact hk z h
   ·rcases be h with h|⟨_,_,h⟩
    ·exact hs A h
    ·cases h
theorem AL {n:Int} {t u:Tm} {e:Int} (h:LQ n t u= .error e):0<e/\e<=1000:=by
 unfold LQ at h
 split at h
 ·injection h with h;omega
 ·rcases be h with h|⟨_,_,h⟩
  ·exact F7 t h
  ·split at h
   ·injection h with h;omega
   ·cases h
def sh {α:Type} (t:Tm) (x:Except Int α):Except Int α:=if bw t=0 then x else .error (bw t)
theorem z7 {α:Type} {t:Tm} {x:Except Int α} {e:Int} (q: ∀e,x= .error e->0<e/\e<=1000) (h:sh t x= .error e):0<e/\e<=1000:=by
 unfold sh at h
 split at h
 ·exact q e h
 ·rename_i z
  injection h with h
  have:=Et t;omega
def wA (a b:Int) (t:Tm):Except Int Tm:=sh t (J6 a b t)
def pH (f b:Int) (t:Tm):Except Int Tm:=sh t (uK 0 b 0 f t)
def xk (i:Int) (r:LC) (t:Tm):Except Int Tm:=sh t (Ab i r t)
theorem dj {e:Int} (h:e≠0):(e==0)=false:=by simpa using h
theorem aiH (hk:F3 k) {t:Tm} (q:In k t) {vb db:Int} (x:0<=vb/\vb<=1000000) (z:0<=db/\db<9223372036854775808) (I:Tm×Int->OS S):lu k t vb db I=I (tE (wA vb db t)):=by
 unfold wA sh
 by_cases h:bw t=0
 ·rw [if_pos h];exact He hk ⟨q.1,h⟩ x z I
 ·rw [if_neg h]
  simp only [lu,ag hk.fu,ar,y7,BS,An q.1 q.2.1 q.dep,dj h,sV,ae];rfl
theorem ek (hk:F3 k) {t:Tm} (q:In k t) {f b:Int} (hf:0<=f/\f<=24) (hb:0<=b/\b<9223372036854775808) (I:Tm×Int->OS S):lv k t f b I=I (tE (pH f b t)):=by
 unfold pH sh
 by_cases h:bw t=0
 ·rw [if_pos h];exact Rr hk ⟨q.1,h⟩ hf hb I
 ·rw [if_neg h]
  simp only [lv,ag hk.fu,ar,yZ,BQ,An q.1 q.2.1 q.dep,dj h,sV,ae];rfl
theorem ap8 (hk:F3 k) {t:Tm} (q:In k t) {i:Int} (x:0<=i/\i<24) {r:LC} (z:RF r) (I:Tm×Int->OS S):m_ k t i r I=I (tE (xk i r t)):=by
 unfold xk sh
 by_cases h:bw t=0
 ·rw [if_pos h];exact Ra hk ⟨q.1,h⟩ x z I
 ·rw [if_neg h]
  simp only [m_,ag hk.fu,ar,DM,An q.1 q.2.1 q.dep,dj h,sV,ae];rfl
end
section
theorem agi (t:Tm): ∀ {v v' d d':Int},v+am t<=1000000000->v'+am t<=1000000000->uK 0 0 v d t=uK 0 0 v' d' t:=by
 induction t using gq with
 |h kd n nm r L sys B E=>
  intro v v' d d' h h'
  rw [am] at h h'
  have hk: ∀ {l:LT} {i:Nat},(∀x∈l,∀ {v v' d d':Int},v+am x<=1000000000->v'+am x<=1000000000->uK 0 0 v d x=uK 0 0 v' d' x)->v+aH l+1<=1000000000->v'+aH l+1<=1000000000->dm 0 0 v d kd i l=dm 0 0 v' d' kd i l:=by
   intro l
   induction l with
   |nil=>intro i _ _ _;rw [dm,dm]
   |cons t l q=>
    intro i h h1 h2
    rw [aH] at h1 h2
    have:=g7 kd i
    rw [dm,dm,h t (by simp) (v:=v+Am kd i) (v':=v'+Am kd i) (d:=d+bJ kd i) (d':=d'+bJ kd i) (by omega) (by omega),q (fun x F=>h x (by simp [F])) (by omega) (by omega)]
  have I: ∀ {l:LT},(∀x∈l,∀ {v v' d d':Int},v+am x<=1000000000->v'+am x<=1000000000->uK 0 0 v d x=uK 0 0 v' d' x)->v+aH l+1<=1000000000->v'+aH l+1<=1000000000->Ic 0 0 v d kd l=Ic 0 0 v' d' kd l:=by
   intro l
   induction l with
   |nil=>intro _ _ _;rw [Ic,Ic]
   |cons t l q=>
    intro h h1 h2
    rw [aH] at h1 h2
    rw [Ic,Ic,h t (by simp) (v:=v) (v':=v') (d:=d+av kd) (d':=d'+av kd) (by omega) (by omega),q (fun x F=>h x (by simp [F])) (by omega) (by omega)]
  have A: ∀ {d:Int} {f:LC},EZ d 0 f= .ok f:=fun {d f}=>if_pos (.inl rfl)
  have hs: ∀ {l:LB},(∀b∈l,∀x∈b.c,∀ {v v' d d':Int},v+am x<=1000000000->v'+am x<=1000000000->uK 0 0 v d x=uK 0 0 v' d' x)->v+aO l+1<=1000000000->v'+aO l+1<=1000000000->H0 0 0 v d kd l=H0 0 0 v' d' kd l:=by
   intro l
   induction l with
   |nil=>intro _ _ _;rw [H0,H0]
   |cons b l q=>
    intro h h1 h2
    obtain ⟨f,z⟩:=b
    rw [aO,Ej] at h1 h2
    rw [H0,H0,n8,n8,A,A,aD,aD,I (l:=z) (h ⟨f,z⟩ (by simp)) (by omega) (by omega),q (fun b hb=>h b (by simp [hb])) (by omega) (by omega)]
  rw [uK,uK,A,A,aD,aD,hk B (by omega) (by omega),hs E (by omega) (by omega)]
  have J:(kd=1/\n>=v/\n>1000000000-0)↔(kd=1/\n>=v'/\n>1000000000-0):=by omega
  simp only [J,Int.add_zero,ite_self]
variable {S:Type} {k:Nat}
def c6 (l:LT) (x:Except Int Tm):Except Int Tm:=if xx l=0 then FD x else .error (xx l)
theorem soM {l:LT} {p:Tm×Int} {x:Except Int Tm} (q:xx l=0->oy p=x) (hc:xx l≠0->p.2=xx l):FD (oy p)=c6 l x:=by
 unfold c6
 by_cases h:xx l=0
 ·grind
 ·rw [if_neg h]
  unfold oy
  rw [hc h,if_neg h];rfl
theorem aFS {c:Int} {t a f y:Tm} (h:(RJ c t a f y).2=0):c=0:=by
 grind [aA3]
theorem aI1 {p:Tm×Int} (h:p.2=0):oy p= .ok p.1:=if_pos h
theorem aHT (hk:F3 k) {t a f y:Tm} (B:In k t) (ha:In k a) (hf:In k f) (F:In k y) (I:Tm×Int->OS S):hS k t a f y I=I (tE (c6 [t,a,f,y] (Md t a f y))):=by
 have A: ∀x∈[t,a,f,y],In k x:=fun x E=>by
  grind
 have q:xx [t,a,f,y]=0-> ∀x∈[t,a,f,y],Fm x:=fun h=>Ss (fun x E=>(A x E).1) h
 simp only [hS,ag hk.fu,ar,Re hk A (by simp),vU t B.1 _ B.2.1,aIa hk (fun h=>q h a (by simp)) (fun h=>q h f (by simp)) (fun h=>q h y (by simp))]
 refine (Rk hk (t:=(RJ (xx [t,a,f,y]) t a f y).1) (fun h=> ?_) I).trans ?_
 ·have z:=aFS h
  have:=aI1 h
  rw [z,aA4] at this
  rw [z]
  exact (aA5 (by omega) (by omega) (q z t (by simp)).f2 (q z a (by simp)).f2 (q z f (by simp)).f2 (q z y (by simp)).f2 this).isIn hk (by omega) (by omega)
 grind [soM,aA4,aA3]
structure Gd (x:Except Int Tm):Prop where
 en: ∀e,x= .error e->0<e/\e<=1000
 kd: ∀t,x= .ok t->0<=t.k
theorem akc (hk:F3 k) {l:LT} {x:Except Int Tm} (z:xx l=0-> ∀t,x= .ok t->In k t):In k (tE (c6 l x)).1:=by
 unfold c6
 by_cases q:xx l=0
 ·rw [if_pos q]
  unfold FD
  cases A:x with
  |error e=>exact gQ hk
  |ok t=>
   rw [aD]
   split
   ·exact z q t A
   ·exact gQ hk
 ·rw [if_neg q];exact gQ hk
def ks (r:LC):Tm:= .mk 13 0 po r [dS 10 [vN 0],vN 1,dS 9 [vN 0]] []
def w5:LT:=[dS 5 [vN 0],dS 5 [dS 8 [dS 8 [vN 0,dS 12 [vN 0]],dS 5 [dS 12 [dS 8 [ks [⟨1,0⟩],dS 12 [ks [⟨3,0⟩]]]]]]]]
theorem aF9 (q:Nat) (I:Int×Int×BA×LT->OS S):ys (q+100) I=I (8,0,po,w5):=by kernel_rfl
theorem aFR:bw (dS 8 w5)=0:=by kernel_rfl
section
variable {hd:Tm->(Tm->OS S)->OS S} {t:Tm}
end
def J4 (sys:LB):Tm:= .mk 15 0 po [] [.mk 3 0 po [] [] [],.mk 3 0 po [] [] []] sys
theorem RY (hk:Fu k) (sys:LB) (I:Int×Int×BA×LT×LB->OS S):kk k sys I=I (15,0,po,[.mk 3 0 po [] [] [],.mk 3 0 po [] [] []],sys):=by
 simp_all [kk,xi,ag]
def AK (b:Br Tm):Tm:=b.c.headD ov
structure SyF (sys:LB):Prop where
 bV: ∀b∈sys,b.c=[AK b]/\Fm (AK b)/\aq b.f/\b.f.length<1073741824
 len:sys.length<=20000
 dP:aI sys<=20000
theorem iQ {sys:LB} (h:Fm (J4 sys)):SyF sys:=by
 obtain ⟨h1,h2,E⟩:=Ij h.2
 have L:au (J4 sys)=3+aI sys:=by rfl
 have hd:aO sys+1<=am (J4 sys):=by grind [J4,am]
 unfold J4 at E
 rw [rE] at E
 simp only [ql] at E
 obtain ⟨_,ho,_,F⟩:=E
 have ho:(sys.all (bX 15 24)&&decide (([]:LC).length=0))=true:=by
  grind [cL]
 simp only [ql] at ho
 have hb:=xq.1 ho.1
 rw [wH,xq] at F
 have hk: ∀b∈sys,b.c=[AK b]/\Fm (AK b)/\aq b.f/\b.f.length<1073741824:=by
  intro b z
  have B:=hb b z
  unfold bX at B
  simp only [ql,decide_eq_true_eq] at B
  have hl:b.c.length=1:=by grind [xX]
  have A:=h.1.br (by exact z:b∈sys)
  match I:b.c,hl with
  |[x],_=>
   have J:AK b=x:=by grind [AK]
   have q:x∈b.c:=by grind
   rw [J]
   refine ⟨rfl,⟨A.2 x q,pS ?_ ?_ ?_⟩,A.1.1,A.1.2.1⟩
   ·have:=D0 q;have:=JP z;omega
   ·have:=k_ q;have:=we z;omega
   ·have:=xq.1 (F b z) x q
    rw [<-this]
    exact at8 x (by omega) (by decide)
 have hlen: ∀l:LB,(∀b∈l,b.c=[AK b])->l.length<=aI l:=by
  intro l
  induction l<;>grind [aI,kZ,ay,mB]
 exact ⟨hk,by grind,by omega⟩
def g_ (line:Tm):LB->Except Int (LB)
 |[]=> .ok []
 |b::r=>bE (di [⟨1,0⟩,⟨2,0⟩] line) fun u=>bE (g_ line r) fun l=> .ok (.mk b.f [.mk 14 0 po [⟨1,0⟩] [u,AK b] []]::l)
def dF (line a:Tm) (sys:LB):Except Int Tm:=bE (Ab 0 [⟨0,0⟩] line) fun q=>bE (g_ line sys) fun l=> .ok (.mk 15 0 po [] [q,dS 14 [line,a]] l)
theorem QA:RF [⟨1,0⟩,⟨2,0⟩]:=by
 refine ⟨by rfl,fun c hc=> ?_⟩
 simp only [xt,List.not_mem_nil,or_false] at hc
 rcases hc with rfl|rfl
 ·exact ⟨⟨by decide,by decide⟩,by decide,by decide⟩
 ·exact ⟨⟨by decide,by decide⟩,by decide,by decide⟩
theorem Qz:RF [⟨0,0⟩]:=gS ⟨⟨by decide,by decide⟩,by decide,by decide⟩
theorem agZ:aq [⟨1,0⟩]:=fun c hc=>by grind [ag1]
theorem jm {r:LC} {t y:Tm} (q:Fm t) (h:Ab 0 r t= .ok y):pw y/\am y<=200/\au y<=20000:=by
 obtain ⟨z,A,B,x⟩:=T0 h
 have E:=x q.ok q.rows
 have:=q.dep;have:=q.dP
 grind
theorem aaa {line:Tm}: ∀ {r:LB} {e:Int},g_ line r= .error e->0<e/\e<=1000:=by
 intro r
 induction r with
 |nil=>intro e h;cases h
 |cons b r q=>
  intro e h
  rcases be h with h|⟨_,_,h⟩<;>grind [be,li]
theorem o_ {line a:Tm} {sys:LB} {e:Int} (h:dF line a sys= .error e):0<e/\e<=1000:=by
 rcases be h with h|⟨_,_,h⟩
 ·exact fP h
 rcases be h with h|⟨_,_,h⟩
 ·exact aaa h
 simp_all
theorem aab {line:Tm} (hl:Fm line): ∀ {r l:LB},(∀b∈r,b.c=[AK b]/\Fm (AK b)/\aq b.f/\b.f.length<1073741824)->g_ line r= .ok l->ba l/\aO l<=201/\aI l<=r.length*20001+aI r/\l.length=r.length:=by
 intro r
 induction r with
 |nil=>
  intro l _ h
  injection h with h;grind [ba,aO]
 |cons b r z=>
  intro l q h
  obtain ⟨u,h1,h⟩:=i8 h
  obtain ⟨E,h2,h⟩:=i8 h
  injection h with h;subst h
  obtain ⟨F,x,A,B⟩:=q b (by simp)
  obtain ⟨i1,i2,i3,i4⟩:=z (fun b hb=>q b (by simp [hb])) h2
  obtain ⟨a1,a2,a3,a4⟩:=Jo hl h1
  have:=x.dep
  refine ⟨?_, ?_, ?_,by simp [i4]⟩
  ·rw [ba,Fa,aZ,aZ,pw,aZ,aZ,aZ,ba]
   refine ⟨⟨⟨A,B,by simp⟩,⟨⟨by unfold aG;omega,by unfold aG;omega,by simp,agZ,by simp,by simp,by simp⟩,⟨a1,x.ok,trivial⟩,trivial⟩,trivial⟩,i1⟩
  all_goals grind [aO,Ej,aH,am,aI,ay,au,kZ]
theorem yu (hk:F3 k) {line a:Tm} {sys:LB} (hl:Fm line) (ha:Fm a) (hs:SyF sys) {t:Tm} (h:dF line a sys= .ok t):In k t/\0<=t.k:=by
 obtain ⟨z,h1,h⟩:=i8 h
 obtain ⟨l,h2,h⟩:=i8 h
 injection h with h;subst h
 obtain ⟨a1,a2,a3⟩:=jm hl h1
 obtain ⟨i1,i2,i3,i4⟩:=aab hl hs.bV h2
 have:=hs.len;have:=hs.dP;have:=hl.dep;have:=ha.dep;have:=hl.dP;have:=ha.dP
 have A:sys.length*20001<=20000*20001:=HZ _ hs.len
 refine ⟨⟨?_,hk.fd ?_, ?_⟩,(by decide:(0:Int)<=15)⟩
 ·rw [pw,aZ,aZ,aZ]
  exact ⟨⟨by unfold aG;omega,by unfold aG;omega,by simp,fun c hc=>(by cases hc),by simp,by simp,by omega⟩,⟨a1,ag2 (by omega) (by simp) fun x q=>by
   simp at q
   rcases q with rfl|rfl
   ·exact hl.ok
   ·exact ha.ok,trivial⟩,i1⟩
 ·grind [dS,am,aH,aO]
 ·unfold dS;rw [au,ay,ay,ay,au,ay,ay,ay,aI];omega
theorem ai_ (hk:F3 k) {c:Int} {t:Tm} (h:c=0->Fm t) (I:Tm×Int->OS S):yz k t c I=I (if c=0 then tE (Ab 0 [⟨0,0⟩] t) else (ov,c)):=by
 simp only [yz,ag hk.fu,de,bG,Qs,ar]
 by_cases hc:c=0
 ·grind [n3,Ra,Qz,rI]
 ·rw [decide_eq_false hc,sV,ae,if_neg hc];rfl
theorem E6 (hk:F3 k) (I:Tm×Int->OS S) {line:Tm} {q:Int×Int×BA×LT} {w:Tm} {c:Int} (hc:c≠0) (z:w.s.length<1073741824):
  ∀ (r p acc:LB) (m:Nat),w.s=p++r->0<m->ko k I line q w m c acc (p.length:Int)=I (ov,c):=by
 intro r p acc m h A
 obtain ⟨m,rfl⟩: ∃j,m=j+1:=⟨m-1,by omega⟩
 cases r with
 |nil=>grind [ko,oP,n3,ar,ag,rG]
 |cons x r=>
  obtain ⟨B,E,F,J⟩:=qI h (by omega)
  grind [ko,oP,ae,de,ar,ag,rG]
theorem aeu (hk:F3 k) (I:Tm×Int->OS S) {line:Tm} (hl:Fm line) {q:Int×Int×BA×LT} {w:Tm} (M:w.s.length<1073741824) (hs: ∀b∈w.s,b.c=[AK b]):
  ∀ (r p acc:LB) (m:Nat),w.s=p++r->r.length<m->acc.length+r.length<1073741824->
   ko k I line q w m 0 acc (p.length:Int)=eE (g_ line r) (fun l=>eQ k (.mk q.1 q.2.1 q.2.2.1 [] q.2.2.2 (acc++l)) 0 fun z=>I (z.1,z.2.1)) fun e=>I (ov,e):=by
 intro r
 induction r with
 |nil=>
  intro p acc m h B ha
  obtain ⟨m,rfl,A⟩:=pz B
  simp only [ko,oP,xy h,n3,ag hk.fu,ar,g_,aP,xK]
 |cons x r O=>
  intro p acc m h B ha
  obtain ⟨m,rfl,A⟩:=pz B
  obtain ⟨T,W,J,L⟩:=qI h (by omega)
  have Y:=hs x (by grind)
  have hg:af x.c 0=some (AK x):=by rw [Y];rfl
  have E: ∀g:Tm×Int->OS S,lr k line [⟨1,0⟩,⟨2,0⟩] 0 g=g (tE (di [⟨1,0⟩,⟨2,0⟩] line)):=fun g=>Rd hk hl QA g
  simp only [ko,oP,T,ae,W,qm,ag hk.fu,de,bG,show decide ((0:Int)=0)=true from rfl,va,n3,ar,E,hg,xi]
  rw [J5 (by grind),g_,AS]
  cases F:di [⟨1,0⟩,⟨2,0⟩] line with
  |error e=>
   have he:=li F
   rw [J]
   exact E6 hk I (show e≠0 by omega) M r (p++[x]) _ m L (by grind)
  |ok u=>
   rw [aP,AS,J]
   refine (O (p++[x]) (acc++[.mk x.f [.mk 14 0 po [⟨1,0⟩] [u,AK x] []]]) m L A (by grind)).trans ?_
   grind [aP]
theorem aiI (hk:F3 k) {line a:Tm} {sys:LB} (hl:In k line) (ha:In k a) (hs:In k (J4 sys)) (I:Tm×Int->OS S):yx k line a sys I=I (tE (c6 [line,a,J4 sys] (dF line a sys))):=by
 have E: ∀x∈[line,a,J4 sys],In k x:=fun x J=>by
  grind
 have q:xx [line,a,J4 sys]=0-> ∀x∈[line,a,J4 sys],Fm x:=fun h=>Ss (fun x J=>(E x J).1) h
 have A:sys.length<1073741824:=hs.1.node.2.2.2.2.2.2
 simp only [yx,Hq,ag hk.fu,ar,RY hk.fu]
 have hb: ∀g:Int->OS S,m9 k [line,a,.mk 15 0 po [] [.mk 3 0 po [] [] [],.mk 3 0 po [] [] []] sys] g=g (xx [line,a,J4 sys]):=fun g=>Re hk E (by simp) g
 have hc: ∀g:Tm->OS S,dJ k (.mk 15 0 po [] [.mk 3 0 po [] [] [],.mk 3 0 po [] [] []] sys) g=g (J4 sys):=fun g=>vU (J4 sys) hs.1 g hs.2.1
 simp only [hb,hc,vU line hl.1 _ hl.2.1,vU a ha.1 _ ha.2.1,ai_ hk (fun h=>q h line (by simp)),xi]
 unfold c6
 by_cases B:xx [line,a,J4 sys]=0
 ·have fl:=q B line (by simp)
  have fa:=q B a (by simp)
  have sy:=iQ (q B (J4 sys) (by simp))
  simp only [B,if_true]
  have F:I (tE (FD (dF line a sys)))=eE (dF line a sys) (fun t=>eQ k t 0 fun z=>I (z.1,z.2.1)) fun e=>I (ov,e):=by
   unfold FD
   rw [Jx _ I,AS]
   refine Dc (fun t L=> ?_) fun _ _=>rfl
   rw [<-Jx _ I]
   exact ((Rk hk (t:=t) (c:=0) (fun _=>(yu hk fl fa sy L).1) I).trans rfl).symm
  rw [F]
  unfold dF
  rw [AS]
  cases h1:Ab 0 [⟨0,0⟩] line with
  |error e=>
   have he:=fP h1
   exact E6 hk I (w:=J4 sys) (show e≠0 by omega) A sys [] [] k rfl (by omega)
  |ok M=>
   rw [aP,AS]
   refine (aeu hk I fl (w:=J4 sys) A (fun b hb=>(sy.bV b hb).1) sys [] [] k rfl (by omega) (by grind)).trans ?_
   rfl
 ·simp only [if_neg B]
  exact E6 hk I (w:=J4 sys) B A sys [] [] k rfl (by omega)
end
end Go.Proofs.YtfffkmcpnggkdaaGreatDoor
