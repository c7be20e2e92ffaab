/- Part 4 of a proof; sources: wip/. -/
import Derived.Test.YtfffkmcpnggkdaaGreatDoorX3
import Derived.KernelRfl
open Bool renaming and_eq_true→pX,not_false→sQ,not_true→uX
open ByteArray renaming empty→oW
open Eq renaming trans→o0
open Go.IntKind renaming wrap→oa
open Int renaming toNat_natCast→EJ
open List renaming all_eq_true→xm,append_nil→xG,length_cons→ue,length_eq_zero_iff→Iy,mem_cons→xB,nil_append→zg
open Nat renaming le_refl→xq,mul_le_mul_right→HV,zero_add→Ej
open Option renaming bind→nW,bind_some→p9
set_option linter.unusedVariables false
set_option linter.unusedSimpArgs false
namespace Go.Proofs.YtfffkmcpnggkdaaGreatDoor
set_option maxRecDepth 100000
open Go PI
section
open Go PI _root_.Go.Proofs.Tryz
noncomputable section
variable {S:Type} {o:Obj} (k:Nat)
def ani:Rw S:=aj Ls fe fun t nV nN oI oE oV oT oU nU Z=>aa k (K' k t nV nN oI oE oV oT oU nU) (aHn nN oI oE oV oT oU nU Z)
def Cx:Fx S:=fp 25 [(159,am_ k)] [] k f93 1
theorem pJ (ho:ai o):Tl o 93 (ani k:Rw S):=ou (Cx k) ⟨np k ho,trivial⟩ func93 fun t nV nN oI oE oV oT oU nU Z x h=>px h
def Gq:Rw S:=aj adv aJl fun qu qT c1 c2 zx uu tY tX tW tV tU tT Z=>aa k (p3 k qu qT c1 c2 zx uu tY tX tW tV tU tT) (aHo c1 c2 uu tY tX tW tV tU tT Z)
def rX:Fx S:=fx 37 (fun _=>[]) (fun _=>false) [(40,A3 k),(66,Oy k)] [] k f92 true [] 4
theorem J9 (ho:ai o):Tl o 92 (Gq k:Rw S):=ou (rX k) ⟨D_ k ho,M6 k ho,trivial⟩ func92 fun qu qT c1 c2 zx uu tY tX tW tV tU tT Z x h=>px h
def q1:Rw S:=aj adx fh fun f qu c0 Z=>aa k (JK k f qu c0) (s4 Z)
def Cy:Fx S:=fp 23 [(81,P0 k),(82,IJ k),(160,PP k)] [] k f94 1
theorem pK (ho:ai o):Tl o 94 (q1 k:Rw S):=ou (Cy k) ⟨Lx k ho,K0 k ho,jq k ho,trivial⟩ func94 fun f qu c0 Z x h=>px h
def O4:Rw S:=aj h3 fh fun t qu c0 Z=>aa k (JJ k t qu c0) (AQ Z)
def Vo:Fx S:=fp 18 [(81,P0 k),(82,IJ k),(85,Gk k)] [] k f95 1
theorem abf (ho:ai o):Tl o 95 (O4 k:Rw S):=ou (Vo k) ⟨Lx k ho,K0 k ho,JY k ho,trivial⟩ func95 fun t qu c0 Z x h=>px h
def anB:Rw S:=aj Ls fe fun l nV nN oI oE oV oT oU nU Z=>aa k (h7 k l nV nN oI oE oV oT oU nU) (azN nN oI oE oV oT oU nU Z)
def rY:Fx S:=fx 100 (fun _=>[]) (fun _=>false) [(41,Ot k),(42,OV k),(43,A4 k),(64,jx k),(92,Gq k),(93,ani k),(94,q1 k),(95,O4 k)] [] k f46 true [] 1
theorem um (ho:ai o):Tl o 46 (anB k:Rw S):=ou (rY k) ⟨Dj k ho,H7 k ho,hg k ho,j8 k ho,J9 k ho,pJ k ho,pK k ho,abf k ho,trivial⟩ func46 fun l nV nN oI oE oV oT oU nU Z x h=>px h
def Gr:Rw S:=aj ady xn fun kind l kids Z=>aa k (JM k kind l kids) (aCI Z)
def Cz:Fx S:=fx 11 (fun _=>[]) (fun _=>false) [] [] k f96 true [] 0
theorem J_ (ho:ai o):Tl o 96 (Gr k:Rw S):=ou (Cz k) trivial func96 fun kind l kids Z x h=>px h
def vG:Rw S:=aj Ez xn fun t Z=>aa k (JG k t) (AX Z)
def CA:Fx S:=fp 133 [(14,PK k),(34,PL (dJ k)),(35,Gg k),(42,OV k),(65,Oq k),(66,Oy k),(94,q1 k),(95,O4 k),(96,Gr k)] [(20,⟨[(1,nM),(2,nM),(6,nM),(8,nM),(9,nM),(10,nM),(11,ql 100011),(94,nM),(95,nM),(96,nM)],[(1,[nM,nM,nM,nM,nM,nM]),(2,[nM,nM,nM,ql 200131,ql 200132,ql 200133]),(6,[nM,nM,nM,nM,nM,nM]),(9,[nM,nM,nM,nM,nM,nM]),(10,[nM,nM,nM,nM,nM,ql 200645]),(44,[nM])]⟩,ap 21 769727)] k f47 0
def Mt (r3:Tm) (q:Int×Int×ByteArray×List Cl×List Tm) (x4:Tm) (r13:Tm×Int) (x5:Tm) (z:Int) (x:List (Br Tm)) (A:Int):St UU:=⟨[(1,(pt 1)),(2,(pt 2)),(6,(pt 6)),(8,(pt 44)),(9,(pt 9)),(10,(pt 10)),(11,(.own 100011 0)),(94,(sB x5.s)),(95,(iI x5.s.length)),(96,(iI A))],[(1,bT r3),(2,.cells [(iI 0),(iI 0),zw,(.own 200131 0),(.own 200132 0),(.own 200133 0)]),(6,bT x4),(9,bT r13.1),(10,.cells [(iI q.1),(iI q.2.1),(.str q.2.2.1),(sC q.2.2.2.1),(sT q.2.2.2.2),(.own 200645 0)]),(44,bI z)],[(200645,xP),(200133,xP),(200132,zn),(200131,xW),(100011,⟨0,ET.B,x⟩)],[(200645,.wr),(200133,.wr),(200132,.wr),(200131,.wr),(100011,.wr)]⟩
section
variable (k:Nat) (t:Tm) (Z:Out UU->Option S)
theorem XX (r3 x x4 r13 x5): ∀n z q A,(CA k).lp Z 20 [] n (Mt r3 x x4 r13 x5 z q A)=E7 k (AX Z) r3 x x4 r13 x5 n z q A:=EG (Jp k (AX Z) r3 x x4 r13 x5)
end
theorem zI (ho:ai o):Tl o 47 (vG k:Rw S):=ou (CA k) ⟨FK k ho,IK o ho k,SG k ho,H7 k ho,w4 k ho,M6 k ho,pK k ho,abf k ho,J_ k ho,trivial⟩ func47 fun t Z x h=>o0 (b:=SP k (AX Z) (fun E z x4 r13 x5 A q B=>(CA k).lp Z 20 [] k (Mt E z x4 r13 x5 A q B)) t) (by kernel_rfl) (o0 (by simp only [XX];rfl) (al h))
def vH:Rw S:=aj adL xn fun b Z=>aa k (r2 k b) (aii Z)
def Vp:Fx S:=fp 11 [(42,OV k)] [] k f171 0
theorem zJ (ho:ai o):Tl o 171 (vH k:Rw S):=ou (Vp k) ⟨H7 k ho,trivial⟩ func171 fun b Z x h=>px h
def Gs:Rw S:=aj adz xn fun l Z=>aa k (dh k l) (kr Z)
def eM:Fx S:=fx 22 (fun _=>[]) (fun _=>false) [(171,vH k)] [(3,⟨[(1,nM),(5,ql 100005),(8,nM),(9,nM),(10,nM)],[]⟩,ap 5 11)] k f112 false [true] 0
def Mu (l:List (Br Tm)) (qk:Int) (q:List (Br Tm)):St UU:=⟨[(1,(.func 171 [] [])),(5,(.own 100005 0)),(8,(sB l)),(9,(iI l.length)),(10,(iI qk))],[],[(100005,⟨0,ET.B,q⟩)],[(100005,.wr)]⟩
section
variable (k:Nat) (l:List (Br Tm)) (Z:Out UU->Option S)
theorem XY: ∀n qk q,(eM k).lp Z 3 [] n (Mu l qk q)=qd k (kr Z) l n qk q:=aL (hz k (kr Z) l)
end
theorem aFl (ho:ai o):Tl o 112 (Gs k:Rw S):=ou (eM k) ⟨zJ k ho,trivial⟩ func112 fun l Z x h=>o0 (b:=j' k (kr Z) (fun qk q=>(eM k).lp Z 3 [] k (Mu l qk q)) l) (by kernel_rfl) (o0 (by simp only [XY];rfl) (al h))
def a7:Rw S:=aj Ez xn fun g Z=>aa k (SH k g) (aCJ Z)
def Vq:Fx S:=fp 6 [(112,Gs k)] [] k f111 0
theorem uo (ho:ai o):Tl o 111 (a7 k:Rw S):=ou (Vq k) ⟨aFl k ho,trivial⟩ func111 fun g Z x h=>px h
def Gt:Rw S:=aj gi xn fun a es Z=>aa k (Nn k a es) (aCI Z)
def CB:Fx S:=fx 9 (fun _=>[]) (fun _=>false) [(96,Gr k)] [] k f114 true [] 0
theorem Ka (ho:ai o):Tl o 114 (Gt k:Rw S):=ou (CB k) ⟨J_ k ho,trivial⟩ func114 fun a es Z x h=>px h
def Gu:Rw S:=aj EU fh fun c c0 Z=>aa k (ay3 k c c0) (aHp c0 Z)
def CC:Fx S:=fp 14 [(219,GP k)] [] k f234 1
theorem Kb (ho:ai o):Tl o 234 (Gu k:Rw S):=ou (CC k) ⟨Ku k ho,trivial⟩ func234 fun c c0 Z x h=>px h
def amV:Rw S:=aj aGj fh fun l c0 Z=>aa k (ay4 k l c0) (dn c0 Z)
def Vs:Fx S:=fp 29 [(234,Gu k)] [(3,⟨[(1,nM),(5,ql 100005),(10,nM),(11,nM),(12,nM)],[(1000000,[nM])]⟩,ap 5 11)] k f188 1
def aBN (c0:Int) (l:List Cl) (te:Int) (q:List Cl):St UU:=⟨[(1,(.func 234 [] [(pt 1000000)])),(5,(.own 100005 0)),(10,(sC l)),(11,(iI l.length)),(12,(iI te))],[(1000000,bI c0)],[(100005,⟨0,ET.C,q⟩)],[(100005,.wr)]⟩
section
variable (k:Nat) (l:List Cl) (c0:Int) (Z:Out UU->Option S)
theorem aDQ: ∀n te q,(Vs k).lp Z 3 [] n (aBN c0 l te q)=mj k (dn c0 Z) c0 l n te q:=aL (cy k (dn c0 Z) c0 l)
end
theorem am3 (ho:ai o):Tl o 188 (amV k:Rw S):=ou (Vs k) ⟨Kb k ho,trivial⟩ func188 fun l c0 Z x h=>o0 (b:=az7 k (dn c0 Z) (fun te q=>(Vs k).lp Z 3 [] k (aBN c0 l te q)) l c0) (by kernel_rfl) (o0 (by simp only [aDQ];rfl) (al h))
def O6:Rw S:=aj EV xn fun f i Z=>aa k (dd k f i) (ua Z)
def CD:Fx S:=fp 20 [(125,PG k),(172,Pp k),(188,amV k),(233,GQ k)] [] k f204 0
theorem abh (ho:ai o):Tl o 204 (O6 k:Rw S):=ou (CD k) ⟨x9 k ho,M5 k ho,am3 k ho,Kv k ho,trivial⟩ func204 fun f i Z x h=>px h
def O7:Rw S:=aj Lu fh fun f c0 Z=>aa k (Fk k f c0) (s4 Z)
def Vt:Fx S:=fp 39 [(41,Ot k),(81,P0 k),(82,IJ k),(129,Oo k),(186,GK k),(204,O6 k)] [] k f161 1
theorem abi (ho:ai o):Tl o 161 (O7 k:Rw S):=ou (Vt k) ⟨Dj k ho,Lx k ho,K0 k ho,x7 k ho,Kp k ho,abh k ho,trivial⟩ func161 fun f c0 Z x h=>px h
def aHF:Rw S:=aj cZ aAw fun c1 a7 q x z A B E F I J L M O T W Y ad ao ax az a6 Z=>aa k (lf k c1 a7 q x z A B E F I J L M O T W Y ad ao ax az a6) (aCK c1 q x z A B E F I J L M O T W Y ad ao ax az a6 Z)
def vI:Rw S:=aj cZ aAw fun c1 q x z A B E F I J L M O T W Y ad ao ax az a6 a7 Z=>aa k (lf k c1 q x z A B E F I J L M O T W Y ad ao ax az a6 a7) (aHq Z)
def CE:Fx S:=fp 8 [(40,A3 k)] [] k f162 3
theorem aFm (ho:ai o):Tl o 162 (aHF k:Rw S):=ou (CE k) ⟨D_ k ho,trivial⟩ func162 fun c1 q z A B E F I J L M O T W Y ad ao ax az a6 a7 a8 Z x h=>px h
theorem zK (ho:ai o):Tl o 162 (vI k:Rw S):=j3 (n:=2) (m:=1) (aFm k ho) fun c1 a8 q z A B E F I J L M O T W Y ad ao ax az a6 a7 Z x h=>o0 (b:=aa k (lf k c1 a8 q z A B E F I J L M O T W Y ad ao ax az a6 a7) (aCK c1 q z A B E F I J L M O T W Y ad ao ax az a6 a7 (SJ 2 1 [.cells [(pt 2)],bT c1,.cells [(iI a8),(sC q),(iI z),(iI A),(.str B),(sC E),(sT F),(sB I),(sB J),(iI L),(iI M),(.str O),(sC T),(sT W),(sB Y),(iI ad),(iI ao),(.str ax),(sC az),(sT a6),(sB a7)]] Z))) (by kernel_rfl) (o0 (congrArg (aa k (lf k c1 a8 q z A B E F I J L M O T W Y ad ao ax az a6 a7)) (funext fun r=>if_pos ⟨rfl,rfl⟩)) h)
def O8:Rw S:=aj aGk aJm fun nV nN oI oE oV oT oU nU q uN uW uV uU uT uO tR tQ tP tM th tg c2 Z=>aa k (p' k nV nN oI oE oV oT oU nU q uN uW uV uU uT uO tR tQ tP tM th tg c2) (aHr nN oI oE oV oT oU nU q uN uW uV uU uT uO tR tQ tP tM th tg c2 Z)
def Vu:Fx S:=fx 20 (fun _=>[]) (fun _=>false) [(42,OV k),(162,vI k)] [] k f101 true [false,true] 3
theorem abj (ho:ai o):Tl o 101 (O8 k:Rw S):=ou (Vu k) ⟨H7 k ho,zK k ho,trivial⟩ func101 fun nV nN oI oE oV oT oU nU q uN uW uV uU uT uO tR tQ tP tM th tg c2 Z x h=>px h
def iK:Rw S:=aj Ez xn fun xw Z=>aa k (No k xw) (aE Z)
def jO:Fx S:=fx 6 (fun _=>[]) (fun _=>false) [(41,Ot k)] [] k f103 true [] 0
theorem eg (ho:ai o):Tl o 103 (iK k:Rw S):=ou (jO k) ⟨Dj k ho,trivial⟩ func103 fun xw Z x h=>px h
def A8:Rw S:=aj aBm qo fun b uA qM qK qJ qI qH qG qR sK rm rL rK rE rq rO sJ sI sH rP sM sL Z=>aa k (ay7 k b uA qM qK qJ qI qH qG qR sK rm rL rK rE rq rO sJ sI sH rP sM sL) (aHs qM qK qJ qI qH qG qR sK rm rL rK rE rq rO sJ sI sH rP sM sL Z)
def Vv:Fx S:=fp 31 [(41,Ot k),(42,OV k),(91,am9 k),(103,iK k)] [] k f163 2
theorem Ec (ho:ai o):Tl o 163 (A8 k:Rw S):=ou (Vv k) ⟨Dj k ho,H7 k ho,nn k ho,eg k ho,trivial⟩ func163 fun b uA qM qK qJ qI qH qG qR sK rm rL rK rE rq rO sJ sI sH rP sM sL Z x h=>px h
def Gv:Rw S:=aj aGl qo fun l uA qM qK qJ qI qH qG qR sK rm rL rK rE rq rO sJ sI sH rP sM sL Z=>aa k (gk k l uA qM qK qJ qI qH qG qR sK rm rL rK rE rq rO sJ sI sH rP sM sL) (e0 qM qK qJ qI qH qG qR sK rm rL rK rE rq rO sJ sI sH rP sM sL Z)
def CF:Fx S:=fx 22 (fun _=>[]) (fun _=>false) [(163,A8 k)] [(3,⟨[(1,nM),(5,ql 100005),(8,nM),(9,nM),(10,nM)],[(1000000,[nM]),(1000001,[nM,nM,nM,nM,nM,nM,nM,nM,nM,nM,nM,nM,nM,nM,nM,nM,nM,nM,nM,nM,nM])]⟩,ap 5 11)] k f112 false [true] 2
def MF (qM:List Cl) (rL:Int) (rK:ByteArray) (rE:List Cl) (rq:List Tm) (rO:List (Br Tm)) (sJ sI:Int) (sH:ByteArray) (rP:List Cl) (sM:List Tm) (qK:Int) (sL:List (Br Tm)) (qJ:Int) (qI:ByteArray) (qH:List Cl) (qG:List Tm) (qR sK:List (Br Tm)) (rm:Int) (l:List (Br Tm)) (arm qk:Int) (q:List (Br Tm)):St UU:=⟨[(1,(.func 163 [] [(pt 1000000)])),(5,(.own 100005 0)),(8,(sB l)),(9,(iI l.length)),(10,(iI qk))],[(1000000,.cells [(pt 1000001)]),(1000001,.cells [(iI arm),(sC qM),(iI qK),(iI qJ),(.str qI),(sC qH),(sT qG),(sB qR),(sB sK),(iI rm),(iI rL),(.str rK),(sC rE),(sT rq),(sB rO),(iI sJ),(iI sI),(.str sH),(sC rP),(sT sM),(sB sL)])],[(100005,⟨0,ET.B,q⟩)],[(100005,.wr)]⟩
section
variable (k:Nat) (l:List (Br Tm)) (uA:Int) (qM:List Cl) (qK qJ:Int) (qI:ByteArray) (qH:List Cl) (qG:List Tm) (qR sK:List (Br Tm)) (rm rL:Int) (rK:ByteArray) (rE:List Cl) (rq:List Tm) (rO:List (Br Tm)) (sJ sI:Int) (sH:ByteArray) (rP:List Cl) (sM:List Tm) (sL:List (Br Tm)) (Z:Out UU->Option S)
theorem Yc: ∀n arm qk q,(CF k).lp Z 3 [] n (MF qM rL rK rE rq rO sJ sI sH rP sM qK sL qJ qI qH qG qR sK rm l arm qk q)=kv k (e0 qM qK qJ qI qH qG qR sK rm rL rK rE rq rO sJ sI sH rP sM sL Z) qM rL rK rE rq rO sJ sI sH rP sM qK sL qJ qI qH qG qR sK rm l n arm qk q:=EG (r4 k (e0 qM qK qJ qI qH qG qR sK rm rL rK rE rq rO sJ sI sH rP sM sL Z) qM rL rK rE rq rO sJ sI sH rP sM qK sL qJ qI qH qG qR sK rm l)
end
theorem Kc (ho:ai o):Tl o 112 (Gv k:Rw S):=ou (CF k) ⟨Ec k ho,trivial⟩ func112 fun l uA qM qK qJ qI qH qG qR sK rm rL rK rE rq rO sJ sI sH rP sM sL Z x h=>o0 (b:=aAa k (e0 qM qK qJ qI qH qG qR sK rm rL rK rE rq rO sJ sI sH rP sM sL Z) (fun arm qk q=>(CF k).lp Z 3 [] k (MF qM rL rK rE rq rO sJ sI sH rP sM qK sL qJ qI qH qG qR sK rm l arm qk q)) l uA qM qK qJ qI qH qG qR sK rm rL rK rE rq rO sJ sI sH rP sM sL) (by kernel_rfl) (o0 (by simp only [Yc];rfl) (al h))
def Gw:Rw S:=aj Ls aJn fun g nV nN oI oE oV oT oU nU uN uW uV uU uT uO tR tQ tP tM th tg Z=>aa k (R' k g nV nN oI oE oV oT oU nU uN uW uV uU uT uO tR tQ tP tM th tg) (hh nN oI oE oV oT oU nU tR tQ tP tM th tg Z)
def Vw:Fx S:=fp 74 [(42,OV k),(43,A4 k),(64,jx k),(101,O8 k),(111,a7 k),(112,Gv k),(114,Gt k),(161,O7 k)] [(3,⟨[(2,nM),(3,nM),(4,nM),(21,nM),(22,nM),(23,nM)],[(2,[nM]),(3,[nM,nM,nM,nM,nM,nM]),(4,[nM,nM,nM,ql 200259,nM,nM]),(1000000,[nM,nM,nM,nM,nM,nM,nM,nM,ql 64200008,nM,nM,nM,nM,nM,nM,nM,nM,nM,nM,nM,nM])]⟩,ap 5 11)] k f97 1
def aBO (nN:List Cl) (uW:Int) (uV:ByteArray) (uU:List Cl) (uT:List Tm) (uO:List (Br Tm)) (tR tQ:Int) (tP:ByteArray) (tM:List Cl) (th:List Tm) (oI:Int) (tg:List (Br Tm)) (oE:Int) (oV:ByteArray) (oT:List Cl) (oU:List Tm) (nU:List (Br Tm)) (uN:Int) (g:Tm) (r3:Int×Int×ByteArray×List Tm×List (Br Tm)) (x:Int) (q:List (Br Tm)) (IG:Int):St UU:=⟨[(2,(pt 2)),(3,(pt 3)),(4,(pt 4)),(21,(sB g.s)),(22,(iI g.s.length)),(23,(iI IG))],[(2,.cells [(pt 1000000)]),(3,bT g),(4,.cells [(iI r3.1),(iI r3.2.1),(.str r3.2.2.1),(.own 200259 0),(sT r3.2.2.2.1),(sB r3.2.2.2.2)]),(1000000,.cells [(iI x),(sC nN),(iI oI),(iI oE),(.str oV),(sC oT),(sT oU),(sB nU),(.own 64200008 0),(iI uN),(iI uW),(.str uV),(sC uU),(sT uT),(sB uO),(iI tR),(iI tQ),(.str tP),(sC tM),(sT th),(sB tg)])],[(64200008,⟨0,ET.B,q⟩),(200259,xW)],[(64200008,.wr),(200259,.wr)]⟩
section
variable (k:Nat) (g:Tm) (nV:Int) (nN:List Cl) (oI oE:Int) (oV:ByteArray) (oT:List Cl) (oU:List Tm) (nU:List (Br Tm)) (uN uW:Int) (uV:ByteArray) (uU:List Cl) (uT:List Tm) (uO:List (Br Tm)) (tR tQ:Int) (tP:ByteArray) (tM:List Cl) (th:List Tm) (tg:List (Br Tm)) (Z:Out UU->Option S)
theorem aDR (r3): ∀n x q IG,(Vw k).lp Z 3 [] n (aBO nN uW uV uU uT uO tR tQ tP tM th oI tg oE oV oT oU nU uN g r3 x q IG)=k9 k (hh nN oI oE oV oT oU nU tR tQ tP tM th tg Z) nN uW uV uU uT uO tR tQ tP tM th oI tg oE oV oT oU nU uN g r3 n x q IG:=EG (l2 k (hh nN oI oE oV oT oU nU tR tQ tP tM th tg Z) nN uW uV uU uT uO tR tQ tP tM th oI tg oE oV oT oU nU uN g r3)
end
theorem Kd (ho:ai o):Tl o 97 (Gw k:Rw S):=ou (Vw k) ⟨H7 k ho,hg k ho,j8 k ho,abj k ho,uo k ho,Kc k ho,Ka k ho,abi k ho,trivial⟩ func97 fun g nV nN oI oE oV oT oU nU uN uW uV uU uT uO tR tQ tP tM th tg Z x h=>o0 (b:=az_ k (hh nN oI oE oV oT oU nU tR tQ tP tM th tg Z) (fun A z q IG=>(Vw k).lp Z 3 [] k (aBO nN uW uV uU uT uO tR tQ tP tM th oI tg oE oV oT oU nU uN g A z q IG)) g nV nN oI oE oV oT oU nU uN uW uV uU uT uO tR tQ tP tM th tg) (by kernel_rfl) (o0 (by simp only [aDR];rfl) (al h))
def Gx:Rw S:=aj Mw xn fun qm Z=>aa k (Iw k qm) (aCH Z)
def Vy:Fx S:=fx 5 (fun _=>[]) (fun _=>false) [] [] k f170 true [] 0
theorem Ke (ho:ai o):Tl o 170 (Gx k:Rw S):=ou (Vy k) trivial func170 fun qm Z x h=>px h
def A9:Rw S:=aj aBn fh fun t a f y c0 Z=>aa k (SI k t a f y c0) (aCL Z)
def Vz:Fx S:=fx 28 (fun _=>[]) (fun _=>false) [(140,OE k),(141,Gi k),(170,Gx k)] [] k f207 true [] 1
theorem Ed (ho:ai o):Tl o 207 (A9 k:Rw S):=ou (Vz k) ⟨NC k ho,JW k ho,Ke k ho,trivial⟩ func207 fun t a f y c0 Z x h=>px h
def O_:Rw S:=aj aGm xn fun t a f y Z=>aa k (o2 k t a f y) (BC Z)
def VA:Fx S:=fp 28 [(34,PL (dJ k)),(138,OH k),(145,OJ k),(207,A9 k)] [] k f205 0
theorem abl (ho:ai o):Tl o 205 (O_ k:Rw S):=ou (VA k) ⟨IK o ho k,fL k ho,zq k ho,Ed k ho,trivial⟩ func205 fun t a f y Z x h=>px h
def vJ:Rw S:=aj aBn fh fun t a f y c0 Z=>aa k (IG k t a f y c0) (AQ Z)
def CG:Fx S:=fp 24 [(81,P0 k),(82,IJ k),(205,O_ k)] [] k f165 1
theorem zL (ho:ai o):Tl o 165 (vJ k:Rw S):=ou (CG k) ⟨Lx k ho,K0 k ho,abl k ho,trivial⟩ func165 fun t a f y c0 Z x h=>px h
def vK:Rw S:=aj kX8 aAw fun sO c1 a7 q x z A B E F I J L M O T W Y ad ao ax az a6 Z=>aa k (jb k sO c1 a7 q x z A B E F I J L M O T W Y ad ao ax az a6) (aHt c1 q x z A B E F I J L M O T W Y ad ao ax az a6 Z)
def CH:Fx S:=fx 43 (fun _=>[]) (fun _=>false) [(40,A3 k),(41,Ot k),(66,Oy k)] [] k f164 true [] 3
theorem zM (ho:ai o):Tl o 164 (vK k:Rw S):=ou (CH k) ⟨D_ k ho,Dj k ho,M6 k ho,trivial⟩ func164 fun sO c1 q z A B E F I J L M O T W Y ad ao ax az a6 a7 a8 Z x h=>px h
def aHG:Rw S:=aj cZ hK fun c2 zx uu tY tX tW tV tU tT vi vh wc v8 v7 aq_ vn vm vl vk vg vj arg Z=>aa k (h9 k c2 zx uu tY tX tW tV tU tT vi vh wc v8 v7 aq_ vn vm vl vk vg vj arg) (aCM c2 uu tY tX tW tV tU tT vi vh wc v8 v7 aq_ vn vm vl vk vg vj arg Z)
def Pa:Rw S:=aj cZ hK fun c2 zx uu tY tX tW tV tU tT vi vh wc v8 v7 aq_ vn vm vl vk vg vj arg Z=>aa k (h9 k c2 zx uu tY tX tW tV tU tT vi vh wc v8 v7 aq_ vn vm vl vk vg vj arg) (aHu Z)
def VB:Fx S:=fx 9 (fun _=>[]) (fun _=>false) [(164,vK k)] [] k f166 true [] 4
theorem aFn (ho:ai o):Tl o 166 (aHG k:Rw S):=ou (VB k) ⟨zM k ho,trivial⟩ func166 fun c2 zx uu tY tX tW tV tU tT vi vh wc v8 v7 aq_ vn vm vl vk vg vj arg Z x h=>px h
theorem abm (ho:ai o):Tl o 166 (Pa k:Rw S):=j3 (n:=3) (m:=1) (aFn k ho) fun c2 zx uu tY tX tW tV tU tT vi vh wc v8 v7 aq_ vn vm vl vk vg vj arg Z x h=>o0 (b:=aa k (h9 k c2 zx uu tY tX tW tV tU tT vi vh wc v8 v7 aq_ vn vm vl vk vg vj arg) (aCM c2 uu tY tX tW tV tU tT vi vh wc v8 v7 aq_ vn vm vl vk vg vj arg (SJ 3 1 [.cells [(.func 164 [] [(pt 1),(pt 2)])],.cells [(pt 3)],bT c2,.cells [(iI zx),(sC uu),(iI tY),(iI tX),(.str tW),(sC tV),(sT tU),(sB tT),(sB vi),(iI vh),(iI wc),(.str v8),(sC v7),(sT aq_),(sB vn),(iI vm),(iI vl),(.str vk),(sC vg),(sT vj),(sB arg)]] Z))) (by kernel_rfl) (o0 (congrArg (aa k (h9 k c2 zx uu tY tX tW tV tU tT vi vh wc v8 v7 aq_ vn vm vl vk vg vj arg)) (funext fun r=>if_pos ⟨rfl,rfl⟩)) h)
def Pb:Rw S:=aj aGn aJo fun nV nN oI oE oV oT oU nU q uN uW uV uU uT uO tR tQ tP tM th tg c3 Z=>aa k (ec k nV nN oI oE oV oT oU nU q uN uW uV uU uT uO tR tQ tP tM th tg c3) (aHv nN oI oE oV oT oU nU q uN uW uV uU uT uO tR tQ tP tM th tg c3 Z)
def CI:Fx S:=fx 20 (fun _=>[]) (fun _=>false) [(42,OV k),(166,Pa k)] [] k f101 true [false,true] 4
theorem abn (ho:ai o):Tl o 101 (Pb k:Rw S):=ou (CI k) ⟨H7 k ho,abm k ho,trivial⟩ func101 fun nV nN oI oE oV oT oU nU q uN uW uV uU uT uO tR tQ tP tM th tg c3 Z x h=>px h
def Pc:Rw S:=aj azp hK fun b c2 zx uu tY tX tW tV tU tT vi vh wc v8 v7 aq_ vn vm vl vk vg vj arg Z=>aa k (ay8 k b c2 zx uu tY tX tW tV tU tT vi vh wc v8 v7 aq_ vn vm vl vk vg vj arg) (aHw c2 uu tY tX tW tV tU tT vi vh wc v8 v7 aq_ vn vm vl vk vg vj arg Z)
def VC:Fx S:=fp 25 [(42,OV k),(66,Oy k),(164,vK k)] [] k f167 4
theorem abo (ho:ai o):Tl o 167 (Pc k:Rw S):=ou (VC k) ⟨H7 k ho,M6 k ho,zM k ho,trivial⟩ func167 fun b c2 zx uu tY tX tW tV tU tT vi vh wc v8 v7 aq_ vn vm vl vk vg vj arg Z x h=>px h
def Pd:Rw S:=aj aGo hK fun l c2 zx uu tY tX tW tV tU tT vi vh wc v8 v7 aq_ vn vm vl vk vg vj arg Z=>aa k (r3 k l c2 zx uu tY tX tW tV tU tT vi vh wc v8 v7 aq_ vn vm vl vk vg vj arg) (eu c2 uu tY tX tW tV tU tT vi vh wc v8 v7 aq_ vn vm vl vk vg vj arg Z)
def CJ:Fx S:=fx 22 (fun _=>[]) (fun _=>false) [(167,Pc k)] [(3,⟨[(1,nM),(5,ql 100005),(8,nM),(9,nM),(10,nM)],[(1000000,[nM]),(1000001,[nM]),(1000002,[nM,nM,nM,nM,nM,nM]),(1000003,[nM,nM,nM,nM,nM,nM,nM,nM,nM,nM,nM,nM,nM,nM,nM,nM,nM,nM,nM,nM,nM])]⟩,ap 5 11)] k f112 false [true] 4
def MJ (c2:Tm) (uu:List Cl) (wc:Int) (v8:ByteArray) (v7:List Cl) (aq_:List Tm) (vn:List (Br Tm)) (vm vl:Int) (vk:ByteArray) (vg:List Cl) (vj:List Tm) (tY:Int) (arg:List (Br Tm)) (tX:Int) (tW:ByteArray) (tV:List Cl) (tU:List Tm) (tT vi:List (Br Tm)) (vh:Int) (l:List (Br Tm)) (x qk:Int) (q:List (Br Tm)):St UU:=⟨[(1,(.func 167 [] [(pt 1000000),(pt 1000001)])),(5,(.own 100005 0)),(8,(sB l)),(9,(iI l.length)),(10,(iI qk))],[(1000000,.cells [(.func 164 [] [(pt 1000001),(pt 1000002)])]),(1000001,.cells [(pt 1000003)]),(1000002,bT c2),(1000003,.cells [(iI x),(sC uu),(iI tY),(iI tX),(.str tW),(sC tV),(sT tU),(sB tT),(sB vi),(iI vh),(iI wc),(.str v8),(sC v7),(sT aq_),(sB vn),(iI vm),(iI vl),(.str vk),(sC vg),(sT vj),(sB arg)])],[(100005,⟨0,ET.B,q⟩)],[(100005,.wr)]⟩
section
variable (k:Nat) (l:List (Br Tm)) (c2:Tm) (zx:Int) (uu:List Cl) (tY tX:Int) (tW:ByteArray) (tV:List Cl) (tU:List Tm) (tT vi:List (Br Tm)) (vh wc:Int) (v8:ByteArray) (v7:List Cl) (aq_:List Tm) (vn:List (Br Tm)) (vm vl:Int) (vk:ByteArray) (vg:List Cl) (vj:List Tm) (arg:List (Br Tm)) (Z:Out UU->Option S)
theorem Yg: ∀n x qk q,(CJ k).lp Z 3 [] n (MJ c2 uu wc v8 v7 aq_ vn vm vl vk vg vj tY arg tX tW tV tU tT vi vh l x qk q)=Sx k (eu c2 uu tY tX tW tV tU tT vi vh wc v8 v7 aq_ vn vm vl vk vg vj arg Z) c2 uu wc v8 v7 aq_ vn vm vl vk vg vj tY arg tX tW tV tU tT vi vh l n x qk q:=EG (tf k (eu c2 uu tY tX tW tV tU tT vi vh wc v8 v7 aq_ vn vm vl vk vg vj arg Z) c2 uu wc v8 v7 aq_ vn vm vl vk vg vj tY arg tX tW tV tU tT vi vh l)
end
theorem abp (ho:ai o):Tl o 112 (Pd k:Rw S):=ou (CJ k) ⟨abo k ho,trivial⟩ func112 fun l c2 zx uu tY tX tW tV tU tT vi vh wc v8 v7 aq_ vn vm vl vk vg vj arg Z x h=>o0 (b:=aAd k (eu c2 uu tY tX tW tV tU tT vi vh wc v8 v7 aq_ vn vm vl vk vg vj arg Z) (fun z qk q=>(CJ k).lp Z 3 [] k (MJ c2 uu wc v8 v7 aq_ vn vm vl vk vg vj tY arg tX tW tV tU tT vi vh l z qk q)) l c2 zx uu tY tX tW tV tU tT vi vh wc v8 v7 aq_ vn vm vl vk vg vj arg) (by kernel_rfl) (o0 (by simp only [Yg];rfl) (al h))
def Gy:Rw S:=aj je aJp fun t xw nV nN oI oE oV oT oU nU q uN uW uV uU uT uO tR tQ tP tM th tg Z=>aa k (J2 k t xw nV nN oI oE oV oT oU nU q uN uW uV uU uT uO tR tQ tP tM th tg) (aHx nN oI oE oV oT oU nU q uN uW uV uU uT uO tR tQ tP tM th tg Z)
def VE:Fx S:=fx 54 (fun _=>[]) (fun _=>false) [(41,Ot k),(96,Gr k),(101,Pb k),(103,iK k),(112,Pd k),(165,vJ k)] [] k f100 true [] 1
theorem Kf (ho:ai o):Tl o 100 (Gy k:Rw S):=ou (VE k) ⟨Dj k ho,J_ k ho,abn k ho,eg k ho,abp k ho,zL k ho,trivial⟩ func100 fun t xw nV nN oI oE oV oT oU nU q uN uW uV uU uT uO tR tQ tP tM th tg Z x h=>px h
def Gz:Rw S:=aj aBm qo fun b uA qM qK qJ qI qH qG qR sK rm rL rK rE rq rO sJ sI sH rP sM sL Z=>aa k (ay5 k b uA qM qK qJ qI qH qG qR sK rm rL rK rE rq rO sJ sI sH rP sM sL) (aHy qM qK qJ qI qH qG qR sK rm rL rK rE rq rO sJ sI sH rP sM sL Z)
def rZ:Fx S:=fx 14 (fun _=>[]) (fun _=>false) [(100,Gy k)] [] k f99 true [] 2
theorem Kg (ho:ai o):Tl o 99 (Gz k:Rw S):=ou (rZ k) ⟨Kf k ho,trivial⟩ func99 fun b uA qM qK qJ qI qH qG qR sK rm rL rK rE rq rO sJ sI sH rP sM sL Z x h=>px h
def GA:Rw S:=aj aGp qo fun l uA qM qK qJ qI qH qG qR sK rm rL rK rE rq rO sJ sI sH rP sM sL Z=>aa k (k6 k l uA qM qK qJ qI qH qG qR sK rm rL rK rE rq rO sJ sI sH rP sM sL) (ys qM qK qJ qI qH qG qR sK rm rL rK rE rq rO sJ sI sH rP sM sL Z)
def CL:Fx S:=fx 22 (fun _=>[]) (fun _=>false) [(99,Gz k)] [(3,⟨[(1,nM),(5,ql 100005),(8,nM),(9,nM),(10,nM)],[(1000000,[nM]),(1000001,[nM,nM,nM,nM,nM,nM,nM,nM,nM,nM,nM,nM,nM,nM,nM,nM,nM,nM,nM,nM,nM])]⟩,ap 5 11)] k f98 false [true] 2
def ML (qM:List Cl) (rL:Int) (rK:ByteArray) (rE:List Cl) (rq:List Tm) (rO:List (Br Tm)) (sJ sI:Int) (sH:ByteArray) (rP:List Cl) (sM:List Tm) (qK:Int) (sL:List (Br Tm)) (qJ:Int) (qI:ByteArray) (qH:List Cl) (qG:List Tm) (qR sK:List (Br Tm)) (rm:Int) (l:List (Br Tm)) (arm qk:Int) (q:List Tm):St UU:=⟨[(1,(.func 99 [] [(pt 1000000)])),(5,(.own 100005 0)),(8,(sB l)),(9,(iI l.length)),(10,(iI qk))],[(1000000,.cells [(pt 1000001)]),(1000001,.cells [(iI arm),(sC qM),(iI qK),(iI qJ),(.str qI),(sC qH),(sT qG),(sB qR),(sB sK),(iI rm),(iI rL),(.str rK),(sC rE),(sT rq),(sB rO),(iI sJ),(iI sI),(.str sH),(sC rP),(sT sM),(sB sL)])],[(100005,⟨0,ET.T,q⟩)],[(100005,.wr)]⟩
section
variable (k:Nat) (l:List (Br Tm)) (uA:Int) (qM:List Cl) (qK qJ:Int) (qI:ByteArray) (qH:List Cl) (qG:List Tm) (qR sK:List (Br Tm)) (rm rL:Int) (rK:ByteArray) (rE:List Cl) (rq:List Tm) (rO:List (Br Tm)) (sJ sI:Int) (sH:ByteArray) (rP:List Cl) (sM:List Tm) (sL:List (Br Tm)) (Z:Out UU->Option S)
theorem Yj: ∀n arm qk q,(CL k).lp Z 3 [] n (ML qM rL rK rE rq rO sJ sI sH rP sM qK sL qJ qI qH qG qR sK rm l arm qk q)=e7 k (ys qM qK qJ qI qH qG qR sK rm rL rK rE rq rO sJ sI sH rP sM sL Z) qM rL rK rE rq rO sJ sI sH rP sM qK sL qJ qI qH qG qR sK rm l n arm qk q:=EG (hQ k (ys qM qK qJ qI qH qG qR sK rm rL rK rE rq rO sJ sI sH rP sM sL Z) qM rL rK rE rq rO sJ sI sH rP sM qK sL qJ qI qH qG qR sK rm l)
end
theorem Kh (ho:ai o):Tl o 98 (GA k:Rw S):=ou (CL k) ⟨Kg k ho,trivial⟩ func98 fun l uA qM qK qJ qI qH qG qR sK rm rL rK rE rq rO sJ sI sH rP sM sL Z x h=>o0 (b:=aAc k (ys qM qK qJ qI qH qG qR sK rm rL rK rE rq rO sJ sI sH rP sM sL Z) (fun arm qk q=>(CL k).lp Z 3 [] k (ML qM rL rK rE rq rO sJ sI sH rP sM qK sL qJ qI qH qG qR sK rm l arm qk q)) l uA qM qK qJ qI qH qG qR sK rm rL rK rE rq rO sJ sI sH rP sM sL) (by kernel_rfl) (o0 (by simp only [Yj];rfl) (al h))
def aHH:Rw S:=aj EX qo fun uA qM qK qJ qI qH qG qR sK rm rL rK rE rq rO sJ sI sH rP sM sL Z=>aa k (xr k uA qM qK qJ qI qH qG qR sK rm rL rK rE rq rO sJ sI sH rP sM sL) (aCN qM qK qJ qI qH qG qR sK rm rL rK rE rq rO sJ sI sH rP sM sL Z)
def Ph:Rw S:=aj EX qo fun uA qM qK qJ qI qH qG qR sK rm rL rK rE rq rO sJ sI sH rP sM sL Z=>aa k (xr k uA qM qK qJ qI qH qG qR sK rm rL rK rE rq rO sJ sI sH rP sM sL) (aHz Z)
def VG:Fx S:=fp 10 [(40,A3 k)] [] k f102 2
theorem aFo (ho:ai o):Tl o 102 (aHH k:Rw S):=ou (VG k) ⟨D_ k ho,trivial⟩ func102 fun uA qM qK qJ qI qH qG qR sK rm rL rK rE rq rO sJ sI sH rP sM sL Z x h=>px h
theorem abt (ho:ai o):Tl o 102 (Ph k:Rw S):=j3 (n:=1) (m:=1) (aFo k ho) fun uA qM qK qJ qI qH qG qR sK rm rL rK rE rq rO sJ sI sH rP sM sL Z x h=>o0 (b:=aa k (xr k uA qM qK qJ qI qH qG qR sK rm rL rK rE rq rO sJ sI sH rP sM sL) (aCN qM qK qJ qI qH qG qR sK rm rL rK rE rq rO sJ sI sH rP sM sL (SJ 1 1 [.cells [(pt 1)],.cells [(iI uA),(sC qM),(iI qK),(iI qJ),(.str qI),(sC qH),(sT qG),(sB qR),(sB sK),(iI rm),(iI rL),(.str rK),(sC rE),(sT rq),(sB rO),(iI sJ),(iI sI),(.str sH),(sC rP),(sT sM),(sB sL)]] Z))) (by kernel_rfl) (o0 (congrArg (aa k (xr k uA qM qK qJ qI qH qG qR sK rm rL rK rE rq rO sJ sI sH rP sM sL)) (funext fun r=>if_pos ⟨rfl,rfl⟩)) h)
def Pi:Rw S:=aj aGq aJq fun nV nN oI oE oV oT oU nU q uN uW uV uU uT uO tR tQ tP tM th tg Z=>aa k (ka k nV nN oI oE oV oT oU nU q uN uW uV uU uT uO tR tQ tP tM th tg) (aHA nN oI oE oV oT oU nU q uN uW uV uU uT uO tR tQ tP tM th tg Z)
def r_:Fx S:=fx 20 (fun _=>[]) (fun _=>false) [(42,OV k),(102,Ph k)] [] k f101 true [false,true] 2
theorem abu (ho:ai o):Tl o 101 (Pi k:Rw S):=ou (r_ k) ⟨H7 k ho,abt k ho,trivial⟩ func101 fun nV nN oI oE oV oT oU nU q uN uW uV uU uT uO tR tQ tP tM th tg Z x h=>px h
def Pj:Rw S:=aj Ez xn fun t Z=>aa k (q' k t) (AX Z)
def VH:Fx S:=fp 165 [(14,PK k),(34,PL (dJ k)),(35,Gg k),(40,A3 k),(41,Ot k),(42,OV k),(65,Oq k),(66,Oy k),(96,Gr k),(97,Gw k),(98,GA k),(101,Pi k),(103,iK k)] [(16,⟨[(2,nM),(6,nM),(8,ql 100008),(9,some (100009,false)),(10,ql 100010),(77,nM),(78,nM),(79,nM)],[(2,[nM,nM,nM,ql 200131,ql 200132,ql 200133]),(6,[nM]),(43,[nM,nM,nM,nM,nM,nM,nM,nM,nM,nM,nM,nM,nM,nM,nM,nM,nM,nM,nM,nM,nM])]⟩,ap 14 6143)] k f48 0
def aBQ (r3:Tm) (r6:Int×List (Br Tm)×Int×Int×ByteArray×List Cl×List Tm×List (Br Tm)) (x4:Tm) (r8:Tm×Int) (z A E:Int) (F:ByteArray) (I:List Cl) (J:List Tm) (L q:List (Br Tm)) (H0:Int) (M:List Tm) (x:List (Br Tm)):St UU:=⟨[(2,(pt 2)),(6,(pt 6)),(8,(.own 100008 0)),(9,(.own 100009 0)),(10,(.own 100010 0)),(77,(sB r8.1.s)),(78,(iI r8.1.s.length)),(79,(iI H0))],[(2,.cells [(iI 0),(iI 0),zw,(.own 200131 0),(.own 200132 0),(.own 200133 0)]),(6,.cells [(pt 43)]),(43,.cells [(iI z),(sC r3.r),(iI x4.k),(iI x4.n),(.str x4.name),(sC x4.r),(sT x4.c),(sB x4.s),(sB r6.2.1),(iI r6.2.2.1),(iI r6.2.2.2.1),(.str r6.2.2.2.2.1),(sC r6.2.2.2.2.2.1),(sT r6.2.2.2.2.2.2.1),(sB r6.2.2.2.2.2.2.2),(iI A),(iI E),(.str F),(sC I),(sT J),(sB L)])],[(200133,xP),(200132,zn),(200131,xW),(100010,⟨0,ET.B,q⟩),(100009,⟨0,ET.B,x⟩),(100008,⟨0,ET.T,M⟩)],[(200133,.wr),(200132,.wr),(200131,.wr),(100010,.wr),(100009,.app),(100008,.wr)]⟩
section
variable (k:Nat) (t:Tm) (Z:Out UU->Option S)
theorem aDT (r3 r6 x4 r8): ∀n z A B E F I J q H0 L x,(VH k).lp Z 16 [] n (aBQ r3 r6 x4 r8 z A B E F I J q H0 L x)=RB k (AX Z) r3 r6 x4 r8 n z A B E F I J q H0 L x:=aG2 (r5 k (AX Z) r3 r6 x4 r8)
end
theorem abv (ho:ai o):Tl o 48 (Pj k:Rw S):=ou (VH k) ⟨FK k ho,IK o ho k,SG k ho,D_ k ho,Dj k ho,H7 k ho,w4 k ho,M6 k ho,J_ k ho,Kd k ho,Kh k ho,abu k ho,eg k ho,trivial⟩ func48 fun t Z x h=>o0 (b:=az9 k (AX Z) (fun O T x4 W A B E F I J L q H0 M z=>(VH k).lp Z 16 [] k (aBQ O T x4 W A B E F I J L q H0 M z)) t) (by kernel_rfl) (o0 (by simp only [aDT];rfl) (al h))
def Pk:Rw S:=aj Ez xn fun t Z=>aa k (hF k t) (AX Z)
def CM:Fx S:=fp 100 [(14,PK k),(34,PL (dJ k)),(35,Gg k),(44,O2 k),(45,amL k),(46,anB k),(47,vG k),(48,Pj k)] [] k f22 0
theorem abw (ho:ai o):Tl o 22 (Pk k:Rw S):=ou (CM k) ⟨FK k ho,IK o ho k,SG k ho,abd k ho,amQ k ho,um k ho,zI k ho,abv k ho,trivial⟩ func22 fun t Z x h=>px h
def Pl:Rw S:=aj azq aAx fun u uA qM qK qJ qI qH qG qR Z=>aa k (h0 k u uA qM qK qJ qI qH qG qR) (aCO qM qK qJ qI qH qG qR Z)
def VI:Fx S:=fp 13 [(40,A3 k),(41,Ot k),(63,OX k)] [] k f105 2
theorem abx (ho:ai o):Tl o 105 (Pl k:Rw S):=ou (VI k) ⟨D_ k ho,Dj k ho,r8 k ho,trivial⟩ func105 fun u uA qM qK qJ qI qH qG qR Z x h=>px h
def aHI:Rw S:=aj aBo tc fun nV nN oI oE oV oT oU nU Z=>aa k (ts k nV nN oI oE oV oT oU nU) (MT nN oI oE oV oT oU nU Z)
def Pm:Rw S:=aj aBo tc fun nV nN oI oE oV oT oU nU Z=>aa k (ts k nV nN oI oE oV oT oU nU) (aCP Z)
def aQs:Fx S:=fp 31 [(42,OV k),(105,Pl k)] [(3,⟨[(1,nM),(5,ql 100005),(11,nM),(12,nM),(13,nM)],[(1000000,[nM,nM,nM,nM,nM,nM,nM,nM]),(1000001,[nM])]⟩,ap 5 11)] k f104 2
def vd (nN oI:Int) (oE:ByteArray) (oV:List Cl) (oT:List Tm) (oU nU:List (Br Tm)) (x z:Int) (q:List (Br Tm)):St UU:=⟨[(1,(.func 105 [] [(pt 1000001)])),(5,(.own 100005 0)),(11,(sB nU)),(12,(iI nU.length)),(13,(iI z))],[(1000000,.cells [(iI x),(iI nN),(iI oI),(.str oE),(sC oV),(sT oT),(sB oU),(sB nU)]),(1000001,.cells [(pt 1000000)])],[(100005,⟨0,ET.B,q⟩)],[(100005,.wr)]⟩
section
variable (k:Nat) (nV nN oI:Int) (oE:ByteArray) (oV:List Cl) (oT:List Tm) (oU nU:List (Br Tm)) (Z:Out UU->Option S)
theorem Yn: ∀n x z q,(aQs k).lp Z 3 [] n (vd nN oI oE oV oT oU nU x z q)=mv k (MT nN oI oE oV oT oU nU Z) nN oI oE oV oT oU nU n x z q:=EG (b4 k (MT nN oI oE oV oT oU nU Z) nN oI oE oV oT oU nU)
end
theorem aFp (ho:ai o):Tl o 104 (aHI k:Rw S):=ou (aQs k) ⟨H7 k ho,abx k ho,trivial⟩ func104 fun nV nN oI oE oV oT oU nU Z x h=>o0 (b:=aAf k (MT nN oI oE oV oT oU nU Z) (fun z A q=>(aQs k).lp Z 3 [] k (vd nN oI oE oV oT oU nU z A q)) nV nN oI oE oV oT oU nU) (by kernel_rfl) (o0 (by simp only [Yn];rfl) (al h))
theorem aby (ho:ai o):Tl o 104 (Pm k:Rw S):=j3 (n:=0) (m:=1) (aFp k ho) fun nV nN oI oE oV oT oU nU Z x h=>o0 (b:=aa k (ts k nV nN oI oE oV oT oU nU) (MT nN oI oE oV oT oU nU (SJ 0 1 [.cells [(iI nV),(iI nN),(iI oI),(.str oE),(sC oV),(sT oT),(sB oU),(sB nU)],.cells [(pt 0)]] Z))) (by kernel_rfl) (o0 (congrArg (aa k (ts k nV nN oI oE oV oT oU nU)) (funext fun r=>if_pos ⟨rfl,rfl⟩)) h)
def Pn:Rw S:=aj Ls n' fun t nV nN oI oE oV oT oU nU Z=>aa k (fc k t nV nN oI oE oV oT oU nU) (jg nN oI oE oV oT oU nU Z)
def VJ:Fx S:=fx 31 (fun _=>[]) (fun _=>false) [(40,A3 k),(41,Ot k),(63,OX k),(96,Gr k),(104,Pm k)] [] k f49 true [] 1
theorem abz (ho:ai o):Tl o 49 (Pn k:Rw S):=ou (VJ k) ⟨D_ k ho,Dj k ho,r8 k ho,J_ k ho,aby k ho,trivial⟩ func49 fun t nV nN oI oE oV oT oU nU Z x h=>px h
def Po:Rw S:=aj azq fh fun u c0 Z=>aa k (aza k u c0) (aHB c0 Z)
def CN:Fx S:=fp 9 [(41,Ot k)] [] k f107 1
theorem abA (ho:ai o):Tl o 107 (Po k:Rw S):=ou (CN k) ⟨Dj k ho,trivial⟩ func107 fun u c0 Z x h=>px h
def aHJ:Rw S:=aj aBp aDw fun nV nN oI oE oV oT oU nU c1 Z=>aa k (z' k nV nN oI oE oV oT oU nU c1) (iB nV nN oI oE oV oT oU nU c1 Z)
def Pq:Rw S:=aj aBp aDw fun nV nN oI oE oV oT oU nU c1 Z=>aa k (z' k nV nN oI oE oV oT oU nU c1) (aCJ Z)
def CO:Fx S:=fp 31 [(42,OV k),(107,Po k)] [(3,⟨[(1,nM),(5,ql 100005),(11,nM),(12,nM),(13,nM)],[(1000000,[nM,nM,nM,nM,nM,nM,nM,nM]),(1000001,[nM])]⟩,ap 5 11)] k f104 2
def MS (nV nN oI:Int) (oE:ByteArray) (oV:List Cl) (oT:List Tm) (oU nU:List (Br Tm)) (c1:Int) (x:Int) (q:List (Br Tm)):St UU:=⟨[(1,(.func 107 [] [(pt 1000001)])),(5,(.own 100005 0)),(11,(sB nU)),(12,(iI nU.length)),(13,(iI x))],[(1000000,.cells [(iI nV),(iI nN),(iI oI),(.str oE),(sC oV),(sT oT),(sB oU),(sB nU)]),(1000001,bI c1)],[(100005,⟨0,ET.B,q⟩)],[(100005,.wr)]⟩
section
variable (k:Nat) (nV nN oI:Int) (oE:ByteArray) (oV:List Cl) (oT:List Tm) (oU nU:List (Br Tm)) (c1:Int) (Z:Out UU->Option S)
theorem Yr: ∀n x q,(CO k).lp Z 3 [] n (MS nV nN oI oE oV oT oU nU c1 x q)=mf k (iB nV nN oI oE oV oT oU nU c1 Z) nV nN oI oE oV oT oU nU c1 n x q:=aL (d' k (iB nV nN oI oE oV oT oU nU c1 Z) nV nN oI oE oV oT oU nU c1)
end
theorem aFq (ho:ai o):Tl o 104 (aHJ k:Rw S):=ou (CO k) ⟨H7 k ho,abA k ho,trivial⟩ func104 fun nV nN oI oE oV oT oU nU c1 Z x h=>o0 (b:=aAh k (iB nV nN oI oE oV oT oU nU c1 Z) (fun z q=>(CO k).lp Z 3 [] k (MS nV nN oI oE oV oT oU nU c1 z q)) nV nN oI oE oV oT oU nU c1) (by kernel_rfl) (o0 (by simp only [Yr];rfl) (al h))
theorem abC (ho:ai o):Tl o 104 (Pq k:Rw S):=tlS (aFq k ho) fun nV nN oI oE oV oT oU nU c1 Z x h=>o0 (b:=aa k (z' k nV nN oI oE oV oT oU nU c1) (iB nV nN oI oE oV oT oU nU c1 (DB _ Z))) (by kernel_rfl) (o0 (congrArg (aa k (z' k nV nN oI oE oV oT oU nU c1)) (funext fun r=>if_pos rfl)) h)
def aCR:Rw S:=aj Ln aAx fun kind uA qM qK qJ qI qH qG qR Z=>aa k (hU k kind uA qM qK qJ qI qH qG qR) (aHC uA qM qK qJ qI qH qG qR Z)
def mQ:Fx S:=fx 15 (fun _=>[]) (fun _=>false) [(41,Ot k),(104,Pq k)] [] k f106 true [] 2
theorem aFr (ho:ai o):Tl o 106 (aCR k:Rw S):=ou (mQ k) ⟨Dj k ho,abC k ho,trivial⟩ func106 fun kind uA qM qK qJ qI qH qG qR Z x h=>px h
def GC:Rw S:=aj Ls n' fun t nV nN oI oE oV oT oU nU Z=>aa k (e1 k t nV nN oI oE oV oT oU nU) (jg nN oI oE oV oT oU nU Z)
def VL:Fx S:=fx 63 (fun _=>[]) (fun _=>false) [(36,OP k),(37,OT k),(38,P1 k),(41,Ot k),(43,A4 k),(96,Gr k),(106,aCR k)] [] k f50 true [] 1
theorem Ki (ho:ai o):Tl o 50 (GC k:Rw S):=ou (VL k) ⟨aa1 k ho,aa5 k ho,s6 k ho,Dj k ho,hg k ho,J_ k ho,aFr k ho,trivial⟩ func50 fun t nV nN oI oE oV oT oU nU Z x h=>px h
def GD:Rw S:=aj Ls n' fun t nV nN oI oE oV oT oU nU Z=>aa k (r' k t nV nN oI oE oV oT oU nU) (jg nN oI oE oV oT oU nU Z)
def VM:Fx S:=fx 128 (fun _=>[]) (fun _=>false) [(40,A3 k),(41,Ot k),(42,OV k),(66,Oy k),(94,q1 k),(95,O4 k),(96,Gr k)] [(7,⟨[(0,nM),(3,nM),(4,nM),(5,nM),(6,nM),(9,nM),(10,ql 100010),(51,nM),(52,nM),(53,nM)],[(3,[nM,nM,nM,nM,nM,nM]),(4,[nM,nM,nM,ql 200259,ql 200260,ql 200261]),(5,[nM,nM,nM,nM,nM,nM]),(6,[nM,nM,nM,nM,nM,nM]),(9,[nM,nM,nM,nM,nM,ql 200581]),(1000000,[nM,nM,nM,nM,nM,nM,nM,nM])]⟩,ap 9 191)] k f51 true [] 1
def aBR (nN oI:Int) (oE:ByteArray) (oV:List Cl) (oT:List Tm) (oU nU:List (Br Tm)) (t x1 x2:Tm) (r6:Int×Int×ByteArray×List Cl×List Tm) (x:Int) (q:List (Br Tm)) (v53:Int):St UU:=⟨[(0,(pt 1000000)),(3,(pt 3)),(4,(pt 4)),(5,(pt 5)),(6,(pt 6)),(9,(pt 9)),(10,(.own 100010 0)),(51,(sB nU)),(52,(iI nU.length)),(53,(iI v53))],[(3,bT t),(4,.cells [(iI 0),(iI 0),zw,(.own 200259 0),(.own 200260 0),(.own 200261 0)]),(5,bT x1),(6,bT x2),(9,.cells [(iI r6.1),(iI r6.2.1),(.str r6.2.2.1),(sC r6.2.2.2.1),(sT r6.2.2.2.2),(.own 200581 0)]),(1000000,.cells [(iI x),(iI nN),(iI oI),(.str oE),(sC oV),(sT oT),(sB oU),(sB nU)])],[(200581,xP),(200261,xP),(200260,zn),(200259,xW),(100010,⟨0,ET.B,q⟩)],[(200581,.wr),(200261,.wr),(200260,.wr),(200259,.wr),(100010,.wr)]⟩
section
variable (k:Nat) (t:Tm) (nV nN oI:Int) (oE:ByteArray) (oV:List Cl) (oT:List Tm) (oU nU:List (Br Tm)) (Z:Out UU->Option S)
theorem aDU (x1 x2 r6): ∀n x q v53,(VM k).lp Z 7 [] n (aBR nN oI oE oV oT oU nU t x1 x2 r6 x q v53)=jc k (jg nN oI oE oV oT oU nU Z) nN oI oE oV oT oU nU t x1 x2 r6 n x q v53:=EG (s8 k (jg nN oI oE oV oT oU nU Z) nN oI oE oV oT oU nU t x1 x2 r6)
end
theorem Kj (ho:ai o):Tl o 51 (GD k:Rw S):=ou (VM k) ⟨D_ k ho,Dj k ho,H7 k ho,M6 k ho,pK k ho,abf k ho,J_ k ho,trivial⟩ func51 fun t nV nN oI oE oV oT oU nU Z x h=>o0 (b:=aAe k (jg nN oI oE oV oT oU nU Z) (fun x1 x2 A z q v53=>(VM k).lp Z 7 [] k (aBR nN oI oE oV oT oU nU t x1 x2 A z q v53)) t nV nN oI oE oV oT oU nU) (by kernel_rfl) (o0 (by simp only [aDU];rfl) (al h))
def GE:Rw S:=aj Ls fh fun t c0 Z=>aa k (ia k t c0) (aCL Z)
def VN:Fx S:=fx 20 (fun _=>[]) (fun _=>false) [(140,OE k),(141,Gi k),(170,Gx k)] [] k f206 true [] 1
theorem Kk (ho:ai o):Tl o 206 (GE k:Rw S):=ou (VN k) ⟨NC k ho,JW k ho,Ke k ho,trivial⟩ func206 fun t c0 Z x h=>px h
def Pr:Rw S:=aj azr xn fun t a Z=>aa k (hD k t a) (BC Z)
def CQ:Fx S:=fp 47 [(34,PL (dJ k)),(138,OH k),(140,OE k),(141,Gi k),(145,OJ k),(170,Gx k),(206,GE k),(207,A9 k)] [] k f168 0
theorem abD (ho:ai o):Tl o 168 (Pr k:Rw S):=ou (CQ k) ⟨IK o ho k,fL k ho,NC k ho,JW k ho,zq k ho,Ke k ho,Kk k ho,Ed k ho,trivial⟩ func168 fun t a Z x h=>px h
def A_:Rw S:=aj je fh fun t a c0 Z=>aa k (h4 k t a c0) (AQ Z)
def VO:Fx S:=fp 18 [(81,P0 k),(82,IJ k),(168,Pr k)] [] k f109 1
theorem Ee (ho:ai o):Tl o 109 (A_ k:Rw S):=ou (VO k) ⟨Lx k ho,K0 k ho,abD k ho,trivial⟩ func109 fun t a c0 Z x h=>px h
def Ps:Rw S:=aj eo xn fun qT Z=>aa k (ay2 k qT) (aHD Z)
def VQ:Fx S:=fx 13 (fun _=>[]) (fun _=>false) [(140,OE k),(170,Gx k)] [] k f169 true [] 0
theorem abE (ho:ai o):Tl o 169 (Ps k:Rw S):=ou (VQ k) ⟨NC k ho,Ke k ho,trivial⟩ func169 fun qT Z x h=>px h
def aSu:Rw S:=aj cn xn fun Z=>aa k (bh k) (aE Z)
def VR:Fx S:=fx 37 (fun _=>[]) (fun _=>false) [(140,OE k),(169,Ps k),(170,Gx k)] [] k f110 true [] 0
theorem abF (ho:ai o):Tl o 110 (aSu k:Rw S):=ou (VR k) ⟨NC k ho,abE k ho,Ke k ho,trivial⟩ func110 fun Z x h=>px h
def GF:Rw S:=aj azq aAx fun u uA qM qK qJ qI qH qG qR Z=>aa k (azb k u uA qM qK qJ qI qH qG qR) (aCO qM qK qJ qI qH qG qR Z)
def jP:Fx S:=fp 30 [(40,A3 k),(41,Ot k),(65,Oq k),(109,A_ k),(110,aSu k)] [] k f108 2
theorem aFs (ho:ai o):Tl o 108 (GF k:Rw S):=ou (jP k) ⟨D_ k ho,Dj k ho,w4 k ho,Ee k ho,abF k ho,trivial⟩ func108 fun u uA qM qK qJ qI qH qG qR Z x h=>px h
def aHK:Rw S:=aj aBq tc fun nV nN oI oE oV oT oU nU Z=>aa k (k' k nV nN oI oE oV oT oU nU) (MT nN oI oE oV oT oU nU Z)
def Pv:Rw S:=aj aBq tc fun nV nN oI oE oV oT oU nU Z=>aa k (k' k nV nN oI oE oV oT oU nU) (aCP Z)
def CR:Fx S:=fp 31 [(42,OV k),(108,GF k)] [(3,⟨[(1,nM),(5,ql 100005),(11,nM),(12,nM),(13,nM)],[(1000000,[nM,nM,nM,nM,nM,nM,nM,nM]),(1000001,[nM])]⟩,ap 5 11)] k f104 2
def MX (nN oI:Int) (oE:ByteArray) (oV:List Cl) (oT:List Tm) (oU nU:List (Br Tm)) (x z:Int) (q:List (Br Tm)):St UU:=⟨[(1,(.func 108 [] [(pt 1000001)])),(5,(.own 100005 0)),(11,(sB nU)),(12,(iI nU.length)),(13,(iI z))],[(1000000,.cells [(iI x),(iI nN),(iI oI),(.str oE),(sC oV),(sT oT),(sB oU),(sB nU)]),(1000001,.cells [(pt 1000000)])],[(100005,⟨0,ET.B,q⟩)],[(100005,.wr)]⟩
section
variable (k:Nat) (nV nN oI:Int) (oE:ByteArray) (oV:List Cl) (oT:List Tm) (oU nU:List (Br Tm)) (Z:Out UU->Option S)
theorem YA: ∀n x z q,(CR k).lp Z 3 [] n (MX nN oI oE oV oT oU nU x z q)=vx k (MT nN oI oE oV oT oU nU Z) nN oI oE oV oT oU nU n x z q:=EG (b' k (MT nN oI oE oV oT oU nU Z) nN oI oE oV oT oU nU)
end
theorem aFt (ho:ai o):Tl o 104 (aHK k:Rw S):=ou (CR k) ⟨H7 k ho,aFs k ho,trivial⟩ func104 fun nV nN oI oE oV oT oU nU Z x h=>o0 (b:=aAg k (MT nN oI oE oV oT oU nU Z) (fun z A q=>(CR k).lp Z 3 [] k (MX nN oI oE oV oT oU nU z A q)) nV nN oI oE oV oT oU nU) (by kernel_rfl) (o0 (by simp only [YA];rfl) (al h))
theorem abH (ho:ai o):Tl o 104 (Pv k:Rw S):=j3 (n:=0) (m:=1) (aFt k ho) fun nV nN oI oE oV oT oU nU Z x h=>o0 (b:=aa k (k' k nV nN oI oE oV oT oU nU) (MT nN oI oE oV oT oU nU (SJ 0 1 [.cells [(iI nV),(iI nN),(iI oI),(.str oE),(sC oV),(sT oT),(sB oU),(sB nU)],.cells [(pt 0)]] Z))) (by kernel_rfl) (o0 (congrArg (aa k (k' k nV nN oI oE oV oT oU nU)) (funext fun r=>if_pos ⟨rfl,rfl⟩)) h)
def Pw:Rw S:=aj EX n' fun nV nN oI oE oV oT oU nU Z=>aa k (sX k nV nN oI oE oV oT oU nU) (aHh nN oI oE oV oT oU nU Z)
def CS:Fx S:=fx 12 (fun _=>[]) (fun _=>false) [(96,Gr k),(104,Pv k)] [] k f52 true [] 1
theorem abI (ho:ai o):Tl o 52 (Pw k:Rw S):=ou (CS k) ⟨J_ k ho,abH k ho,trivial⟩ func52 fun nV nN oI oE oV oT oU nU Z x h=>px h
def GG:Rw S:=aj azp aDx fun sO c1 c2 Z=>aa k (w1 k sO c1 c2) (aHi c1 Z)
def gW:Fx S:=fp 22 [(40,A3 k),(41,Ot k),(42,OV k),(114,Gt k)] [] k f113 3
theorem aFu (ho:ai o):Tl o 113 (GG k:Rw S):=ou (gW k) ⟨D_ k ho,Dj k ho,H7 k ho,Ka k ho,trivial⟩ func113 fun sO c1 c2 Z x h=>px h
def Px:Rw S:=aj aGr aDx fun l c1 c2 Z=>aa k (aAQ k l c1 c2) (hq c1 Z)
def VT:Fx S:=fx 22 (fun _=>[]) (fun _=>false) [(113,GG k)] [(3,⟨[(1,nM),(5,ql 100005),(8,nM),(9,nM),(10,nM)],[(1000000,[nM]),(1000001,[nM]),(1000002,[nM])]⟩,ap 5 11)] k f112 false [true] 3
def aBT (c1 l:List (Br Tm)) (x qk:Int) (q:List (Br Tm)):St UU:=⟨[(1,(.func 113 [] [(pt 1000000),(pt 1000001)])),(5,(.own 100005 0)),(8,(sB l)),(9,(iI l.length)),(10,(iI qk))],[(1000000,.cells [(pt 1000002)]),(1000001,.cells [(sB c1)]),(1000002,bI x)],[(100005,⟨0,ET.B,q⟩)],[(100005,.wr)]⟩
section
variable (k:Nat) (l c1:List (Br Tm)) (c2:Int) (Z:Out UU->Option S)
theorem aDX: ∀n x qk q,(VT k).lp Z 3 [] n (aBT c1 l x qk q)=qa k (hq c1 Z) c1 l n x qk q:=EG (Hd k (hq c1 Z) c1 l)
end
theorem abJ (ho:ai o):Tl o 112 (Px k:Rw S):=ou (VT k) ⟨aFu k ho,trivial⟩ func112 fun l c1 c2 Z x h=>o0 (b:=aDn k (hq c1 Z) (fun z qk q=>(VT k).lp Z 3 [] k (aBT c1 l z qk q)) l c1 c2) (by kernel_rfl) (o0 (by simp only [aDX];rfl) (al h))
def Py:Rw S:=aj aGs aAy fun sO c1 c2 c3 Z=>aa k (o' k sO c1 c2 c3) (aHj c1 c2 Z)
def CT:Fx S:=fp 30 [(36,OP k),(40,A3 k),(41,Ot k),(42,OV k),(103,iK k)] [] k f115 4
theorem abK (ho:ai o):Tl o 115 (Py k:Rw S):=ou (CT k) ⟨aa1 k ho,D_ k ho,Dj k ho,H7 k ho,eg k ho,trivial⟩ func115 fun sO c1 c2 c3 Z x h=>px h
def Pz:Rw S:=aj aBr aAy fun l c1 c2 c3 Z=>aa k (bc k l c1 c2 c3) (sU c1 c2 Z)
def VU:Fx S:=fx 22 (fun _=>[]) (fun _=>false) [(115,Py k)] [(3,⟨[(1,nM),(5,ql 100005),(8,nM),(9,nM),(10,nM)],[(1000000,[nM]),(1000001,[nM,nM,nM,nM,nM,nM]),(1000002,[nM,nM,nM,nM,nM,nM]),(1000003,[nM])]⟩,ap 5 11)] k f112 false [true] 4
def aBU (c1 c2:Tm) (l:List (Br Tm)) (x qk:Int) (q:List (Br Tm)):St UU:=⟨[(1,(.func 115 [] [(pt 1000000),(pt 1000001),(pt 1000002)])),(5,(.own 100005 0)),(8,(sB l)),(9,(iI l.length)),(10,(iI qk))],[(1000000,.cells [(pt 1000003)]),(1000001,bT c1),(1000002,bT c2),(1000003,bI x)],[(100005,⟨0,ET.B,q⟩)],[(100005,.wr)]⟩
section
variable (k:Nat) (l:List (Br Tm)) (c1 c2:Tm) (c3:Int) (Z:Out UU->Option S)
theorem aDY: ∀n x qk q,(VU k).lp Z 3 [] n (aBU c1 c2 l x qk q)=G1 k (sU c1 c2 Z) c1 c2 l n x qk q:=EG (pz k (sU c1 c2 Z) c1 c2 l)
end
theorem abL (ho:ai o):Tl o 112 (Pz k:Rw S):=ou (VU k) ⟨abK k ho,trivial⟩ func112 fun l c1 c2 c3 Z x h=>o0 (b:=aDm k (sU c1 c2 Z) (fun z qk q=>(VU k).lp Z 3 [] k (aBU c1 c2 l z qk q)) l c1 c2 c3) (by kernel_rfl) (o0 (by simp only [aDY];rfl) (al h))
def PA:Rw S:=aj azp aAz fun sO c0 c1 Z=>aa k (ay6 k sO c0 c1) (aHk c0 c1 Z)
def mR:Fx S:=fp 18 [(42,OV k),(96,Gr k)] [] k f116 2
theorem abM (ho:ai o):Tl o 116 (PA k:Rw S):=ou (mR k) ⟨H7 k ho,J_ k ho,trivial⟩ func116 fun sO c0 c1 Z x h=>px h
def PB:Rw S:=aj aBs aAz fun l c0 c1 Z=>aa k (D3 k l c0 c1) (Ir c0 c1 Z)
def ayU:Fx S:=fx 22 (fun _=>[]) (fun _=>false) [(116,PA k)] [(3,⟨[(1,nM),(5,ql 100005),(8,nM),(9,nM),(10,nM)],[(1000000,[nM,nM,nM,nM,nM,nM]),(1000001,[nM,nM,nM,nM,nM,nM])]⟩,ap 5 11)] k f112 false [true] 2
def aBV (c0 c1:Tm) (l:List (Br Tm)) (qk:Int) (q:List (Br Tm)):St UU:=⟨[(1,(.func 116 [] [(pt 1000000),(pt 1000001)])),(5,(.own 100005 0)),(8,(sB l)),(9,(iI l.length)),(10,(iI qk))],[(1000000,bT c0),(1000001,bT c1)],[(100005,⟨0,ET.B,q⟩)],[(100005,.wr)]⟩
section
variable (k:Nat) (l:List (Br Tm)) (c0 c1:Tm) (Z:Out UU->Option S)
theorem aDZ: ∀n qk q,(ayU k).lp Z 3 [] n (aBV c0 c1 l qk q)=j9 k (Ir c0 c1 Z) c0 c1 l n qk q:=aL (J1 k (Ir c0 c1 Z) c0 c1 l)
end
theorem abN (ho:ai o):Tl o 112 (PB k:Rw S):=ou (ayU k) ⟨abM k ho,trivial⟩ func112 fun l c0 c1 Z x h=>o0 (b:=aAb k (Ir c0 c1 Z) (fun qk q=>(ayU k).lp Z 3 [] k (aBV c0 c1 l qk q)) l c0 c1) (by kernel_rfl) (o0 (by simp only [aDZ];rfl) (al h))
def PC:Rw S:=aj Ez xn fun t Z=>aa k (b5 k t) (AX Z)
def VX:Fx S:=fp 79 [(14,PK k),(34,PL (dJ k)),(35,Gg k),(96,Gr k),(111,a7 k),(112,ol (uy aBs aAz) (PB k) (ol (uy aBr aAy) (Pz k) (Px k))),(114,Gt k)] [] k f53 0
theorem abO (ho:ai o):Tl o 53 (PC k:Rw S):=ou (VX k) ⟨FK k ho,IK o ho k,SG k ho,J_ k ho,uo k ho,vw (abN k ho) (vw (abL k ho) (abJ k ho)),Ka k ho,trivial⟩ func53 fun t Z x h=>px h
def PD:Rw S:=aj Ez xn fun t Z=>aa k (cG k t) (AX Z)
def VY:Fx S:=fp 89 [(14,PK k),(34,PL (dJ k)),(35,Gg k),(49,Pn k),(50,GC k),(51,GD k),(52,Pw k),(53,PC k)] [] k f23 0
theorem abP (ho:ai o):Tl o 23 (PD k:Rw S):=ou (VY k) ⟨FK k ho,IK o ho k,SG k ho,abz k ho,Ki k ho,Kj k ho,abI k ho,abO k ho,trivial⟩ func23 fun t Z x h=>px h
def aoz:Rw S:=aj adZ xn fun defs t Z=>aa k (a_ k defs t) (AX Z)
def ir:Fx S:=fp 79 [(14,PK k),(20,vE k),(21,A5 k),(22,Pk k),(23,PD k),(24,OD k)] [(7,⟨[(0,nM),(3,nM),(4,nM),(8,nM),(9,nM),(10,nM),(20,nM)],[(3,[nM,nM,nM,nM,nM,nM]),(4,[nM,nM,nM,ql 200259,ql 200260,ql 200261]),(8,[nM,nM,nM,nM,nM,nM])]⟩,ap 9 189),(1000022,⟨[(0,nM),(3,nM),(4,nM)],[(3,[nM,nM,nM,nM,nM,nM]),(4,[nM,nM,nM,ql 200259,ql 200260,ql 200261])]⟩,ap 8 253)] k f13 0
def aox (t:Tm) (defs:List Df) (z A:Int) (B:ByteArray) (E:List Cl) (F:List Tm) (x:List (Br Tm)) (qk xo:Int) (q:Bool):St UU:=⟨[(0,(km defs .none)),(3,(pt 3)),(4,(pt 4)),(8,(pt 8)),(9,(.bool q)),(10,(iI qk)),(20,(iI xo))],[(3,bT t),(4,.cells [(iI 0),(iI 0),zw,(.own 200259 0),(.own 200260 0),(.own 200261 0)]),(8,.cells [(iI z),(iI A),(.str B),(sC E),(sT F),(sB x)])],[(200261,xP),(200260,zn),(200259,xW)],[(200261,.wr),(200260,.wr),(200259,.wr)]⟩
def aob (t:Tm) (defs:List Df):St UU:=⟨[(0,(km defs .none)),(3,(pt 3)),(4,(pt 4))],[(3,bT t),(4,.cells [(iI 0),(iI 0),zw,(.own 200259 0),(.own 200260 0),(.own 200261 0)])],[(200261,xP),(200260,zn),(200259,xW)],[(200261,.wr),(200260,.wr),(200259,.wr)]⟩
section
variable (k:Nat) (defs:List Df) (t:Tm) (Z:Out UU->Option S)
theorem aD1: ∀n,(ir k).jn Z 1000022 [] n (aob t defs)=bK k (AX Z) t defs n:=gL (co k (AX Z) t defs)
theorem qA: ∀n z A B E F x qk xo q,(ir k).lp Z 7 [] n (aox t defs z A B E F x qk xo q)=bH k (AX Z) t defs n z A B E F x qk xo q:=lp9 (fun own=>R6 k (AX Z) t defs (bK k (AX Z) t defs k) own) rfl (fun _=>rfl) fun r z A B E F x qk xo q=>o0 (b:=R6 k (AX Z) t defs ((ir k).jn Z 1000022 [] k (aob t defs)) (fun z A B E F x qk xo q=>r (aox t defs z A B E F x qk xo q)) z A B E F x qk xo q) (by kernel_rfl) (by simp only [aD1])
end
theorem aFv (ho:ai o):Tl o 13 (aoz k:Rw S):=ou (ir k) ⟨FK k ho,aFg k ho,aFj k ho,abw k ho,abP k ho,aaP k ho,trivial⟩ func13 fun defs t Z x h=>o0 (b:=aAp k (AX Z) (fun A B E F I z qk xo q=>(ir k).lp Z 7 [] k (aox t defs A B E F I z qk xo q)) defs t) (by kernel_rfl) (o0 (by simp only [qA];rfl) (al h))
def aoK:Rw S:=aj Ls S0 fun t nV nN Z=>aa k (dy k t nV nN) (Na nV Z)
def qz:Fx S:=fp 51 [(13,aoz k)] [(1000004,⟨[(0,nM),(3,nM),(4,nM),(6,nM),(7,nM),(8,nM)],[(3,[nM,nM,nM,nM,nM,nM]),(4,[nM,nM,nM,ql 200259,ql 200260,ql 200261]),(6,[nM,nM,nM,nM,nM,nM]),(1000000,[nM,nM])]⟩,ap 3 7),(1000006,⟨[(0,nM),(4,nM),(6,nM)],[(4,[nM,nM,nM,ql 200259,ql 200260,ql 200261]),(6,[nM,nM,nM,nM,nM,nM]),(1000000,[nM,nM])]⟩,ap 4 15)] k f176 1
def aBX (nV:List Df) (nN:Int) (t:Tm) (r1:Tm×Bool×Int):St UU:=⟨[(0,(pt 1000000)),(3,(pt 3)),(4,(pt 4)),(6,(pt 6)),(7,(.bool r1.2.1)),(8,(iI r1.2.2))],[(3,bT t),(4,.cells [(iI 0),(iI 0),zw,(.own 200259 0),(.own 200260 0),(.own 200261 0)]),(6,bT r1.1),(1000000,.cells [(km nV .none),(iI nN)])],[(200261,xP),(200260,zn),(200259,xW)],[(200261,.wr),(200260,.wr),(200259,.wr)]⟩
def aBY (nV:List Df) (nN:Int) (r1:Tm×Bool×Int):St UU:=⟨[(0,(pt 1000000)),(4,(pt 4)),(6,(pt 6))],[(4,.cells [(iI 0),(iI 0),zw,(.own 200259 0),(.own 200260 0),(.own 200261 0)]),(6,bT r1.1),(1000000,.cells [(km nV .none),(iI nN)])],[(200261,xP),(200260,zn),(200259,xW)],[(200261,.wr),(200260,.wr),(200259,.wr)]⟩
section
variable (k:Nat) (t:Tm) (nV:List Df) (nN:Int) (Z:Out UU->Option S)
theorem aD3 (r1): ∀n,(qz k).jn Z 1000006 [] n (aBY nV nN r1)=qn k (Na nV Z) nV nN r1 n:=gL (W1 k (Na nV Z) nV nN r1)
theorem aD2 (r1): ∀n,(qz k).jn Z 1000004 [] n (aBX nV nN t r1)=azv k (Na nV Z) nV nN t r1 n:=gL (zl k (Na nV Z) nV nN t r1 (qn k (Na nV Z) nV nN r1 k)) rfl (fun _=>rfl) (o0 (b:=zl k (Na nV Z) nV nN t r1 ((qz k).jn Z 1000006 [] k (aBY nV nN r1))) (by kernel_rfl) (by simp only [aD3]))
end
theorem apj (ho:ai o):Tl o 176 (aoK k:Rw S):=ou (qz k) ⟨aFv k ho,trivial⟩ func176 fun t nV nN Z x h=>o0 (b:=aAi k (Na nV Z) (fun r1=>(qz k).jn Z 1000004 [] k (aBX nV nN t r1)) t nV nN) (by kernel_rfl) (o0 (by simp only [aD2];rfl) (al h))
def aoj:Rw S:=aj Ez xn fun t Z=>aa k (aU k t) (da Z)
def ayV:Fx S:=fp 26 [(120,Oe k)] [(1000015,aS [1,3] [(1,6)],ap 3 7)] k f177 0
def oF (t:Tm) (v3:Int):St UU:=⟨[(1,(pt 1)),(3,(iI v3))],[(1,bT t)],[],[]⟩
section
variable (k:Nat) (t:Tm) (Z:Out UU->Option S)
theorem qD: ∀n v3,(ayV k).jn Z 1000015 [] n (oF t v3)=aV k (da Z) t n v3:=jn1 (bo k (da Z) t)
end
theorem apk (ho:ai o):Tl o 177 (aoj k:Rw S):=ou (ayV k) ⟨aat k ho,trivial⟩ func177 fun t Z x h=>o0 (b:=ao k (da Z) (fun v3=>(ayV k).jn Z 1000015 [] k (oF t v3)) t) (by kernel_rfl) (o0 (by simp only [qD];rfl) (al h))
def qq (hd:B9 S):Rw S:=aj azr xn fun a b Z=>hd a b (F9 Z)
def azO (hd:B9 S) (k:Nat):Rw S:=aj aGt xn fun s1 s2 Z=>aa k (iS hd k s1 s2) (F9 Z)
def eb (hd:B9 S) (k:Nat):Fx S:=fp 32 [(215,qq hd)] [(4,aS [1,2,15,16,17] [],ap 5 11)] k f239 0
def aBZ (s2 s1:List Tm) (ov:Int):St UU:=⟨[(1,(sT s2)),(2,(.func 215 [] [])),(15,(sT s1)),(16,(iI s1.length)),(17,(iI ov))],[],[],[]⟩
section
variable (hd:B9 S) (k:Nat) (s1 s2:List Tm) (Z:Out UU->Option S)
theorem aD4: ∀n ov,(eb hd k).lp Z 4 [] n (aBZ s2 s1 ov)=jo hd k (F9 Z) s2 s1 n ov:=cF (o4 hd k (F9 Z) s2 s1)
end
theorem eZ (o:Obj) (ho:ai o) (hd:B9 S) (Hd:Tl o 215 (qq hd)) (k:Nat):Tl o 239 (azO hd k:Rw S):=ou (eb hd k) ⟨Hd,trivial⟩ func239 fun s1 s2 Z x h=>o0 (b:=aAm hd k (F9 Z) (fun ov=>(eb hd k).lp Z 4 [] k (aBZ s2 s1 ov)) s1 s2) (by kernel_rfl) (o0 (by simp only [aD4];rfl) (al h))
def aCS (hd:B9 S) (k:Nat):Rw S:=aj aGu xn fun sO y Z=>aa k (u2 hd k sO y) (F9 Z)
def aDB (hd:B9 S) (k:Nat):Fx S:=fp 17 [(31,Pu k),(239,azO hd k)] [] k f240 0
theorem aFw (o:Obj) (ho:ai o) (hd:B9 S) (Hd:Tl o 215 (qq hd)) (k:Nat):Tl o 240 (aCS hd k:Rw S):=ou (aDB hd k) ⟨k7 k ho,eZ o ho hd Hd k,trivial⟩ func240 fun sO y Z x h=>px h
def aCT (hd:B9 S) (k:Nat):Rw S:=aj aGv xn fun s1 s2 Z=>aa k (te hd k s1 s2) (F9 Z)
def ef (hd:B9 S) (k:Nat):Fx S:=fp 32 [(240,aCS hd k)] [(4,aS [1,2,15,16,17] [],ap 5 11)] k f69 0
def aB0 (s2 s1:List (Br Tm)) (ov:Int):St UU:=⟨[(1,(sB s2)),(2,(.func 240 [] [])),(15,(sB s1)),(16,(iI s1.length)),(17,(iI ov))],[],[],[]⟩
section
variable (hd:B9 S) (k:Nat) (s1 s2:List (Br Tm)) (Z:Out UU->Option S)
theorem aD5: ∀n ov,(ef hd k).lp Z 4 [] n (aB0 s2 s1 ov)=kx hd k (F9 Z) s2 s1 n ov:=cF (e9 hd k (F9 Z) s2 s1)
end
theorem aFx (o:Obj) (ho:ai o) (hd:B9 S) (Hd:Tl o 215 (qq hd)) (k:Nat):Tl o 69 (aCT hd k:Rw S):=ou (ef hd k) ⟨aFw o ho hd Hd k,trivial⟩ func69 fun s1 s2 Z x h=>o0 (b:=aAl hd k (F9 Z) (fun ov=>(ef hd k).lp Z 4 [] k (aB0 s2 s1 ov)) s1 s2) (by kernel_rfl) (o0 (by simp only [aD5];rfl) (al h))
def aDA (hd:B9 S) (k:Nat):Fx S:=fp 45 [(31,Pu k),(69,aCT hd k),(239,azO hd k)] [] k f215 0
theorem azj (o:Obj) (ho:ai o): ∀k:Nat,Tl o 215 (qq (K4 k:B9 S))
 |0=>dz fun a b Z x h=>by cases h
 |k+1=>ou (aDA (K4 k) k) ⟨k7 k ho,aFx o ho (K4 k) (azj o ho k) k,eZ o ho (K4 k) (azj o ho k) k,trivial⟩ func215 fun a b Z x h=>o0 (by kernel_rfl) h
def qB (hd:Mh S):Rw S:=aj Ls S0 fun t nV nN Z=>hd t nV nN (P' nV Z)
def aCU (hd:Mh S) (k:Nat):Rw S:=aj h3 S0 fun t Iq nV nN Z=>aa k (Nl hd k t Iq nV nN) (Na nV Z)
def aKo (hd:Mh S) (k:Nat):Fx S:=fp 36 [(128,qB hd),(215,qq (K4 k))] [] k f178 1
theorem aFy (o:Obj) (ho:ai o) (hd:Mh S) (Hd:Tl o 128 (qB hd)) (k:Nat):Tl o 178 (aCU hd k:Rw S):=ou (aKo hd k) ⟨Hd,azj o ho k,trivial⟩ func178 fun t Iq nV nN Z x h=>px h
def bk (hd:Mh S) (k:Nat):Fx S:=fp 53 [(176,aoK k),(177,aoj k),(178,aCU hd k)] [(1,⟨[(0,nM),(3,nM),(4,nM)],[(3,[nM,nM,nM,nM,nM,nM]),(4,[nM,nM,nM,ql 200259,ql 200260,ql 200261]),(1000000,[nM,nM])]⟩,ap 2 1)] k f128 1
def aB1 (nV:List Df) (q:Int) (x:Tm):St UU:=⟨[(0,(pt 1000000)),(3,(pt 3)),(4,(pt 4))],[(3,bT x),(4,.cells [(iI 0),(iI 0),zw,(.own 200259 0),(.own 200260 0),(.own 200261 0)]),(1000000,.cells [(km nV .none),(iI q)])],[(200261,xP),(200260,zn),(200259,xW)],[(200261,.wr),(200260,.wr),(200259,.wr)]⟩
section
variable (hd:Mh S) (k:Nat) (t:Tm) (nV:List Df) (nN:Int) (Z:Out UU->Option S)
theorem aRz: ∀n q x,(bk hd k).lp Z 1 [] n (aB1 nV q x)=MV hd k (P' nV Z) nV n q x:=aL (qC hd k (P' nV Z) nV)
end
theorem aBe (o:Obj) (ho:ai o): ∀k:Nat,Tl o 128 (qB (EA k:Mh S))
 |0=>dz fun t nV nN Z x h=>by cases h
 |k+1=>ou (bk (EA k) k) ⟨apj k ho,apk k ho,aFy o ho (EA k) (aBe o ho k) k,trivial⟩ func128 fun t nV nN Z x h=>o0 (b:=xw (EA k) k (P' nV Z) (fun q z=>(bk (EA k) k).lp Z 1 [] k (aB1 nV q z)) t nV nN) (by kernel_rfl) (o0 (by simp only [aRz];rfl) h)
def azP:Rw S:=aj aGw xn fun defs t fuel Z=>aa k (N' k defs t fuel) (aHl Z)
def ei:Fx S:=⟨⟨38,(fun _=>[]),(fun _=>false),nM,fun|6=>true|7=>true|8=>true|_=>false⟩,[(14,PK k),(34,PL (dJ k)),(128,qB (EA k))],[],k,f60,false,[],0,some (o9 17 127 f127 k)⟩
theorem aAU (ho:ai o):Tl o 60 (azP k:Rw S):=BZ (ei k) rfl (yn o func127 (by kernel_rfl)) ⟨FK k ho,IK o ho k,aBe o ho k,trivial⟩ func60 (by kernel_rfl) fun defs t fuel Z x h=>px h
def bg:Rw S:=aj Ag xn fun sO xw Z=>aa k (Sh k sO xw) (AP Z)
def ej:Fx S:=fp 10 [] [] k f61 0
theorem aFz (ho:ai o):Tl o 61 (bg k:Rw S):=ou (ej k) trivial func61 fun sO xw Z x h=>px h
def dA:Rw S:=aj Ls S0 fun t nV nN Z=>aa k (c' k t nV nN) (P' nV Z)
def auV:Fx S:=fp 29 [(60,azP k),(61,bg k)] [] k f27 1
theorem aOu (ho:ai o):Tl o 27 (dA k:Rw S):=ou (auV k) ⟨aAU k ho,aFz k ho,trivial⟩ func27 fun t nV nN Z x h=>px h
def dB:Rw S:=aj Ls fh fun t c0 Z=>aa k (pq k t c0) (ays c0 Z)
def er:Fx S:=fp 11 [(61,bg k)] [] k f62 1
theorem aFA (ho:ai o):Tl o 62 (dB k:Rw S):=ou (er k) ⟨aFz k ho,trivial⟩ func62 fun t c0 Z x h=>px h
def aCV:Rw S:=aj Ez xn fun t Z=>aa k (SV k t) (AP Z)
def aRw:Fx S:=fp 21 [(40,A3 k),(41,Ot k),(62,dB k),(63,OX k)] [] k f28 0
theorem aFB (ho:ai o):Tl o 28 (aCV k:Rw S):=ou (aRw k) ⟨D_ k ho,Dj k ho,aFA k ho,r8 k ho,trivial⟩ func28 fun t Z x h=>px h
def aCW:Rw S:=aj Ag xn fun t kind Z=>aa k (MI k t kind) (aF Z)
def ew:Fx S:=fp 18 [(41,Ot k)] [] k f29 0
theorem aFC (ho:ai o):Tl o 29 (aCW k:Rw S):=ou (ew k) ⟨Dj k ho,trivial⟩ func29 fun t kind Z x h=>px h
def aCX:Rw S:=aj azr xn fun t p Z=>aa k (fF k t p) (AP Z)
def ez:Fx S:=fp 48 [(40,A3 k),(62,dB k),(64,jx k),(65,Oq k),(66,Oy k)] [] k f30 0
theorem fI (ho:ai o):Tl o 30 (aCX k:Rw S):=ou (ez k) ⟨D_ k ho,aFA k ho,j8 k ho,w4 k ho,M6 k ho,trivial⟩ func30 fun t p Z x h=>px h
def aCY:Rw S:=aj Lk xn fun l Z=>aa k (Lo k l) (ua Z)
def eC:Fx S:=fp 28 [(131,OY k)] [(3,aS [4,9,10,11] [],ap 5 11)] k f68 0
def aNL (l:List (Br Tm)) (zt:Int) (v4:List Cl):St UU:=⟨[(4,(sC v4)),(9,(sB l)),(10,(iI l.length)),(11,(iI zt))],[],[],[]⟩
section
variable (k:Nat) (l:List (Br Tm)) (Z:Out UU->Option S)
theorem aOd: ∀n zt v4,(eC k).lp Z 3 [] n (aNL l zt v4)=l9 k (ua Z) l n zt v4:=aL (ch k (ua Z) l)
end
theorem aFD (ho:ai o):Tl o 68 (aCY k:Rw S):=ou (eC k) ⟨aa_ k ho,trivial⟩ func68 fun l Z x h=>o0 (b:=aNs k (ua Z) (fun zt v4=>(eC k).lp Z 3 [] k (aNL l zt v4)) l) (by kernel_rfl) (o0 (by simp only [aOd];rfl) (al h))
def aCZ:Rw S:=aj EV xn fun sO xw Z=>aa k (q8 k sO xw) (ah0 Z)
def bm:Fx S:=fp 10 [] [] k f67 0
theorem fY (ho:ai o):Tl o 67 (aCZ k:Rw S):=ou (bm k) trivial func67 fun sO xw Z x h=>px h
def ayA:Rw S:=aj aGu xn fun sO y Z=>aa k (aNc k sO y) (F9 Z)
def eD:Fx S:=fp 10 [(31,Pu k)] [] k f70 0
theorem fZ (ho:ai o):Tl o 70 (ayA k:Rw S):=ou (eD k) ⟨k7 k ho,trivial⟩ func70 fun sO y Z x h=>px h
def aC0:Rw S:=aj aBt xn fun s1 s2 Z=>aa k (y' k s1 s2) (F9 Z)
def ayW:Fx S:=fp 32 [(70,ayA k)] [(4,aS [1,2,15,16,17] [],ap 5 11)] k f69 0
def aB7 (s2 s1:List (Br Tm)) (ov:Int):St UU:=⟨[(1,(sB s2)),(2,(.func 70 [] [])),(15,(sB s1)),(16,(iI s1.length)),(17,(iI ov))],[],[],[]⟩
section
variable (k:Nat) (s1 s2:List (Br Tm)) (Z:Out UU->Option S)
theorem aEb: ∀n ov,(ayW k).lp Z 4 [] n (aB7 s2 s1 ov)=mx k (F9 Z) s2 s1 n ov:=cF (xk k (F9 Z) s2 s1)
end
theorem aFE (ho:ai o):Tl o 69 (aC0 k:Rw S):=ou (ayW k) ⟨fZ k ho,trivial⟩ func69 fun s1 s2 Z x h=>o0 (b:=qk k (F9 Z) (fun ov=>(ayW k).lp Z 4 [] k (aB7 s2 s1 ov)) s1 s2) (by kernel_rfl) (o0 (by simp only [aEb];rfl) (al h))
def ayC:Rw S:=aj aGx xn fun sO xw Z=>aa k (az k sO xw) (aK2 Z)
def eG:Fx S:=fp 10 [] [] k f132 0
theorem aOv (ho:ai o):Tl o 132 (ayC k:Rw S):=ou (eG k) trivial func132 fun sO xw Z x h=>px h
def azn:Rw S:=aj aGy xn fun t c Z=>aa k (W3 k t c) (BC Z)
def eH:Fx S:=fp 71 [(14,PK k),(34,PL (dJ k)),(130,Bg k),(175,Bb k),(180,P8 k),(181,Oh (d7 k)),(184,OM k),(186,GK k),(187,GZ)] [(9,⟨[(4,nM),(7,nM),(40,some (100040,false)),(41,nM),(42,nM)],[(4,[nM,nM,nM,ql 200259,ql 200260,ql 200261]),(7,[nM,nM,nM,nM,nM,nM])]⟩,ap 8 95),(12,⟨[(4,nM),(7,nM),(10,nM),(40,some (100040,false)),(41,nM),(42,nM),(48,nM),(49,nM),(50,nM)],[(4,[nM,nM,nM,ql 200259,ql 200260,ql 200261]),(7,[nM,nM,nM,nM,nM,nM]),(10,[nM,nM])]⟩,ap 16 26207)] k f134 0
def r0 (c:Cl) (r5 r6:List Cl) (q:Tm) (ox:Int):St UU:=⟨[(4,(pt 4)),(7,(pt 7)),(40,(.own 100040 0)),(41,(.int .i64 ([(Vd.mk c.pos r5),(Vd.mk c.neg r6)].length:Int))),(42,(iI ox))],[(4,.cells [(iI 0),(iI 0),zw,(.own 200259 0),(.own 200260 0),(.own 200261 0)]),(7,bT q)],[(200261,xP),(200260,zn),(200259,xW),(100040,⟨0,ET.V,[(Vd.mk c.pos r5),(Vd.mk c.neg r6)]⟩)],[(200261,.wr),(200260,.wr),(200259,.wr),(100040,.app)]⟩
def aNM (x8:Vd) (c:Cl) (r5 r6:List Cl) (ox:Int) (r9:List Int) (q:Tm) (v50:Int):St UU:=⟨[(4,(pt 4)),(7,(pt 7)),(10,(pt 10)),(40,(.own 100040 0)),(41,(.int .i64 ([(Vd.mk c.pos r5),(Vd.mk c.neg r6)].length:Int))),(42,(iI ox)),(48,(la r9 .none)),(49,(iI r9.length)),(50,(iI v50))],[(4,.cells [(iI 0),(iI 0),zw,(.own 200259 0),(.own 200260 0),(.own 200261 0)]),(7,bT q),(10,.cells [(iU x8.set),(sC x8.row)])],[(200261,xP),(200260,zn),(200259,xW),(100040,⟨0,ET.V,[(Vd.mk c.pos r5),(Vd.mk c.neg r6)]⟩)],[(200261,.wr),(200260,.wr),(200259,.wr),(100040,.app)]⟩
section
variable (k:Nat) (t:Tm) (c:Cl) (Z:Out UU->Option S)
theorem aOf (x8 r5 r6 ox r9 Z0): ∀n q v50,(eH k).lp Z 12 [Z0] n (aNM x8 c r5 r6 ox r9 q v50)=SS k (BC Z) (fun x ox=>Z0 (r0 c r5 r6 x ox)) x8 c r5 r6 ox r9 n q v50:=aL (Z1 k (BC Z) x8 c r5 r6 ox r9 (fun x ox=>Z0 (r0 c r5 r6 x ox)))
theorem aOe (r5 r6): ∀n x ox,(eH k).lp Z 9 [] n (r0 c r5 r6 x ox)=KV k (BC Z) c r5 r6 n x ox:=aL (fun own=>xf k (BC Z) c r5 r6 (fun z ox A q v50=>SS k (BC Z) own z c r5 r6 ox A k q v50) own) rfl (fun _=>rfl) fun r x ox=>o0 (b:=xf k (BC Z) c r5 r6 (fun z ox A q v50=>(eH k).lp Z 12 [r] k (aNM z c r5 r6 ox A q v50)) (fun x ox=>r (r0 c r5 r6 x ox)) x ox) (by kernel_rfl) (by simp only [aOf])
end
theorem f_ (ho:ai o):Tl o 134 (azn k:Rw S):=ou (eH k) ⟨FK k ho,IK o ho k,Em k ho,Eg k ho,aci k ho,cx o ho k,aaY k ho,Kp k ho,akR o ho,trivial⟩ func134 fun t c Z x h=>o0 (b:=ax k (BC Z) (fun q z A ox=>(eH k).lp Z 9 [] k (r0 c q z A ox)) t c) (by kernel_rfl) (o0 (by simp only [aOe];rfl) (al h))
def dZ:Rw S:=aj jk xn fun f g Z=>aa k (L1 k f g) (ua Z)
def eI:Fx S:=fp 19 [(135,Gm k),(136,Qd k)] [] k f72 0
theorem aOw (ho:ai o):Tl o 72 (dZ k:Rw S):=ou (eI k) ⟨JZ k ho,aco k ho,trivial⟩ func72 fun f g Z x h=>px h
def lz (hd:xX S):Rw S:=aj je S0 fun a b nV nN Z=>hd a b nV nN (E9 nV Z)
def aNZ (hd:xX S) (k:Nat):Rw S:=aj aIR S0 fun kind f a b nV nN Z=>aa k (gn hd k kind f a b nV nN) (E9 nV Z)
def eK (hd:xX S) (k:Nat):Fx S:=fp 57 [(19,lz hd),(61,bg k),(132,ayC k),(133,GL k),(134,azn k)] [(2,aS [0,1,3,4,15,16,17] [(1000000,2)],ap 4 5),(7,aS [0,1,3,4,12,15,16,17,29,30] [(12,2),(1000000,2)],ap 13 3685)] k f71 1
def gb (nV:List Df) (kind:Int) (f:List Cl) (a b:List Tm) (q ov:Int):St UU:=⟨[(0,(pt 1000000)),(1,(iI kind)),(3,(sT a)),(4,(sT b)),(15,(sC f)),(16,(iI f.length)),(17,(iI ov))],[(1000000,.cells [(km nV .none),(iI q)])],[],[]⟩
def aNO (nV:List Df) (kind:Int) (f:List Cl) (ov:Int) (a b:List Tm) (qE:Int) (q:Cl) (H9:Int):St UU:=⟨[(0,(pt 1000000)),(1,(iI kind)),(3,(sT a)),(4,(sT b)),(12,(pt 12)),(15,(sC f)),(16,(iI f.length)),(17,(iI ov)),(29,(iI a.length)),(30,(iI H9))],[(12,bC q),(1000000,.cells [(km nV .none),(iI qE)])],[],[]⟩
section
variable (hd:xX S) (k:Nat) (kind:Int) (f:List Cl) (a b:List Tm) (nV:List Df) (nN:Int) (Z:Out UU->Option S)
theorem aOh (ov Z0): ∀n qE x H9,(eK hd k).lp Z 7 [Z0] n (aNO nV kind f ov a b qE x H9)=Sb hd k (E9 nV Z) (fun q ov=>Z0 (gb nV kind f a b q ov)) nV kind f ov a b n qE x H9:=EG (h5 hd k (E9 nV Z) nV kind f ov a b (fun q ov=>Z0 (gb nV kind f a b q ov)))
theorem aOg: ∀n q ov,(eK hd k).lp Z 2 [] n (gb nV kind f a b q ov)=NX hd k (E9 nV Z) nV kind f a b n q ov:=aL (fun own=>fr hd k (E9 nV Z) nV kind f a b (fun ov qE x H9=>Sb hd k (E9 nV Z) own nV kind f ov a b k qE x H9) own) rfl (fun _=>rfl) fun r q ov=>o0 (b:=fr hd k (E9 nV Z) nV kind f a b (fun ov qE x H9=>(eK hd k).lp Z 7 [r] k (aNO nV kind f ov a b qE x H9)) (fun q ov=>r (gb nV kind f a b q ov)) q ov) (by kernel_rfl) (by simp only [aOh])
end
theorem gg (o:Obj) (ho:ai o) (hd:xX S) (Hd:Tl o 19 (lz hd)) (k:Nat):Tl o 71 (aNZ hd k:Rw S):=ou (eK hd k) ⟨Hd,aFz k ho,aOv k ho,Kq k ho,f_ k ho,trivial⟩ func71 fun kind f a b nV nN Z x h=>o0 (b:=aNp hd k (E9 nV Z) (fun q ov=>(eK hd k).lp Z 2 [] k (gb nV kind f a b q ov)) kind f a b nV nN) (by kernel_rfl) (o0 (by simp only [aOg];rfl) (al h))
def aKd (hd:xX S) (k:Nat):Rw S:=aj aOJ S0 fun kind a b nV nN Z=>aa k (e8 hd k kind a b nV nN) (E9 nV Z)
def SY (hd:xX S) (k:Nat):Fx S:=fp 83 [(31,Pu k),(67,aCZ k),(68,aCY k),(69,aC0 k),(71,aNZ hd k),(72,dZ k)] [(6,aS [0,1,3,32,33,34] [(1000000,2)],ap 9 151),(13,aS [0,1,3,53,54,55] [(1000000,2)],ap 7 47),(16,aS [0,1,3,13,53,54,55,59,60,61] [(13,2),(1000000,2)],ap 15 13103)] k f32 1
def aNP (nV:List Df) (kind:Int) (b a:List (Br Tm)) (q x:Int):St UU:=⟨[(0,(pt 1000000)),(1,(iI kind)),(3,(sB b)),(32,(sB a)),(33,(iI a.length)),(34,(iI x))],[(1000000,.cells [(km nV .none),(iI q)])],[],[]⟩
def ga (nV:List Df) (kind:Int) (b a:List (Br Tm)) (qE v55:Int):St UU:=⟨[(0,(pt 1000000)),(1,(iI kind)),(3,(sB b)),(53,(sB a)),(54,(iI a.length)),(55,(iI v55))],[(1000000,.cells [(km nV .none),(iI qE)])],[],[]⟩
def aNQ (nV:List Df) (q:(Br Tm)) (kind:Int) (b a:List (Br Tm)) (v55:Int) (s8 x:Int):St UU:=⟨[(0,(pt 1000000)),(1,(iI kind)),(3,(sB b)),(13,(pt 13)),(53,(sB a)),(54,(iI a.length)),(55,(iI v55)),(59,(sB b)),(60,(iI b.length)),(61,(iI x))],[(13,bB q),(1000000,.cells [(km nV .none),(iI s8)])],[],[]⟩
section
variable (hd:xX S) (k:Nat) (kind:Int) (a b:List (Br Tm)) (nV:List Df) (nN:Int) (Z:Out UU->Option S)
theorem aOi: ∀n q x,(SY hd k).lp Z 6 [] n (aNP nV kind b a q x)=iz hd k (E9 nV Z) nV kind b a n q x:=aL (ds hd k (E9 nV Z) nV kind b a)
theorem aOk (q v55 Z1): ∀n s8 x,(SY hd k).lp Z 16 [Z1] n (aNQ nV q kind b a v55 s8 x)=SU hd k (E9 nV Z) (fun qE v55=>Z1 (ga nV kind b a qE v55)) nV q kind b a v55 n s8 x:=aL (D2 hd k (E9 nV Z) nV q kind b a v55 (fun qE v55=>Z1 (ga nV kind b a qE v55)))
theorem aOj: ∀n qE v55,(SY hd k).lp Z 13 [] n (ga nV kind b a qE v55)=Sc hd k (E9 nV Z) nV kind b a n qE v55:=aL (fun own=>fU hd k (E9 nV Z) nV kind b a (fun q v55 s8 x=>SU hd k (E9 nV Z) own nV q kind b a v55 k s8 x) own) rfl (fun _=>rfl) fun r qE v55=>o0 (b:=fU hd k (E9 nV Z) nV kind b a (fun q v55 s8 x=>(SY hd k).lp Z 16 [r] k (aNQ nV q kind b a v55 s8 x)) (fun qE v55=>r (ga nV kind b a qE v55)) qE v55) (by kernel_rfl) (by simp only [aOk])
end
theorem aKz (o:Obj) (ho:ai o) (hd:xX S) (Hd:Tl o 19 (lz hd)) (k:Nat):Tl o 32 (aKd hd k:Rw S):=ou (SY hd k) ⟨k7 k ho,fY k ho,aFD k ho,aFE k ho,gg o ho hd Hd k,aOw k ho,trivial⟩ func32 fun kind a b nV nN Z x h=>o0 (b:=aNo hd k (E9 nV Z) (fun q z=>(SY hd k).lp Z 6 [] k (aNP nV kind b a q z)) (fun qE v55=>(SY hd k).lp Z 13 [] k (ga nV kind b a qE v55)) kind a b nV nN) (by kernel_rfl) (o0 (by simp only [aOi,aOj];rfl) (al h))
def aQ (hd:xX S) (k:Nat):Fx S:=fp 165 [(19,lz hd),(27,dA k),(28,aCV k),(29,aCW k),(30,aCX k),(31,Pu k),(32,aKd hd k)] [(20,aS [0,7,8,139,140] [(7,6),(8,6),(1000000,2)],ap 9 191)] k f19 1
def aNN (nV:List Df) (r2 r5:Tm×Int) (x q:Int):St UU:=⟨[(0,(pt 1000000)),(7,(pt 7)),(8,(pt 8)),(139,(iI r2.1.c.length)),(140,(iI q))],[(7,bT r2.1),(8,bT r5.1),(1000000,.cells [(km nV .none),(iI x)])],[],[]⟩
section
variable (hd:xX S) (k:Nat) (a b:Tm) (nV:List Df) (nN:Int) (Z:Out UU->Option S)
theorem eX (r2 r5): ∀n x q,(aQ hd k).lp Z 20 [] n (aNN nV r2 r5 x q)=fz hd k (E9 nV Z) nV r2 r5 n x q:=aL (Hg hd k (E9 nV Z) nV r2 r5)
end
theorem aNe (o:Obj) (ho:ai o): ∀k:Nat,Tl o 19 (lz (BB k:xX S))
 |0=>dz fun a b nV nN Z x h=>by cases h
 |k+1=>ou (aQ (BB k) k) ⟨aNe o ho k,aOu k ho,aFB k ho,aFC k ho,fI k ho,k7 k ho,aKz o ho (BB k) (aNe o ho k) k,trivial⟩ func19 fun a b nV nN Z x h=>o0 (b:=jm (BB k) k (E9 nV Z) (fun A B z q=>(aQ (BB k) k).lp Z 20 [] k (aNN nV A B z q)) a b nV nN) (by kernel_rfl) (o0 (by simp only [eX];rfl) h)
def axj:Rw S:=aj aOK xn fun defs a b fuel Z=>aa k (SX k defs a b fuel) (o3 Z)
def aKq:Fx S:=⟨⟨49,(fun _=>[]),(fun _=>false),nM,fun|8=>true|9=>true|10=>true|_=>false⟩,[(14,PK k),(19,lz (BB k))],[(2,⟨[(0,nM),(3,nM),(5,nM),(6,nM),(8,nM),(9,nM),(10,nM),(17,some (100017,false)),(18,nM),(19,nM)],[(5,[nM,nM,nM,nM,nM,nM]),(6,[nM,nM,nM,nM,nM,nM]),(5000008,[nM]),(5000009,[nM]),(5000010,[nM])]⟩,ap 4 5)],k,f12,false,[],0,some (o9 16 18 f18 k)⟩
def aNR (a b:Tm) (defs:List Df) (fuel:Int) (q:Int):St UU:=⟨[(0,(km defs .none)),(3,(iI fuel)),(5,(pt 5)),(6,(pt 6)),(8,(pt 5000008)),(9,(pt 5000009)),(10,(pt 5000010)),(17,(.own 100017 0)),(18,(.int .i64 ([(ac a),(ac b)].length:Int))),(19,(iI q))],[(5,bT a),(6,bT b),(5000008,.cells [(.bool false)]),(5000009,bI 0),(5000010,bI 0)],[(100017,⟨0,ET.T,[(ac a),(ac b)]⟩)],[(100017,.app)]⟩
section
variable (k:Nat) (defs:List Df) (a b:Tm) (fuel:Int) (Z:Out UU->Option S)
theorem aOl: ∀n q,(aKq k).lp Z 2 [] n (aNR a b defs fuel q)=MH k (o3 Z) a b defs fuel n q:=cF (sq k (o3 Z) a b defs fuel)
end
theorem aNy (ho:ai o):Tl o 12 (axj k:Rw S):=BZ (aKq k) rfl (yn o func18 (by kernel_rfl)) ⟨FK k ho,aNe o ho k,trivial⟩ func12 (by kernel_rfl) fun defs a b fuel Z x h=>o0 (b:=aNn k (o3 Z) (fun q=>(aKq k).lp Z 2 [] k (aNR a b defs fuel q)) defs a b fuel) (by kernel_rfl) (o0 (by simp only [aOl];rfl) (al h))
def aKe:Rw S:=aj cn xn fun Z=>aa k (ih k) (F9 Z)
def aKr:Fx S:=fp 41 [(12,axj k),(15,F_ k)] [] k f7 0
theorem aKA (ho:ai o):Tl o 7 (aKe k:Rw S):=ou (aKr k) ⟨aNy k ho,eX0 k ho,trivial⟩ func7 fun Z x h=>px h
def u' (hd:gY S):Rw S:=aj Ag xn fun t ot Z=>hd t ot (da Z)
def SZ (hd:gY S) (k:Nat):Fx S:=fp 119 [(16,u' hd)] [(5,aS [1,2,5,6] [(2,6)],ap 6 23),(9,aS [1,2,5,7] [(2,6)],ap 7 47),(15,aS [1,2,5,7,8] [(2,6)],ap 15 14639)] k f16 0
def aJ7 (t:Tm) (ot:Int) (v5 i6:Int):St UU:=⟨[(1,(iI ot)),(2,(pt 2)),(5,(iI v5)),(6,(iI i6))],[(2,bT t)],[],[]⟩
def fD (t:Tm) (ot:Int) (q i7:Int):St UU:=⟨[(1,(iI ot)),(2,(pt 2)),(5,(iI q)),(7,(iI i7))],[(2,bT t)],[],[]⟩
def aNS (t:Tm) (ot i7:Int) (q x:Int):St UU:=⟨[(1,(iI ot)),(2,(pt 2)),(5,(iI q)),(7,(iI i7)),(8,(iI x))],[(2,bT t)],[],[]⟩
section
variable (hd:gY S) (k:Nat) (t:Tm) (ot:Int) (Z:Out UU->Option S)
theorem aOn (i7 Z1): ∀n q z,(SZ hd k).lp Z 15 [Z1] n (aNS t ot i7 q z)=kA hd k (da Z) (fun x i7=>Z1 (fD t ot x i7)) t ot i7 n q z:=aL (xL hd k (da Z) t ot i7 (fun x i7=>Z1 (fD t ot x i7)))
theorem aOm: ∀n q i7,(SZ hd k).lp Z 9 [] n (fD t ot q i7)=jl hd k (da Z) t ot n q i7:=aL (fun own=>sS hd k (da Z) t ot (fun i7 x z=>kA hd k (da Z) own t ot i7 k x z) own) rfl (fun _=>rfl) fun r q i7=>o0 (b:=sS hd k (da Z) t ot (fun i7 x z=>(SZ hd k).lp Z 15 [r] k (aNS t ot i7 x z)) (fun q i7=>r (fD t ot q i7)) q i7) (by kernel_rfl) (by simp only [aOn])
theorem aKv: ∀n v5 i6,(SZ hd k).lp Z 5 [] n (aJ7 t ot v5 i6)=nQ hd k (da Z) t ot n v5 i6:=aL (fun own=>l0 hd k (da Z) t ot (fun q i7=>jl hd k (da Z) t ot k q i7) own) rfl (fun _=>rfl) fun r v5 i6=>o0 (b:=l0 hd k (da Z) t ot (fun q i7=>(SZ hd k).lp Z 9 [] k (fD t ot q i7)) (fun v5 i6=>r (aJ7 t ot v5 i6)) v5 i6) (by kernel_rfl) (by simp only [aOm])
end
theorem hr (o:Obj) (ho:ai o): ∀k:Nat,Tl o 16 (u' (gE k:gY S))
 |0=>dz fun t ot Z x h=>by cases h
 |k+1=>ou (SZ (gE k) k) ⟨hr o ho k,trivial⟩ func16 fun t ot Z x h=>o0 (b:=Io (gE k) k (da Z) (fun v5 i6=>(SZ (gE k) k).lp Z 5 [] k (aJ7 t ot v5 i6)) t ot) (by kernel_rfl) (o0 (by simp only [aKv];rfl) h)
def aKf:Rw S:=aj Ez xn fun t Z=>aa k (A' k t) (F9 Z)
def aKs:Fx S:=fp 6 [(16,u' (gE k))] [] k f8 0
theorem aKB (ho:ai o):Tl o 8 (aKf k:Rw S):=ou (aKs k) ⟨hr o ho k,trivial⟩ func8 fun t Z x h=>px h
def aKg:Rw S:=aj Ez xn fun t Z=>aa k (lo k t) (F9 Z)
def aJK:Fx S:=fp 6 [(16,u' (gE k))] [] k f17 0
theorem aKC (ho:ai o):Tl o 17 (aKg k:Rw S):=ou (aJK k) ⟨hr o ho k,trivial⟩ func17 fun t Z x h=>px h
def aKh:Rw S:=aj aKN xn fun l Z=>aa k (kl k l) (F9 Z)
def aKt:Fx S:=fp 24 [(17,aKg k)] [(4,aS [8,9,10] [],ap 5 11)] k f9 0
def aNT (l:List Df) (qk:Int):St UU:=⟨[(8,(su l .none)),(9,(iI l.length)),(10,(iI qk))],[],[],[]⟩
section
variable (k:Nat) (l:List Df) (Z:Out UU->Option S)
theorem aOo: ∀n qk,(aKt k).lp Z 4 [] n (aNT l qk)=Sw k (F9 Z) l n qk:=cF (bt k (F9 Z) l)
end
theorem aKD (ho:ai o):Tl o 9 (aKh k:Rw S):=ou (aKt k) ⟨aKC k ho,trivial⟩ func9 fun l Z x h=>o0 (b:=aAk k (F9 Z) (fun qk=>(aKt k).lp Z 4 [] k (aNT l qk)) l) (by kernel_rfl) (o0 (by simp only [aOo];rfl) (al h))
def aLl:Rw S:=aj aKN xn fun l Z=>aa k (L' k l) (x' Z)
def aFI:Fx S:=fp 18 [] [(3,⟨[(3,ql 100003),(6,nM),(7,nM),(8,nM)],[]⟩,ap 5 11)] k f10 0
def aLf (l:List Df) (q:List Df) (x:Int):St UU:=⟨[(3,(.own 100003 0)),(6,(su l .none)),(7,(iI l.length)),(8,(iI x))],[],[(100003,⟨0,ET.D,q⟩)],[(100003,.wr)]⟩
section
variable (k:Nat) (l:List Df) (Z:Out UU->Option S)
theorem aLG: ∀n q x,(aFI k).lp Z 3 [] n (aLf l q x)=zs k (x' Z) l n q x:=aL (x8 k (x' Z) l)
end
theorem aOx (ho:ai o):Tl o 10 (aLl k:Rw S):=ou (aFI k) trivial func10 fun l Z x h=>o0 (b:=aAj k (x' Z) (fun q z=>(aFI k).lp Z 3 [] k (aLf l q z)) l) (by kernel_rfl) (o0 (by simp only [aLG];rfl) (al h))
def aKQ:Rw S:=aj Mw xn fun qm Z=>aa k (et k qm) (da Z)
def aLE:Fx S:=fp 12 [] [] k f11 0
theorem aLM (ho:ai o):Tl o 11 (aKQ k:Rw S):=ou (aLE k) trivial func11 fun qm Z x h=>px h
def ht:Rw S:=aj aOL xn fun defs a b c fuel Z=>aa k (hR k defs a b c fuel) (F9 Z)
def aKu:Fx S:=fp 132 [(7,aKe k),(8,aKf k),(9,aKh k),(10,aLl k),(11,aKQ k),(12,axj k),(14,PK k),(15,F_ k)] [(11,⟨[(11,nM),(109,some (100109,false)),(110,nM),(111,nM)],[]⟩,ap 10 383)] k f6 0
def aSk (q tf r13 r14 x z A B E F I J:Int×Int×ByteArray×List Tm) (M:List Df) (L:Int):St UU:=⟨[(11,(km M .none)),(109,(.own 100109 0)),(110,(.int .i64 ([(Pt.mk (Tm.mk q.1 q.2.1 q.2.2.1 [] q.2.2.2 []) (Tm.mk tf.1 tf.2.1 tf.2.2.1 [] tf.2.2.2 [])),(Pt.mk (Tm.mk r13.1 r13.2.1 r13.2.2.1 [] r13.2.2.2 []) (Tm.mk r14.1 r14.2.1 r14.2.2.1 [] r14.2.2.2 [])),(Pt.mk (Tm.mk x.1 x.2.1 x.2.2.1 [] x.2.2.2 []) (Tm.mk z.1 z.2.1 z.2.2.1 [] z.2.2.2 [])),(Pt.mk (Tm.mk A.1 A.2.1 A.2.2.1 [] A.2.2.2 []) (Tm.mk B.1 B.2.1 B.2.2.1 [] B.2.2.2 [])),(Pt.mk (Tm.mk E.1 E.2.1 E.2.2.1 [] E.2.2.2 []) (Tm.mk F.1 F.2.1 F.2.2.1 [] F.2.2.2 [])),(Pt.mk (Tm.mk I.1 I.2.1 I.2.2.1 [] I.2.2.2 []) (Tm.mk J.1 J.2.1 J.2.2.1 [] J.2.2.2 []))].length:Int))),(111,(iI L))],[],[(100109,⟨0,ET.P,[(Pt.mk (Tm.mk q.1 q.2.1 q.2.2.1 [] q.2.2.2 []) (Tm.mk tf.1 tf.2.1 tf.2.2.1 [] tf.2.2.2 [])),(Pt.mk (Tm.mk r13.1 r13.2.1 r13.2.2.1 [] r13.2.2.2 []) (Tm.mk r14.1 r14.2.1 r14.2.2.1 [] r14.2.2.2 [])),(Pt.mk (Tm.mk x.1 x.2.1 x.2.2.1 [] x.2.2.2 []) (Tm.mk z.1 z.2.1 z.2.2.1 [] z.2.2.2 [])),(Pt.mk (Tm.mk A.1 A.2.1 A.2.2.1 [] A.2.2.2 []) (Tm.mk B.1 B.2.1 B.2.2.1 [] B.2.2.2 [])),(Pt.mk (Tm.mk E.1 E.2.1 E.2.2.1 [] E.2.2.2 []) (Tm.mk F.1 F.2.1 F.2.2.1 [] F.2.2.2 [])),(Pt.mk (Tm.mk I.1 I.2.1 I.2.2.1 [] I.2.2.2 []) (Tm.mk J.1 J.2.1 J.2.2.1 [] J.2.2.2 []))]⟩)],[(100109,.app)]⟩
section
variable (k:Nat) (defs:List Df) (a b c:Tm) (fuel:Int) (Z:Out UU->Option S)
theorem aS8 (x tf r13 r14 z A B E F I J L M): ∀n q,(aKu k).lp Z 11 [] n (aSk x tf r13 r14 z A B E F I J L M q)=qp k (F9 Z) x tf r13 r14 z A B E F I J L M n q:=cF (r9 k (F9 Z) x tf r13 r14 z A B E F I J L M)
end
theorem aKE (ho:ai o):Tl o 6 (ht k:Rw S):=ou (aKu k) ⟨aKA k ho,aKB k ho,aKD k ho,aOx k ho,aLM k ho,aNy k ho,FK k ho,eX0 k ho,trivial⟩ func6 fun defs a b c fuel Z x h=>o0 (b:=bf k (F9 Z) (fun z A r13 r14 B E F I J L M O T q=>(aKu k).lp Z 11 [] k (aSk z A r13 r14 B E F I J L M O T q)) defs a b c fuel) (by kernel_rfl) (o0 (by simp only [aS8];rfl) (al h))
theorem aTr (o:Obj) (ho:ai o) (k:Nat):Tl o 6 (ht k:Rw S):=aKE k ho
end
end
section
variable {S:Type} {k:Nat}
def bE {α β:Type} (x:Except Int α) (f:α->Except Int β):Except Int β:=match x with
 | .error e=> .error e
 | .ok a=>f a
theorem aD {α β:Type} (a:α) (f:α->Except Int β):bE (.ok a) f=f a:=rfl
theorem lk {α β:Type} (e:Int) (f:α->Except Int β):bE (.error e) f= .error e:=rfl
theorem i8 {α β:Type} {x:Except Int α} {f:α->Except Int β} {b:β} (h:bE x f= .ok b): ∃a,x= .ok a/\f a= .ok b:=by
 cases x with
 |error e=>cases h
 |ok a=>exact ⟨a,rfl,h⟩
theorem be {α β:Type} {x:Except Int α} {f:α->Except Int β} {e:Int} (h:bE x f= .error e):x= .error e\/ ∃a,x= .ok a/\f a= .error e:=by
 cases x with
 |error e=>injection h with h;grind
 |ok a=>exact .inr ⟨a,rfl,h⟩
def eW (x:LC×Int):Except Int (LC):=if x.2=0 then .ok x.1 else .error x.2
theorem jF {x:LC×Int} (h:x.2=0):eW x= .ok x.1:=if_pos h
theorem iO {x:LC×Int} (h:x.2≠0):eW x= .error x.2:=if_neg h
theorem rR {x:LC×Int} {l:LC} (h:eW x= .ok l):x.2=0/\x.1=l:=by
 grind [eW]
theorem q4 {x:LC×Int} {e:Int} (h:eW x= .error e):x.2≠0/\x.2=e:=by
 grind [eW]
def EN (e:Int):Prop:=0<=e/\e<=1000
theorem uq:EN 0:=by unfold EN;omega
theorem lO:EN 2:=by unfold EN;omega
theorem en3:EN 3:=by unfold EN;omega
theorem acI:EN 10:=by unfold EN;omega
theorem x0 (l:LC):EN (bp l).2:=by
 grind [bp,en3,uq,lO]
theorem z8 {step:LC->Cl->LC×Int} (hs: ∀h c,EN (step h c).2): ∀ {r h:LC},EN (xK step h r).2:=by
 intro r
 induction r<;>grind [uq,xK]
theorem agu (s i b:Int):EN (Db s i b).2:=by
 grind [Db,lO,LV,uq,acI]
theorem agk (c:Cl) (i b:Int):EN (dw c i b).2:=by
 grind [dw,agu,lO]
theorem q_ (f:LC) (i b:Int):EN (tb f i b).2:=by
 unfold tb
 split
 ·split
  ·exact x0 _
  ·exact z8 fun h c=>agk c i b
 ·exact lO
theorem T8 {n b x y:Nat} (h:eU n b x=eU n b y):x=y:=by
 grind [eU]
theorem ak2 (n b:Nat) {l:List Nat} (h:l.Nodup):(l.map (eU n b)).Nodup:=
 List.Pairwise.map (S:=fun a b=>a≠b) (R:=fun a b=>a≠b) _ (fun x y q h=>q (T8 h)) h
theorem ags {m n b:Nat} (h:(LV m n b).2=0) (j:Nat):(LV m n b).1.testBit j=true↔ ∃x,x<24/\m.testBit x=true/\eU n b x=j:=by
 rw [Fg] at h ⊢
 split<;>grind [oG,ak2,oY,sP]
theorem ZC {m:Nat} (h:m<16777216):m&&&xA=m:=by
 apply Nat.eq_of_testBit_eq
 grind [g8,oZ]
theorem acY {i b:Int}: ∀ {r h:LC},(xK (dK i b) h r).2=0->(∀c∈r,(dw c i b).2=0)/\(xK (dK i b) h r).1=h++r.map fun c=>(dw c i b).1:=by
 intro r
 induction r<;>grind [xK,dK]
theorem agn {f:LC} {i b:Int} (h:(tb f i b).2=0): ∀c∈(tb f i b).1,∃d∈f,(dw d i b).2=0/\c=(dw d i b).1:=by
 grind [tb,acY,bp,ta]
theorem ZY {c:Cl}:bS c=false↔ ∀j,¬ (c.pos.toNat.testBit j=true/\c.neg.toNat.testBit j=true):=by
 unfold bS
 rw [Bool.not_eq_false',decide_eq_true_eq]
 constructor
 ·intro h j ⟨h1,h2⟩
  have:(c.pos.toNat&&&c.neg.toNat).testBit j=true:=by grind
  grind
 ·intro h
  apply Nat.eq_of_testBit_eq
  grind
theorem agt {s i b:Int} (h:(Db s i b).2=0) {j:Nat} (hj:(Db s i b).1.toNat.testBit j=true): ∃x,s.toNat.testBit x=true/\eU i.toNat b.toNat x=j:=by
 unfold Db at h hj
 split at h
 ·cases h
 ·next hn=>
  rw [if_neg hn] at hj
  have h':(LV s.toNat i.toNat b.toNat).2=0:=by
   omega
  obtain ⟨x,_,h2,q⟩:=(ags h' j).1 hj
  grind
theorem agj {c:Cl} {i b:Int} (h:(dw c i b).2=0) (hc:bS c=false):bS (dw c i b).1=false:=by
 grind [ZY,dw,agt,T8]
def EZ (d b:Int) (f:LC):Except Int (LC):=if b=0\/d>=24 then .ok f else eW (tb f d b)
theorem GY {d b:Int} {f g:LC} (hf:RF f) (h:EZ d b f= .ok g):RF g:=by
 grind [EZ,rR,kQ]
theorem Bq {d b:Int} {f:LC} {e:Int} (h:EZ d b f= .error e):0<e/\e<=1000:=by
 grind [EZ,q4,q_,EN]
theorem aiw {d b:Int} {f g:LC} (hf:f.all (fun c=> !bS c)=true) (h:EZ d b f= .ok g):g.all (fun c=> !bS c)=true:=by
 grind [EZ,rR,agn,agj]
theorem Bt (d b:Int):EZ d b []= .ok []:=by
 unfold EZ
 split
 all_goals rfl
mutual
def uC (vb db v d:Int):Tm->Except Int Tm
 | .mk kd n nm r z sys=>
  if kd=1/\n>=v/\n>1000000000-vb then .error 100
  else bE (EZ d db r) fun A=>bE (dm vb db v d kd 0 z) fun x=>bE (HW vb db v d kd sys) fun q=> .ok (.mk kd (if kd=1/\n>=v then n+vb else n) nm A x q)
def dm (vb db v d kd:Int) (i:Nat):LT->Except Int (LT)
 |[]=> .ok []
 |t::l=>bE (uC vb db (v+Am kd i) (d+bJ kd i) t) fun t'=>bE (dm vb db v d kd (i+1) l) fun q=> .ok (t'::q)
def HW (vb db v d kd:Int):LB->Except Int (LB)
 |[]=> .ok []
 |b::l=>bE (n8 vb db v d kd b) fun q=>bE (HW vb db v d kd l) fun x=> .ok (q::x)
def n8 (vb db v d kd:Int):Br Tm->Except Int (Br Tm)
 | .mk f x=>bE (EZ d db f) fun z=>bE (H6 vb db v d kd x) fun q=> .ok (.mk z q)
def H6 (vb db v d kd:Int):LT->Except Int (LT)
 |[]=> .ok []
 |t::l=>bE (uC vb db v (d+av kd) t) fun t'=>bE (H6 vb db v d kd l) fun q=> .ok (t'::q)
end
mutual
def q7:Tm->Prop
 | .mk kd n nm r q sys=>(RF r/\(kd=1->r=[])/\0<=kd)/\dQ q/\eA sys
def dQ:LT->Prop
 |[]=>True
 |t::l=>q7 t/\dQ l
def eA:LB->Prop
 |[]=>True
 |b::l=>mZ b/\eA l
def mZ:Br Tm->Prop
 | .mk f q=>RF f/\dQ q
end
theorem xR: ∀ {l:LT},dQ l↔ ∀t∈l,q7 t:=by
 intro l
 induction l<;>grind [dQ]
theorem G3 {b:Br Tm}:mZ b↔RF b.f/\ ∀t∈b.c,q7 t:=by cases b;rw [mZ,xR]
theorem FE: ∀ {l:LB},eA l↔ ∀b∈l,RF b.f/\ ∀t∈b.c,q7 t:=by
 intro l
 induction l<;>grind [eA,G3]
inductive F2 {α β:Type} (R:α->β->Prop):List α->List β->Prop
 |nil:F2 R [] []
 |cons {a:α} {b:β} {l:List α} {m:List β}:R a b->F2 R l m->F2 R (a::l) (b::m)
theorem F2.len {α β:Type} {R:α->β->Prop} {l:List α} {m:List β} (h:F2 R l m):m.length=l.length:=by
 induction h<;>grind
theorem F2.imp {α β:Type} {R Q:α->β->Prop} {l:List α} {m:List β} (h:F2 R l m) (q: ∀a b,R a b->Q a b):F2 Q l m:=by
 induction h<;>grind [nil,cons]
theorem ago {vb db v d kd:Int} {R:Tm->Tm->Prop}: ∀ {l:LT} {i:Nat} {l':LT},(∀x∈l,∀v d q,uC vb db v d x= .ok q->R x q)->dm vb db v d kd i l= .ok l'->F2 R l l':=by
 intro l
 induction l with
 |nil=>intro i l' _ h;rw [dm] at h;injection h with h;subst h;exact .nil
 |cons t l A=>
  intro i l' z h
  rw [dm] at h
  obtain ⟨t',h1,h⟩:=i8 h
  obtain ⟨m,h2,h⟩:=i8 h
  injection h with h;subst h
  exact .cons (z t (by simp) _ _ _ h1) (A (fun x B=>z x (by simp [B])) h2)
theorem agp {vb db v d kd:Int} {R:Tm->Tm->Prop}: ∀ {l:LT} {l':LT},(∀x∈l,∀v d q,uC vb db v d x= .ok q->R x q)->H6 vb db v d kd l= .ok l'->F2 R l l':=by
 intro l
 induction l with
 |nil=>intro l' _ h;rw [H6] at h;injection h with h;subst h;exact .nil
 |cons t l A=>
  intro l' z h
  rw [H6] at h
  obtain ⟨t',h1,h⟩:=i8 h
  obtain ⟨m,h2,h⟩:=i8 h
  injection h with h;subst h
  exact .cons (z t (by simp) _ _ _ h1) (A (fun x B=>z x (by simp [B])) h2)
theorem agv {vb db v d kd:Int} {R:Tm->Tm->Prop}: ∀ {l l':LB},(∀b∈l,∀x∈b.c,∀v d z,uC vb db v d x= .ok z->R x z)->HW vb db v d kd l= .ok l'->
  F2 (fun b q=>EZ d db b.f= .ok q.f/\F2 R b.c q.c) l l':=by
 intro l
 induction l with
 |nil=>intro l' _ h;rw [HW] at h;injection h with h;subst h;exact .nil
 |cons b l B=>
  intro l' A h
  rw [HW] at h
  obtain ⟨q,h1,h⟩:=i8 h
  obtain ⟨m,h2,h⟩:=i8 h
  injection h with h;subst h
  cases b with
  |mk f E=>
   rw [n8] at h1
   obtain ⟨L,F,h1⟩:=i8 h1
   obtain ⟨I,J,h1⟩:=i8 h1
   injection h1 with h1;subst h1
   exact .cons ⟨F,agp (A ⟨f,E⟩ (by simp)) J⟩ (B (fun b hb=>A b (by simp [hb])) h2)
theorem Av {f:LC} {d:Int} (h:24<=d):dg f d=true:=by
 grind [dg,sP]
def Up (x q:Tm):Prop:=am q=am x/\au q=au x/\q.k=x.k/\(pf x->pf q/\(q7 x->q7 q)/\ ∀A z,24<=A->24<=z->rf false (-1) A x=true->rf false (-1) z q=true)
theorem Ua {l l':LT} (h:F2 Up l l'):aH l'=aH l:=by
 induction h with
 |nil=>rfl
 |cons h1 _ q=>rw [aH,aH,h1.1,q]
theorem Ud {l l':LT} (h:F2 Up l l'):ay l'=ay l:=by
 induction h with
 |nil=>rfl
 |cons h1 _ q=>rw [ay,ay,h1.2.1,q]
theorem ala {l l':LB} (h:F2 (fun b q:Br Tm=>F2 Up b.c q.c) l l'):aO l'=aO l:=by
 induction h with
 |nil=>rfl
 |cons h1 _ x=>grind [aO,pD,Ua]
theorem alb {l l':LB} (h:F2 (fun b q:Br Tm=>F2 Up b.c q.c) l l'):aI l'=aI l:=by
 induction h with
 |nil=>rfl
 |cons h1 _ x=>grind [aI,kZ,Ud]
theorem Ub {l l':LT} (h:F2 Up l l'):aZ l->aZ l':=by
 induction h with
 |nil=>exact id
 |cons h1 _ q=>rw [aZ,aZ];exact fun h=>⟨(h1.2.2.2 h.1).1,q h.2⟩
theorem Uc {l l':LT} (h:F2 Up l l'):aZ l->dQ l->dQ l':=by
 induction h with
 |nil=>simp
 |cons h1 _ q=>rw [aZ,dQ,dQ];exact fun h g=>⟨(h1.2.2.2 h.1).2.1 g.1,q h.2 g.2⟩
theorem B2 (v:Int):cQ (-1) v= -1:=by rfl
theorem ak9 {kd x q:Int} (h1:24<=x) (h2:24<=q) {l l':LT} (h:F2 Up l l'): ∀ {i:Nat},aZ l->bO false (-1) x kd i l=true->bO false (-1) q kd i l'=true:=by
 induction h with
 |nil=>exact fun _ h=>h
 |cons z _ A=>
  intro i
  rw [aZ,bO,bO,pX,pX,B2]
  have:=gr kd i
  exact fun h g=>⟨(z.2.2.2 h.1).2.2 _ _ (by omega) (by omega) g.1,A h.2 g.2⟩
theorem ak_ {kd x q:Int} (h1:24<=x) (h2:24<=q) {l l':LT} (h:F2 Up l l'):aZ l->ca false (-1) x kd l=true->ca false (-1) q kd l'=true:=by
 induction h with
 |nil=>exact fun _ h=>h
 |cons z _ A=>
  rw [aZ,ca,ca,pX,pX]
  have:=KZ kd
  exact fun h g=>⟨(z.2.2.2 h.1).2.2 _ _ (by omega) (by omega) g.1,A h.2 g.2⟩
def oN (d db:Int) (b q:Br Tm):Prop:=EZ d db b.f= .ok q.f/\F2 Up b.c q.c
theorem QG {d db:Int} {f g:LC} (h:EZ d db f= .ok g) (hf:aq f) (hl:f.length<1073741824):aq g/\g.length<1073741824:=by
 unfold EZ at h
 split at h
 ·grind
 ·obtain ⟨h1,rfl⟩:=rR h
  have:=kQ h1
  exact ⟨this.2,by have:=this.len;omega⟩
theorem QH {d db:Int} {f g:LC} (h:EZ d db f= .ok g) (hf:aq f) (q:xV f=true):xV g=true:=(GY ((L8 hf).1 q) h).right
theorem QF {d db:Int} {f g:LC} (h:EZ d db f= .ok g) (hf:aq f) (q:cV f=true):cV g=true:=by
 grind [cV,QH,aiw]
theorem aiv {d db:Int} {f g:LC} (h:EZ d db f= .ok g) (hf:f.length=0):g.length=0:=by
 grind [Bt]
theorem ak6 {d db:Int} {l l':LB} (h:F2 (oN d db) l l'):ba l->ba l':=by
 induction h with
 |nil=>exact id
 |cons h1 _ x=>
  rw [ba,ba,oh,oh]
  intro h
  have q:=QG h1.1 h.1.1.1 h.1.1.2.1
  exact ⟨⟨⟨q.1,q.2,by have:=h1.2.len;omega⟩,vf.1 (Ub h1.2 (vf.2 h.1.2))⟩,x h.2⟩
theorem ak8 {d db:Int} {l l':LB} (h:F2 (oN d db) l l'):ba l->eA l->eA l':=by
 induction h with
 |nil=>simp
 |cons h1 _ q=>
  rw [ba,oh,eA,eA,G3,G3]
  intro h g
  exact ⟨⟨GY g.1.1 h1.1,xR.1 (Uc h1.2 (vf.2 h.1.2) (xR.2 g.1.2))⟩,q h.2 g.2⟩
theorem ak5 {d db kd x q:Int} (h1:24<=x) (h2:24<=q) {l l':LB} (h:F2 (oN d db) l l'):ba l->ck false (-1) x kd l=true->ck false (-1) q kd l'=true:=by
 induction h with
 |nil=>exact fun _ h=>h
 | @cons a b _ _ z _ A=>
  rw [ba,oh,ck,ck,pX,pX]
  intro h g
  refine ⟨?_,A h.2 g.2⟩
  cases a;cases b
  have g1:=g.1
  rw [jT] at g1 ⊢
  exact ak_ h1 h2 z.2 (vf.2 h.1.2) g1
theorem ak7 {d db kd x q:Int} (h1:24<=x) (h2:24<=q) {l l':LB} (h:F2 (oN d db) l l'):ba l->l.all (bX kd x)=true->l'.all (bX kd q)=true:=by
 induction h with
 |nil=>simp
 | @cons a b _ _ z _ A=>
  rw [ba,oh,List.all_cons,List.all_cons,pX,pX]
  intro h g
  refine ⟨?_,A h.2 g.2⟩
  have g1:=g.1
  unfold bX at g1 ⊢
  rw [pX,pX,decide_eq_true_eq] at g1 ⊢
  rw [z.2.len]
  exact ⟨g1.1,QF z.1 h.1.1.1 g1.2.1,Av h2⟩
theorem T_ {d db:Int} {l l':LB} (h:F2 (oN d db) l l'):F2 (fun b q:Br Tm=>F2 Up b.c q.c) l l':=h.imp fun _ _ h=>h.2
theorem uP {vb db:Int} (W:0<=vb) (T:vb<=1000000000) (t:Tm): ∀v d t',uC vb db v d t= .ok t'->Up t t':=by
 induction t using gq with
 |h kd n nm r Y sys F I=>
  intro v d t' h
  rw [uC] at h
  split at h
  ·cases h
  next hv=>
  obtain ⟨r',hr,h⟩:=i8 h
  obtain ⟨J,hk,h⟩:=i8 h
  obtain ⟨z,hs,h⟩:=i8 h
  injection h with h;subst h
  have E:F2 Up Y J:=ago (fun x L v d M=>F x L v d M) hk
  have fs:F2 (oN d db) sys z:=agv (fun b hb x L v d M=>I b hb x L v d M) hs
  refine ⟨?_, ?_,rfl,fun A=> ?_⟩
  ·grind [am,Ua,ala,T_]
  ·grind [au,Ud,alb,T_]
  ·obtain ⟨o1,o2,o3,o4,o5,o6,o7⟩:=A.node
   have q:=A
   rw [pf] at q
   obtain ⟨_,ok,os⟩:=q
   have B:=QG hr o4 o5
   have O:=o2
   unfold aG at O
   refine ⟨?_, ?_, ?_⟩
   ·rw [pf]
    refine ⟨⟨o1, ?_,o3,B.1,B.2,by rw [E.len];exact o6,by rw [fs.len];exact o7⟩,Ub E ok,ak6 fs os⟩
    grind [aG]
   ·grind [q7,GY,Uc,ak8,Bt]
   ·intro dd ad h1 h2
    rw [rf,rf]
    simp only [Bool.false_and,sQ,Bool.true_and,pX]
    rintro ⟨a,b,c⟩
    refine ⟨?_,ak9 h1 h2 E ok b,ak5 h1 h2 fs os c⟩
    unfold cL at a ⊢
    simp only [pX,decide_eq_true_eq,E.len,fs.len] at a ⊢
    grind [aiv,QH,Av,QF,ak7]
theorem aed {kd:Int} {n:Nat} (h:ct kd=n):0<=kd:=by
 grind [ct]
theorem ZA {bd:Bool} (t:Tm): ∀ {vars nP:Int},pf t->rf bd vars nP t=true->q7 t:=by
 induction t using gq with
 |h kd n nm r W sys J L=>
  intro vars nP B h
  rw [rf,pX,pX,pX] at h
  obtain ⟨_,a,b,c⟩:=h
  obtain ⟨Y,o2,o3,O,o5,o6,o7⟩:=B.node
  have A:=B
  rw [pf] at A
  obtain ⟨_,ok,os⟩:=A
  have E: ∀ {l:LT} {i:Nat},(∀x∈l,∀ {vars nP:Int},pf x->rf bd vars nP x=true->q7 x)->aZ l->bO bd vars nP kd i l=true->dQ l:=by
   intro l
   induction l<;>grind [dQ,bO,aZ]
  rw [wH,xm] at c
  unfold cL at a
  simp only [pX,decide_eq_true_eq] at a
  obtain ⟨⟨a1,a2,a3,a4⟩,a5⟩:=a
  have T: ∀ {l:LC},l.length=0->RF l:=fun h=>by
   grind [rA]
  rw [q7]
  have q:(sys=[]\/sys.all (bX kd nP)=true)/\RF r/\(kd=1->r=[]):=by
   have z:xU kd=0->sys=[]:=fun h=>Iy.1 (a4 h)
   by_cases c1:kd=1
   ·rw [if_pos c1] at a5
    simp only [pX,decide_eq_true_eq] at a5
    exact ⟨.inl (z (by subst c1;decide)),T a5.1,fun _=>Iy.1 a5.1⟩
   ·rw [if_neg c1] at a5
    by_cases c2:kd=2
    ·rw [if_pos c2] at a5
     simp only [pX,decide_eq_true_eq] at a5
     exact ⟨.inl (z (by subst c2;decide)),T a5.1,fun h=>absurd h c1⟩
    ·rw [if_neg c2] at a5
     by_cases c3:kd=13\/kd=21\/kd=26
     ·rw [if_pos c3,pX] at a5
      exact ⟨.inl (z (by rcases c3 with rfl|rfl|rfl<;>decide)),(L8 O).1 a5.1,fun h=>absurd h c1⟩
     ·rw [if_neg c3] at a5
      by_cases c4:kd=14
      ·rw [if_pos c4,pX] at a5
       unfold cV at a5
       rw [pX] at a5
       exact ⟨.inl (z (by subst c4;decide)),(L8 O).1 a5.1.1,fun h=>absurd h c1⟩
      grind
  refine ⟨⟨q.2.1,q.2.2,aed a1⟩,E (fun x I=>J x I) ok b, ?_⟩
  rw [FE]
  intro br F
  have hc:=c br F
  rw [xm] at hc
  have M:=B.br F
  refine ⟨?_,fun x I=>L br F x I (M.2 x I) (hc x I)⟩
  rcases q.1 with h|h<;>grind [bX,cV,L8]
theorem M0 {vb db:Int} (t:Tm): ∀ {v d e},uC vb db v d t= .error e->0<e/\e<=1000:=by
 induction t using gq with
 |h kd n nm r L sys F I=>
  intro v d e h
  rw [uC] at h
  split at h
  ·grind
  rcases be h with h|⟨_,_,h⟩
  ·exact Bq h
  have z: ∀ {l:LT} {i:Nat},(∀x∈l,∀ {v d e},uC vb db v d x= .error e->0<e/\e<=1000)->dm vb db v d kd i l= .error e->0<e/\e<=1000:=by
   intro l
   induction l with
   |nil=>grind [dm]
   |cons t l A=>
    intro i hl h
    rw [dm] at h
    rcases be h with h|⟨_,_,h⟩
    ·exact hl t (by simp) h
    grind [be]
  have q: ∀ {l:LT},(∀x∈l,∀ {v d e},uC vb db v d x= .error e->0<e/\e<=1000)-> ∀ {e},H6 vb db v d kd l= .error e->0<e/\e<=1000:=by
   intro l
   induction l with
   |nil=>grind [H6]
   |cons t l A=>
    intro hl e h
    rw [H6] at h
    rcases be h with h|⟨_,_,h⟩
    ·grind
    ·rcases be h with h|⟨_,_,h⟩
     ·exact A (fun x J=>hl x (by simp [J])) h
     simp_all
  have E: ∀ {l:LB},(∀b∈l,∀x∈b.c,∀ {v d e},uC vb db v d x= .error e->0<e/\e<=1000)->HW vb db v d kd l= .error e->0<e/\e<=1000:=by
   intro l
   induction l with
   |nil=>grind [HW]
   |cons b l A=>
    intro hl h
    rw [HW] at h
    rcases be h with h|⟨_,_,h⟩
    ·cases b with
     |mk f B=>
      rw [n8] at h
      rcases be h with h|⟨_,_,h⟩
      ·exact Bq h
      ·rcases be h with h|⟨_,_,h⟩
       ·exact q (hl (Br.mk f B) (by simp)) h
       ·cases h
    grind [be]
  grind [be]
abbrev dC:=Int->LC->Except Int (LC)
mutual
def tZ (fo fa:dC) (d:Int):Tm->Except Int Tm
 | .mk kd n nm r z sys=>bE (if kd=14 then fa d r else fo d r) fun A=>bE (aig fo fa d kd 0 z) fun x=>bE (uD fo fa d kd sys) fun q=> .ok (.mk kd n nm A x q)
def aig (fo fa:dC) (d kd:Int) (i:Nat):LT->Except Int (LT)
 |[]=> .ok []
 |t::l=>bE (tZ fo fa (d+bJ kd i) t) fun t'=>bE (aig fo fa d kd (i+1) l) fun q=> .ok (t'::q)
def uD (fo fa:dC) (d kd:Int):LB->Except Int (LB)
 |[]=> .ok []
 |b::l=>bE (Jn fo fa d kd b) fun o=>bE (uD fo fa d kd l) fun q=> .ok (o++q)
def Jn (fo fa:dC) (d kd:Int):Br Tm->Except Int (LB)
 | .mk f z=>bE (fa d f) fun x=>if x.length=0 then .ok [] else bE (xy fo fa d kd z) fun q=> .ok [.mk x q]
def xy (fo fa:dC) (d kd:Int):LT->Except Int (LT)
 |[]=> .ok []
 |t::l=>bE (tZ fo fa (d+av kd) t) fun t'=>bE (xy fo fa d kd l) fun q=> .ok (t'::q)
end
theorem alf {fo fa:dC} {d kd:Int} {R:Tm->Tm->Prop}: ∀ {l:LT} {i:Nat} {l':LT},(∀x∈l,∀d q,tZ fo fa d x= .ok q->R x q)->aig fo fa d kd i l= .ok l'->F2 R l l':=by
 intro l
 induction l with
 |nil=>intro i l' _ h;rw [aig] at h;injection h with h;subst h;exact .nil
 |cons t l A=>
  intro i l' z h
  rw [aig] at h
  obtain ⟨t',h1,h⟩:=i8 h
  obtain ⟨m,h2,h⟩:=i8 h
  injection h with h;subst h
  exact .cons (z t (by simp) _ _ h1) (A (fun x B=>z x (by simp [B])) h2)
theorem alh {fo fa:dC} {d kd:Int} {R:Tm->Tm->Prop}: ∀ {l:LT} {l':LT},(∀x∈l,∀d q,tZ fo fa d x= .ok q->R x q)->xy fo fa d kd l= .ok l'->F2 R l l':=by
 intro l
 induction l with
 |nil=>intro l' _ h;rw [xy] at h;injection h with h;subst h;exact .nil
 |cons t l A=>
  intro l' z h
  rw [xy] at h
  obtain ⟨t',h1,h⟩:=i8 h
  obtain ⟨m,h2,h⟩:=i8 h
  injection h with h;subst h
  exact .cons (z t (by simp) _ _ h1) (A (fun x B=>z x (by simp [B])) h2)
def Wk (x q:Tm):Prop:=am q<=am x/\au q<=au x/\q.k=x.k/\(pf x->q7 x->pf q/\q7 q)
theorem Un {l l':LT} (h:F2 Wk l l'):aH l'<=aH l:=by
 induction h with
 |nil=>simp
 |cons h1 _ q=>rw [aH,aH];have:=h1.1;omega
theorem Uq {l l':LT} (h:F2 Wk l l'):ay l'<=ay l:=by
 induction h with
 |nil=>simp
 |cons h1 _ q=>rw [ay,ay];have:=h1.2.1;omega
theorem Uo {l l':LT} (h:F2 Wk l l'):aZ l->dQ l->aZ l'/\dQ l':=by
 induction h with
 |nil=>grind
 |cons h1 _ q=>
  rw [aZ,aZ,dQ,dQ]
  intro h g
  have a:=h1.2.2.2 h.1 g.1
  grind
theorem alk {fo fa:dC} {d kd:Int} (hfa: ∀d f g,RF f->fa d f= .ok g->RF g): ∀ {l l':LB},(∀b∈l,∀x∈b.c,∀d B,tZ fo fa d x= .ok B->Wk x B)->uD fo fa d kd l= .ok l'->
  aO l'<=aO l/\aI l'<=aI l/\l'.length<=l.length/\(ba l->eA l->ba l'/\eA l'):=by
 intro l
 induction l with
 |nil=>grind [uD]
 |cons b l I=>
  intro l' E h
  rw [uD] at h
  obtain ⟨o,h1,h⟩:=i8 h
  obtain ⟨m,h2,h⟩:=i8 h
  injection h with h;subst h
  obtain ⟨i1,i2,i3,i4⟩:=I (fun b hb=>E b (by simp [hb])) h2
  cases b with
  |mk f F=>
   rw [Jn] at h1
   obtain ⟨A,J,h1⟩:=i8 h1
   split at h1
   ·grind [aO,aI,ba,eA]
   ·obtain ⟨q,L,h1⟩:=i8 h1
    injection h1 with h1;subst h1
    have f2:F2 Wk F q:=alh (E ⟨f,F⟩ (by simp)) L
    have hd:=Un f2
    have hs:=Uq f2
    refine ⟨?_, ?_, ?_,fun ho z=> ?_⟩
    ·grind [aO,Ey]
    ·grind [aI,Fs]
    ·grind
    ·rw [ba,Fa] at ho;rw [eA,mZ] at z
     have a:=Uo f2 ho.1.2 z.1.2
     have b:=i4 ho.2 z.2
     have c:=hfa d f A z.1.1 J
     show ba (Br.mk A q::m)/\eA (Br.mk A q::m)
     rw [ba,Fa,eA,mZ]
     exact ⟨⟨⟨⟨c.2,by have:=c.len;omega,by rw [f2.len];simp_all⟩,a.1⟩,b.1⟩,⟨c,a.2⟩,b.2⟩
theorem Uj {fo fa:dC} (hfo: ∀d f g,RF f->fo d f= .ok g->RF g) (hfa: ∀d f g,RF f->fa d f= .ok g->RF g) (h0: ∀d,fo d []= .ok []) (t:Tm): ∀d t',tZ fo fa d t= .ok t'->Wk t t':=by
 induction t using gq with
 |h kd n nm r L sys E F=>
  intro d t' h
  rw [tZ] at h
  obtain ⟨M,hr,h⟩:=i8 h
  obtain ⟨I,hk,h⟩:=i8 h
  obtain ⟨J,hs,h⟩:=i8 h
  injection h with h;subst h
  have B:F2 Wk L I:=alf E hk
  obtain ⟨s1,s2,s3,O⟩:=alk hfa F hs
  refine ⟨?_, ?_,rfl,fun x A=> ?_⟩
  ·rw [am,am];have:=Un B;omega
  ·rw [au,au];have:=Uq B;omega
  ·rw [pf] at x;rw [q7] at A
   obtain ⟨⟨T,W,Y,o4,o5,o6,o7⟩,ok,os⟩:=x
   obtain ⟨⟨a,b,z⟩,c,e⟩:=A
   have hk:=Uo B ok c
   have hs:=O os e
   have q:RF M:=by
    grind
   rw [pf,q7]
   refine ⟨⟨⟨T,W,Y,q.2,by have:=q.len;omega,by rw [B.len];exact o6,by omega⟩,hk.1,hs.1⟩,⟨q,fun h1=> ?_,z⟩,hk.2,hs.2⟩
   grind
section
variable {fo fa:dC} {G:Int->LC->LC}
def DS (f:dC) (G:Int->LC->LC):dC:=fun d l=>bE (f d l) fun m=> .ok (G d m)
def j0 (G:Int->LC->LC):dC:=fun d l=> .ok (G d l)
theorem B5 (t:Tm): ∀d,∃t',tZ (j0 G) (j0 G) d t= .ok t':=by
 induction t using gq with
 |h kd n nm r A sys B E=>
  intro d
  have hk: ∀ {l:LT} {i:Nat},(∀x∈l,∀d,∃t',tZ (j0 G) (j0 G) d x= .ok t')-> ∃q,aig (j0 G) (j0 G) d kd i l= .ok q:=by
   intro l
   induction l with
   |nil=>simp_all [aig]
   |cons t l z=>
    intro i h
    obtain ⟨t',e⟩:=h t (by simp) (d+bJ kd i)
    obtain ⟨q,e'⟩:=z (i:=i+1) fun x F=>h x (by simp [F])
    grind [aig,aD]
  have L: ∀ {l:LT},(∀x∈l,∀d,∃t',tZ (j0 G) (j0 G) d x= .ok t')-> ∃q,xy (j0 G) (j0 G) d kd l= .ok q:=by
   intro l
   induction l with
   |nil=>simp_all [xy]
   |cons t l z=>
    intro h
    obtain ⟨t',e⟩:=h t (by simp) (d+av kd)
    obtain ⟨q,e'⟩:=z fun x F=>h x (by simp [F])
    grind [xy,aD]
  have hs: ∀ {l:LB},(∀b∈l,∀x∈b.c,∀d,∃t',tZ (j0 G) (j0 G) d x= .ok t')-> ∃q,uD (j0 G) (j0 G) d kd l= .ok q:=by
   intro l
   induction l with
   |nil=>simp_all [uD]
   |cons b l z=>
    intro h
    obtain ⟨q,e'⟩:=z fun b hb=>h b (by simp [hb])
    cases b with
    |mk f A=>
     obtain ⟨I,e⟩:=L (h ⟨f,A⟩ (by simp))
     have: ∃o,Jn (j0 G) (j0 G) d kd (.mk f A)= .ok o:=by
      grind [Jn,j0,aD]
     grind [uD,aD]
  obtain ⟨I,M⟩:=hk (i:=0) B
  obtain ⟨J,es⟩:=hs E
  simp_all [j0,tZ,aD]
theorem alg (d kd:Int): ∀ (l:LT) (i:Nat),∃l',aig (j0 G) (j0 G) d kd i l= .ok l':=by
 intro l
 induction l with
 |nil=>simp_all [aig]
 |cons t l q=>
  intro i
  obtain ⟨t',e⟩:=B5 (G:=G) t (d+bJ kd i)
  obtain ⟨l',e'⟩:=q (i+1)
  grind [aig,aD]
theorem Ui (d kd:Int): ∀ (l:LT),∃l',xy (j0 G) (j0 G) d kd l= .ok l':=by
 intro l
 induction l with
 |nil=>simp_all [xy]
 |cons t l q=>
  obtain ⟨t',e⟩:=B5 (G:=G) t (d+av kd)
  grind [xy,aD]
theorem ale (d kd:Int) (b:Br Tm): ∃o,Jn (j0 G) (j0 G) d kd b= .ok o:=by
 cases b with
 |mk f q=>
  obtain ⟨x,e⟩:=Ui (G:=G) d kd q
  rw [Jn,j0,aD]
  split<;>simp_all [aD]
theorem alj (d kd:Int): ∀ (l:LB),∃l',uD (j0 G) (j0 G) d kd l= .ok l':=by
 intro l
 induction l with
 |nil=>simp_all [uD]
 |cons b l q=>
  obtain ⟨l',e'⟩:=q
  obtain ⟨o,e⟩:=ale (G:=G) d kd b
  grind [uD,aD]
theorem ali (d kd:Int): ∀ (a b:LB),uD fo fa d kd (a++b)=bE (uD fo fa d kd a) fun a'=>bE (uD fo fa d kd b) fun q=> .ok (a'++q):=by
 intro a
 induction a with
 |nil=>intro b;rw [zg,uD,aD];cases uD fo fa d kd b<;>rfl
 |cons x a z=>
  intro b
  rw [List.cons_append,uD,uD,z]
  cases Jn fo fa d kd x with
  |error e=>rfl
  |ok o=>
   rw [aD,aD]
   cases uD fo fa d kd a with
   |error e=>rfl
   |ok a'=>
    rw [aD,aD]
    cases uD fo fa d kd b with
    |error e=>rfl
    |ok q=>grind [aD]
theorem alm (hfa: ∀d f g,RF f->fa d f= .ok g->RF g) (hG: ∀d f,RF f->((G d f).length=0↔f.length=0)) (t:Tm): ∀d,q7 t->bE (tZ fo fa d t) (tZ (j0 G) (j0 G) d)=tZ (DS fo G) (DS fa G) d t:=by
 induction t using gq with
 |h kd n nm r ks sys I J=>
  intro d z
  rw [q7] at z
  obtain ⟨_,L,M⟩:=z
  have hk: ∀ {l:LT} {i:Nat},(∀x∈l,∀d,q7 x->bE (tZ fo fa d x) (tZ (j0 G) (j0 G) d)=tZ (DS fo G) (DS fa G) d x)->dQ l->bE (aig fo fa d kd i l) (aig (j0 G) (j0 G) d kd i)=aig (DS fo G) (DS fa G) d kd i l:=by
   intro l
   induction l with
   |nil=>grind [aig,aD]
   |cons t l B=>
    intro i h q
    rw [dQ] at q
    have h1:=h t (by simp) (d+bJ kd i) q.1
    have h2:=B (i:=i+1) (fun x O=>h x (by simp [O])) q.2
    rw [aig,aig,<-h1,<-h2]
    cases tZ fo fa (d+bJ kd i) t with
    |error e=>rfl
    |ok t'=>
     rw [aD,aD]
     obtain ⟨T,e⟩:=B5 (G:=G) t' (d+bJ kd i)
     rw [e,aD]
     cases aig fo fa d kd (i+1) l with
     |error e=>rfl
     |ok E=>
      grind [aD,aig]
  have hm: ∀ {l:LT},(∀x∈l,∀d,q7 x->bE (tZ fo fa d x) (tZ (j0 G) (j0 G) d)=tZ (DS fo G) (DS fa G) d x)->dQ l->bE (xy fo fa d kd l) (xy (j0 G) (j0 G) d kd)=xy (DS fo G) (DS fa G) d kd l:=by
   intro l
   induction l with
   |nil=>grind [xy,aD]
   |cons t l B=>
    intro h q
    rw [dQ] at q
    have h1:=h t (by simp) (d+av kd) q.1
    have h2:=B (fun x O=>h x (by simp [O])) q.2
    rw [xy,xy,<-h1,<-h2]
    cases tZ fo fa (d+av kd) t with
    |error e=>rfl
    |ok t'=>
     rw [aD,aD]
     obtain ⟨T,e⟩:=B5 (G:=G) t' (d+av kd)
     rw [e,aD]
     cases xy fo fa d kd l with
     |error e=>rfl
     |ok E=>
      grind [aD,xy]
  have hb: ∀ {b:Br Tm},(∀x∈b.c,∀d,q7 x->bE (tZ fo fa d x) (tZ (j0 G) (j0 G) d)=tZ (DS fo G) (DS fa G) d x)->mZ b->bE (Jn fo fa d kd b) (uD (j0 G) (j0 G) d kd)=Jn (DS fo G) (DS fa G) d kd b:=by
   intro b h q
   cases b with
   |mk f A=>
    rw [mZ] at q
    have h2:=hm h q.2
    rw [Jn,Jn]
    show _=bE (bE (fa d f) fun m=> .ok (G d m)) _
    cases hf:fa d f with
    |error e=>rfl
    |ok F=>
     rw [aD,aD,aD]
     have Y:=hG d F (hfa d f F q.1 hf)
     by_cases W:F.length=0
     ·grind [aD,uD]
     ·rw [if_neg W,if_neg (fun h=>W (Y.1 h)),<-h2]
      cases xy fo fa d kd A with
      |error e=>rfl
      |ok E=>
       rw [aD,aD,aD,uD,Jn]
       show bE (bE (.ok (G d F)) _) _=_
       rw [aD,if_neg (fun h=>W (Y.1 h))]
       obtain ⟨ax,e⟩:=Ui (G:=G) d kd E
       grind [aD,uD]
  have hs: ∀ {l:LB},(∀b∈l,∀x∈b.c,∀d,q7 x->bE (tZ fo fa d x) (tZ (j0 G) (j0 G) d)=tZ (DS fo G) (DS fa G) d x)->eA l->bE (uD fo fa d kd l) (uD (j0 G) (j0 G) d kd)=uD (DS fo G) (DS fa G) d kd l:=by
   intro l
   induction l with
   |nil=>grind [uD,aD]
   |cons b l B=>
    intro h q
    rw [eA] at q
    have h1:=hb (h b (by simp)) q.1
    have h2:=B (fun b hb=>h b (by simp [hb])) q.2
    rw [uD,uD,<-h1,<-h2]
    cases Jn fo fa d kd b with
    |error e=>rfl
    |ok o=>
     rw [aD,aD]
     obtain ⟨o',e⟩:=alj (G:=G) d kd o
     rw [e,aD]
     cases uD fo fa d kd l with
     |error e=>rfl
     |ok E=>
      grind [aD,ali]
  rw [tZ,tZ,<-hk (i:=0) I L,<-hs J M]
  have pA:(if kd=14 then DS fa G d r else DS fo G d r)=bE (if kd=14 then fa d r else fo d r) fun m=> .ok (G d m):=by split<;>rfl
  rw [pA]
  cases (if kd=14 then fa d r else fo d r) with
  |error e=>rfl
  |ok r'=>
   rw [aD,aD,aD]
   cases aig fo fa d kd 0 ks with
   |error e=>rfl
   |ok A=>
    rw [aD,aD]
    obtain ⟨ad,ek⟩:=alg (G:=G) d kd A 0
    rw [ek,aD]
    cases uD fo fa d kd sys with
    |error e=>rfl
    |ok ao=>
     grind [aD,tZ,j0]
end
theorem Ly (kd:Int):(kd<0\/kd>28)\/(∃n:Nat,n<29/\kd=n):=by
 by_cases h:kd<0\/kd>28
 ·omega
 ·exact .inr ⟨kd.toNat,by omega,by omega⟩
theorem aiR (kd:Int) (I:Int->OS S):zA k kd I=I (ct kd):=by
 simp only [zA]
 rcases Ly kd with h|⟨n,hn,rfl⟩
 ·simp only [cH,beq_iff_eq]
  unfold ct
  rw [if_pos h]
  repeat rw [if_neg (by omega)]
 ·unfold ct
  rw [if_neg (by omega),EJ]
  match n,hn with
  |0,_=>rfl
  |1,_=>rfl
  |2,_=>rfl
  |3,_=>rfl
  |4,_=>rfl
  |5,_=>rfl
  |6,_=>rfl
  |7,_=>rfl
  |8,_=>rfl
  |9,_=>rfl
  |10,_=>rfl
  |11,_=>rfl
  |12,_=>rfl
  |13,_=>rfl
  |14,_=>rfl
  |15,_=>rfl
  |16,_=>rfl
  |17,_=>rfl
  |18,_=>rfl
  |19,_=>rfl
  |20,_=>rfl
  |21,_=>rfl
  |22,_=>rfl
  |23,_=>rfl
  |24,_=>rfl
  |25,_=>rfl
  |26,_=>rfl
  |27,_=>rfl
  |28,_=>rfl
  |n+29,h=>omega
theorem jE (kd i:Int) (I:Int×Int->OS S):gI k kd i I=I (Am kd i,bJ kd i):=by
 simp only [gI,cH,beq_iff_eq]
 grind [Am,bJ]
theorem Q8 (kd:Int) (I:Int->OS S):lJ k kd I=I (xU kd):=by
 grind [lJ,cH,xU]
theorem Jq (s t:BA):(s==t)=decide (s=t):=by
 obtain ⟨a⟩:=s;obtain ⟨b⟩:=t
 show (a==b)=_
 grind
theorem FO (s:BA):(s==oW)=decide (s.size=0):=by
 simp_all [Jq]
theorem rN (s:BA):(s.size:Int)=(s.data.toList.length:Int):=by
 rfl
def js (p:List UInt8) (r:List UInt8):Bool:=match p with
 |[]=>q0 r
 |_::_=>r.all fun d=>kP d||pG d
theorem NI (p:List UInt8) (x:UInt8) (r:List UInt8):js p (x::r)=((kP x||(decide (p≠[])&&pG x))&&js (p++[x]) r):=by
 cases p<;>grind [js,q0]
theorem NJ {p:List UInt8}:js p []=decide (p.length≠0):=by
 cases p with
 |nil=>rfl
 |cons c l=>rfl
theorem afb (hk:Fu k) (I:Bool->OS S) {s:BA} (hs:s.size<2147483648):
  ∀ (r p:List UInt8) (m:Nat),s.data.toList=p++r->r.length<m->n7 k I s m (p.length:Int)=I (js p r):=by
 obtain ⟨q,rfl⟩: ∃q,k=q+1:=⟨k-1,by omega⟩
 have A:s.data.toList.length<2147483648:=by simp_all
 intro r
 induction r with
 |nil=>
  grind [pw,n7,tv,rN,n3,FO,NJ]
 |cons x r B=>
  intro p m h E
  obtain ⟨m,rfl,z⟩:=pw E
  obtain ⟨F,J,L,M⟩:=qF h (by omega)
  have O:=B (p++[x]) m M z
  rw [NI]
  simp only [n7,tv,rN,F,ae,J,p9,aY,Aq,Dk,L,O]
  have hl: ∀b:Bool,b=kP x->ab (!b) (ab (((p.length:Nat):Int)==0) (I false) (if ((x.toNat:Nat):Int)<48 then I false else if ((x.toNat:Nat):Int)>57 then I false else I (js (p++[x]) r))) (I (js (p++[x]) r))=I ((kP x||(decide (p≠[])&&pG x))&&js (p++[x]) r):=by
   grind [cH,List.length_pos_iff,pG]
  grind [kP]
theorem ajo (hk:Fu k) {s:BA} (hs:s.size<2147483648) (I:Bool->OS S):zC k s I=I (q0 s.data.toList):=by
 simp only [zC,IY]
 have:=afb hk I hs s.data.toList [] k rfl (by grind [rN])
 exact this
theorem qY (n:Nat):(((n:Nat):Int)==0)=decide (n=0):=by grind
theorem aff (hk:Fu k) (I:Bool->OS S) {t:Tm} {nP:Int} (hd:0<=nP) (q:nP<9223372036854775808) (hs: ∀b∈t.s,aq b.f/\b.f.length<1073741824) (hlen:t.s.length<1073741824):
  ∀ (r p:LB) (m:Nat),t.s=p++r->r.length<m->kO k I t nP m (p.length:Int)=I (r.all (bX t.k nP)&&decide (t.r.length=0)):=by
 intro r
 induction r with
 |nil=>
  grind [pw,kO,yl,n3,qY]
 |cons x r B=>
  intro p m h E
  obtain ⟨m,rfl,z⟩:=pw E
  obtain ⟨F,J,L,M⟩:=qF h (by omega)
  have A:=hs x (by grind)
  have hb:((x.c.length:Int)==xU t.k)=decide ((x.c.length:Int)=xU t.k):=by rfl
  simp only [kO,yl,F,ae,J,p9,ag hk,Q8,Hb hk A.1 (show x.f.length<2147483648 by omega),RZ hk A.1 (show x.f.length<4294967296 by omega) hd q,L,B (p++[x]) m M z,List.all_cons,hb]
  grind [bX,decide,Int,cV,ae,n3]
theorem aj4 {S:Type} (b c:Bool) (I:Bool->OS S):ab b (I c) (I false)=I (b&&c):=by
 cases b<;>rfl
def om (vars nP:Int) (t:Tm):Bool:=
 if t.k=1 then decide (t.r.length=0)&&(decide (0<=t.n)&&decide (vars<0\/t.n<vars))
   else if t.k=2 then decide (t.r.length=0)&&q0 t.name.data.toList
   else if t.k=13\/t.k=21\/t.k=26 then xV t.r&&dg t.r nP
   else if t.k=14 then cV t.r&&dg t.r nP
   else t.s.all (bX t.k nP)&&decide (t.r.length=0)
theorem NY (vars nP:Int) (t:Tm):cL vars nP t=((decide (ct t.k=t.c.length)&&(decide (t.k=1\/t.n=0)&&(decide (t.k=2\/t.name.size=0)&&decide (xU t.k=0->t.s.length=0))))&&om vars nP t):=by
 cases t;rfl
def Zm (t:Tm):Prop:=aG t.k/\aG t.n/\t.name.size<1073741824/\aq t.r/\t.r.length<1073741824/\t.c.length<1073741824/\t.s.length<1073741824
theorem pf.no {t:Tm} (h:pf t):Zm t:=by cases t;exact h.node
theorem pf.ki {t x:Tm} (h:pf t) (q:x∈t.c):pf x:=by cases t;exact h.bV q
theorem pf.bi {t:Tm} {b:Br Tm} (h:pf t) (hb:b∈t.s):(aq b.f/\b.f.length<1073741824/\b.c.length<1073741824)/\ ∀t∈b.c,pf t:=by cases t;exact h.br hb
theorem aju (hk:Fu k) {t:Tm} (A:pf t) {vars nP:Int} (hd:0<=nP) (x:nP<9223372036854775808) (I:Bool->OS S):Ar k I t vars nP k=I (om vars nP t):=by
 obtain ⟨F,J,L,z,M,O,B⟩:=A.no
 have hb:=fun b hb=>(A.bi (b:=b) hb).1
 obtain ⟨q,E⟩: ∃q,k=q+1:=⟨k-1,by omega⟩
 have: ∀j,j=q+1->Ar k I t vars nP j=tw k I t vars nP (fun v109=>kO k I t nP k v109):=by rintro j rfl;rfl
 rw [this k E]
 have hl:=aff hk I hd x (fun b h=>⟨(hb b h).1,(hb b h).2.1⟩) B t.s [] k rfl (by omega)
 have hl:kO k I t nP k 0=_:=hl
 simp only [tw,ag hk,ajo hk (show t.name.size<2147483648 by omega),rH hk z (show t.r.length<2147483648 by omega),Hb hk z (show t.r.length<2147483648 by omega),RZ hk z (show t.r.length<4294967296 by omega) hd x,hl,qY,aj4]
 grind [cH,om]
theorem ajt (hk:Fu k) {t:Tm} (x:pf t) {vars nP:Int} (hd:0<=nP) (q:nP<9223372036854775808) (I:Bool->OS S):uj k t vars nP I=I (cL vars nP t):=by
 have z:(ct t.k==(t.c.length:Int))=decide (ct t.k=t.c.length):=by rfl
 have hp:(xU t.k==0)=decide (xU t.k=0):=bG _
 simp only [uj,IZ,ag hk,aiR,Q8,aju hk x hd q,FO,z,hp,bG,NY]
 have A:ab (decide (xU t.k=0)) (ab (decide (((t.s.length:Nat):Int)>0)) (I false) (I (om vars nP t))) (I (om vars nP t))=I (decide (xU t.k=0->t.s.length=0)&&om vars nP t):=by
  rw [aY,aY]
  by_cases h1:xU t.k=0
  ·rw [if_pos h1]
   by_cases h2:t.s.length=0<;>grind
  grind
 grind [ae,n3,decide_eq_false]
abbrev Fd (k n:Nat):Prop:=4294967296+n<=k
theorem Fd.fu {n:Nat} (h:Fd k n):Fu k:=by omega
theorem Fd.pos {n:Nat} (h:Fd k n): ∃q,k=q+1/\ ∀j,j+1<=n->Fd q j:=⟨k-1,by omega,fun j hj=>by omega⟩
theorem Fd.pos' {n:Nat} (h:Fd k n) (hn:1<=n): ∃q,k=q+1/\Fu q/\ ∀j,j+1<=n->Fd q j:=⟨k-1,by omega,by omega,fun j hj=>by omega⟩
theorem HX (t:Tm):1<=am t:=by cases t;rw [am];omega
theorem pF (t:Tm):am t=max (aH t.c) (aO t.s)+1:=by cases t;rfl
theorem rM (t:Tm):au t=1+ay t.c+aI t.s:=by cases t;rfl
theorem bY {t x:Tm} (h:x∈t.c):am x+1<=am t:=by rw [pF t];have:=D0 h;omega
theorem b8 {t:Tm} {b:Br Tm} {x:Tm} (hb:b∈t.s) (h:x∈b.c):am x+1<=am t:=by rw [pF t];have:=D0 h;have:=JP hb;omega
theorem c7 {Q:Tm->Prop} (h: ∀t,(∀x∈t.c,Q x)->(∀b∈t.s,∀x∈b.c,Q x)->Q t) (t:Tm):Q t:=gq (fun kd n nm r q sys h1 h2=>h (.mk kd n nm r q sys) h1 h2) t
theorem aDj {α:Type} (b c:Bool) (x y:α):ab (!b) y (if c then x else y)=if b&&c then x else y:=by cases b<;>cases c<;>rfl
theorem kY {S:Type} (b c:Bool) (I:Bool->OS S):ab (!b) (I false) (I c)=I (b&&c):=by cases b<;>rfl
theorem vc {n:Int} (h1: -9223372036854775808<=n) (h2:n<9223372036854775808):oa .i64 n=n:=alX h1 h2
section
variable {hd:Tm->Int->(Bool->OS S)->OS S} {c0:Int} {t:Tm} {Q:Tm->Bool}
theorem aeL (hk:Fu k) (I:Bool->OS S) (q:Int->Int->OS S) (hc: -9223372036854775807<=c0) (A:c0<9223372036854775808) {v more:Int} {x:Br Tm} (B: ∀y∈x.c,∀g,hd y (c0-1) g=g (Q y)) (hl:x.c.length<1073741824):
  ∀ (r p:LT) (m:Nat),x.c=p++r->r.length<m->SL hd k I q c0 t v x more m (p.length:Int)=if r.all Q then q (oa .i64 (v+1)) more else I false:=by
 intro r
 induction r with
 |nil=>
  grind [pw,SL,yi,n3]
 |cons y r E=>
  intro p m h F
  obtain ⟨m,rfl,z⟩:=pw F
  obtain ⟨J,L,M,O⟩:=qF h (by omega)
  have T:=B y (by grind)
  simp only [SL,yi,J,ae,L,p9,ag hk,uk,ar,vc (show-9223372036854775808<=c0-1 by omega) (by omega),T,M,E (p++[y]) m O z,aDj]
  rfl
theorem aeK (hk:Fu k) (I:Bool->OS S) (hc: -9223372036854775807<=c0) (q:c0<9223372036854775808) {more:Int} (F: ∀b∈t.s,∀y∈b.c,∀g,hd y (c0-1) g=g (Q y)) (hl:t.s.length<1073741824) (z: ∀b∈t.s,b.c.length<1073741824):
  ∀ (r p:LB) (m:Nat),t.s=p++r->r.length<m->jp hd k I c0 t m (p.length:Int) more=I (r.all fun b=>b.c.all Q):=by
 intro r
 induction r with
 |nil=>
  grind [pw,jp,tp,n3]
 |cons x r J=>
  intro p m h L
  obtain ⟨m,rfl,A⟩:=pw L
  obtain ⟨M,O,T,W⟩:=qF h (by omega)
  have E:x∈t.s:=by grind
  have B:=z x E
  have:=aeL (t:=t) hk I (jp hd k I c0 t m) (v:=(p.length:Int)) (more:=more) hc q (F x E) B x.c [] k rfl (by omega)
  simp only [jp,tp,M,ae,O,p9,List.all_cons]
  refine o0 this ?_
  rw [T,J (p++[x]) m W A]
  cases x.c.all Q<;>rfl
theorem aeJ (hk:Fu k) (I:Bool->OS S) (hc: -9223372036854775807<=c0) (x:c0<9223372036854775808) (E: ∀y∈t.c,∀g,hd y (c0-1) g=g (Q y)) (z: ∀b∈t.s,∀y∈b.c,∀g,hd y (c0-1) g=g (Q y)) (B:pf t):
  ∀ (r p:LT) (m:Nat),t.c=p++r->r.length<m->qS hd k I c0 t m (p.length:Int)=I (r.all Q&&t.s.all fun b=>b.c.all Q):=by
 obtain ⟨Y,o2,o3,o4,o5,o6,F⟩:=B.no
 intro r
 induction r with
 |nil=>
  intro p m h A
  obtain ⟨m,rfl,q⟩:=pw A
  have hs: ∀more:Int,jp hd k I c0 t k 0 more=_:=fun more=>aeK hk I hc x (more:=more) z F (fun b hb=>(B.bi hb).1.2.2) t.s [] k rfl (by omega)
  simp only [qS,tn,xu h,n3,hs]
  cases (t.k==15)<;>rfl
 |cons y r J=>
  intro p m h A
  obtain ⟨m,rfl,q⟩:=pw A
  obtain ⟨L,M,O,T⟩:=qF h (by omega)
  have W:=E y (by grind)
  simp only [qS,tn,L,ae,M,p9,ag hk,jE,uk,ar,vc (show-9223372036854775808<=c0-1 by omega) (by omega),W,O,J (p++[y]) m T q,kY,List.all_cons,Bool.and_assoc]
end
theorem JN {n:Int} (hn:0<=n): ∀ {l:LT},(l.all fun x=>decide ((am x:Int)<=n))=decide ((aH l:Int)<=n):=by
 intro l
 induction l<;>grind [aH]
theorem aah {n:Int} (hn:0<=n): ∀ {l:LB},(l.all fun b=>b.c.all fun x=>decide ((am x:Int)<=n))=decide ((aO l:Int)<=n):=by
 intro l
 induction l with
 |nil=>rw [aO];simp [hn]
 |cons b l q=>rw [List.all_cons,q,JN hn,aO,pD,Bool.eq_iff_iff];grind
theorem ajY (t:Tm):pf t-> ∀ {k:Nat} {left:Int} (I:Bool->OS S),Fd k (am t)-> -4611686018427387904<=left->left<4611686018427387904->jf k t left I=I (decide ((am t:Int)<=left)):=by
 induction t using c7 with
 |h t A B=>
  intro z k left I hk h1 h2
  obtain ⟨q,rfl,F,hf⟩:=hk.pos' (HX t)
  simp only [jf,TV,aY,ar,ag F]
  by_cases J:left>0
  ·rw [if_pos J]
   have L: ∀y∈t.c,∀g:Bool->OS S,jf q y (left-1) g=g (decide ((am y:Int)<=left-1)):=fun y x g=>A y x (z.ki x) g (hf _ (bY x)) (by omega) (by omega)
   have E: ∀b∈t.s,∀y∈b.c,∀g:Bool->OS S,jf q y (left-1) g=g (decide ((am y:Int)<=left-1)):=fun b hb y x g=>B b hb y x ((z.bi hb).2 y x) g (hf _ (b8 hb x)) (by omega) (by omega)
   have:=aeJ (Q:=fun y=>decide ((am y:Int)<=left-1)) F I (by omega) (by omega) L E z t.c [] q rfl (by have:=z.no.2.2.2.2.2.1;omega)
   simp only [DX,IV]
   refine o0 this ?_
   rw [JN (by omega),aah (by omega),pF]
   congr 1
   rw [Bool.eq_iff_iff];simp;omega
  grind [HX]
section
variable {hd:Tm->Int->(Bool×Int->OS S)->OS S} {t:Tm}
def rT (hd:Tm->Int->(Bool×Int->OS S)->OS S) (k:Nat) (y:Tm):Prop:= ∀ (c:Int) (g:Bool×Int->OS S),0<=c->c<4611686018427387904->
 ∃v,pB hd k y c g=g (decide ((au y:Int)<=c),v)/\((au y:Int)<=c->v=c-au y)
theorem aeI (hk:Fu k) (I:Bool×Int->OS S) (q:Int->Int->Int->OS S) {v more:Int} {x:Br Tm} (A: ∀y∈x.c,rT hd k y) (hl:x.c.length<1073741824):
  ∀ (r p:LT) (m:Nat) (c:Int),0<=c->c<4611686018427387904->x.c=p++r->r.length<m->
  ((ay r:Int)<=c->kL hd k I q t v x more m c (p.length:Int)=q (c-ay r) (oa .i64 (v+1)) more)/\(¬ (ay r:Int)<=c-> ∃w,kL hd k I q t v x more m c (p.length:Int)=I (false,w)):=by
 intro r
 induction r with
 |nil=>
  grind [pw,kL,yg,n3,ay]
 |cons y r Y=>
  intro p m c B h1 h E
  obtain ⟨m,rfl,F⟩:=pw E
  obtain ⟨J,L,M,e4⟩:=qF h (by omega)
  have O:=A y (by grind)
  obtain ⟨w,T,W⟩:=O c (fun r1=>(fun z:Bool×Int=>ab (!z.1) (I (false,z.2)) (kL hd k I q t v x more m z.2 (((p++[y]).length:Nat):Int))) (r1.1,r1.2)) B h1
  simp only [kL,yg,J,ae,L,p9,ag hk,ul,ar,M,ay]
  rw [T]
  by_cases hs:(au y:Int)<=c
  ·grind [n3]
  grind [ae]
theorem aeH (hk:Fu k) (I:Bool×Int->OS S) {more:Int} (E: ∀b∈t.s,∀y∈b.c,rT hd k y) (hl:t.s.length<1073741824) (q: ∀b∈t.s,b.c.length<1073741824):
  ∀ (r p:LB) (m:Nat) (c:Int),0<=c->c<4611686018427387904->t.s=p++r->r.length<m->
  ((aI r:Int)<=c->Ms hd k I t m c (p.length:Int) more=I (true,c-aI r))/\(¬ (aI r:Int)<=c-> ∃w,Ms hd k I t m c (p.length:Int) more=I (false,w)):=by
 intro r
 induction r with
 |nil=>
  grind [pw,Ms,tj,n3,aI]
 |cons x r F=>
  intro p m c J h1 h L
  obtain ⟨m,rfl,z⟩:=pw L
  obtain ⟨M,O,T,W⟩:=qF h (by omega)
  have B:x∈t.s:=by grind
  have A:=q x B
  have:=aeI (t:=t) hk I (Ms hd k I t m) (v:=(p.length:Int)) (more:=more) (E x B) A x.c [] k c J h1 rfl (by omega)
  simp only [Ms,tj,M,ae,O,p9,aI,kZ]
  obtain ⟨t1,t2⟩:=this
  rw [show (((([]:LT).length:Nat):Int))=0 from rfl] at t1 t2
  by_cases hs:(ay x.c:Int)<=c
  ·obtain ⟨i1,i2⟩:=F (p++[x]) m (c-ay x.c) (by omega) (by omega) W z
   rw [t1 hs,T]
   refine ⟨fun h=> ?_,fun h=>i2 (by omega)⟩
   rw [i1 (by omega),show c-(ay x.c:Int)-(aI r:Int)=c-((ay x.c+aI r:Nat):Int) by omega]
  ·exact ⟨fun h=>absurd (by omega) hs,fun _=>t2 hs⟩
theorem aeG (hk:Fu k) (I:Bool×Int->OS S) (L: ∀y∈t.c,rT hd k y) (x: ∀b∈t.s,∀y∈b.c,rT hd k y) (J:pf t):
  ∀ (r p:LT) (m:Nat) (c:Int),0<=c->c<4611686018427387904->t.c=p++r->r.length<m->
  ∃w,nY hd k I t m c (p.length:Int)=I (decide (((ay r+aI t.s:Nat):Int)<=c),w)/\(((ay r+aI t.s:Nat):Int)<=c->w=c-((ay r+aI t.s:Nat):Int)):=by
 obtain ⟨o1,o2,o3,o4,o5,o6,M⟩:=J.no
 intro r
 induction r with
 |nil=>
  intro p m c z h1 h A
  obtain ⟨m,rfl,q⟩:=pw A
  have hs: ∀more:Int,_:=fun more=>aeH hk I (more:=more) x M (fun b hb=>(J.bi hb).1.2.2) t.s [] k c z h1 rfl (by omega)
  have key: ∀more:Int,∃w,Ms hd k I t k c 0 more=I (decide (((aI t.s:Nat):Int)<=c),w)/\(((aI t.s:Nat):Int)<=c->w=c-((aI t.s:Nat):Int)):=fun more=>by
   by_cases hc:(aI t.s:Int)<=c
   ·simp_all
   ·obtain ⟨w,e⟩:=(hs more).2 hc
    grind
  have B:ay []+aI t.s=aI t.s:=by rw [ay,Ej]
  rw [B]
  simp only [nY,ti,xu h,n3]
  cases (t.k==15) with
  |true=>exact key 1
  |false=>exact key 0
 |cons y r O=>
  intro p m c z h1 h A
  obtain ⟨m,rfl,q⟩:=pw A
  obtain ⟨T,W,Y,e4⟩:=qF h (by omega)
  have hy:=L y (by grind)
  obtain ⟨w,hw,E⟩:=hy c (fun r1=>(fun F:Bool×Int=>ab (!F.1) (I (false,F.2)) (nY hd k I t m F.2 (((p++[y]).length:Nat):Int))) (r1.1,r1.2)) z h1
  have B:ay (y::r)+aI t.s=au y+ay r+aI t.s:=by rw [ay]
  rw [B]
  simp only [nY,ti,T,ae,W,p9,ag hk,jE,ul,ar,Y]
  rw [hw]
  by_cases hs:(au y:Int)<=c
  ·have:=E hs
   subst this
   obtain ⟨u,i1,i2⟩:=O (p++[y]) m (c-au y) (by omega) (by omega) e4 q
   grind [n3]
  grind [ae,decide_eq_false]
end
theorem ai5 (t:Tm):pf t-> ∀ {k:Nat} (c:Int) (I:Bool×Int->OS S),Fd k (am t)->0<=c->c<4611686018427387904->
  ∃w,K3 k t c I=I (decide ((au t:Int)-1<=c),w)/\((au t:Int)-1<=c->w=c-((au t:Int)-1)):=by
 induction t using c7 with
 |h t B E=>
  intro A k c I hk h1 h2
  obtain ⟨q,rfl,J,hf⟩:=hk.pos' (HX t)
  have z: ∀y,(∀ {k:Nat} (c:Int) (I:Bool×Int->OS S),Fd k (am y)->0<=c->c<4611686018427387904-> ∃w,K3 k y c I=I (decide ((au y:Int)-1<=c),w)/\((au y:Int)-1<=c->w=c-((au y:Int)-1)))->
    Fd q (am y)->rT (S:=S) (K3 q) q y:=by
   intro y x F c g L h1
   simp only [pB,ar,vc (show-9223372036854775808<=c-1 by omega) (by omega),aY]
   have:=mB y
   by_cases hc:c-1>=0
   ·rw [if_pos hc]
    obtain ⟨w,e,e'⟩:=x (c-1) (fun r1=>g (r1.1,r1.2)) F (by omega) (by omega)
    grind
   ·rw [if_neg hc]
    exact ⟨c-1,by grind,fun h=>by omega⟩
  obtain ⟨w,e,e'⟩:=aeG J I (fun y x=>z y (fun c I=>B y x (A.ki x) c I) (hf _ (bY x))) (fun b hb y x=>z y (fun c I=>E b hb y x ((A.bi hb).2 y x) c I) (hf _ (b8 hb x))) A t.c [] q c h1 h2 rfl (by have:=A.no.2.2.2.2.2.1;omega)
  grind [K3,IT,rM]
theorem aj0 {t:Tm} (q:pf t) (hk:Fd k (am t)) {ot:Int} (x:0<ot) (h1:ot<4611686018427387904) (I:Bool->OS S):zE k t ot I=I (decide ((au t:Int)<=ot)):=by
 simp only [zE,ag hk.fu,pB,ar,vc (show-9223372036854775808<=ot-1 by omega) (by omega),aY]
 rw [if_pos (by omega)]
 obtain ⟨w,e,_⟩:=ai5 t q (ot-1) (fun r1=>I (r1.1,r1.2).1) hk (by omega) (by omega)
 grind
def VW (vars nP:Int) (n:Nat):Prop:= -9223372036854775808<=vars/\vars<9223372036854775808/\0<=nP/\nP+n<4611686018427387904
section
variable {hd:Tm->Int->Int->Bool->(Bool->OS S)->OS S} {vars nP:Int} {bd:Bool} {t:Tm}
theorem Rc (hv:VW vars nP 1) {v d:Int} (h1:0<=v/\v<=1) (h2:0<=d/\d<=1) (y:Tm) (g:Bool->OS S):uh hd k y v d vars nP bd g=hd y (oa .i64 (cQ vars v)) (nP+d) bd g:=by
 obtain ⟨v1,v2,v3,v4⟩:=hv
 simp only [uh,ar,aY,vc (show-9223372036854775808<=nP+d by omega) (by omega)]
 unfold cQ
 split
 ·rw [Int.add_zero]
 ·rfl
theorem aeF (hk:Fu k) (I:Bool->OS S) (q:Int->Int->OS S) (hv:VW vars nP 1) {v more:Int} {x:Br Tm} (z:more=av t.k) (B: ∀y∈x.c,∀g,hd y vars (nP+more) bd g=g (rf bd vars (nP+more) y)) (hl:x.c.length<1073741824):
  ∀ (r p:LT) (m:Nat),x.c=p++r->r.length<m->mi hd k I q vars nP bd t v x more m (p.length:Int)=if ca bd vars nP t.k r then q (oa .i64 (v+1)) more else I false:=by
 subst z
 intro r
 induction r with
 |nil=>
  intro p m h z
  obtain ⟨m,rfl,A⟩:=pw z
  simp only [mi,yh,xu h,n3];rfl
 |cons y r E=>
  intro p m h z
  obtain ⟨m,rfl,A⟩:=pw z
  obtain ⟨F,J,L,M⟩:=qF h (by omega)
  have O:=B y (by grind)
  have T:oa .i64 (cQ vars 0)=vars:=by rw [show cQ vars 0=vars by grind [cQ]];exact vc hv.1 hv.2.1
  simp only [mi,yh,F,ae,J,p9,ag hk,ar,Rc hv (show (0:Int)<=0/\(0:Int)<=1 by omega) (KZ t.k),T,O,L,E (p++[y]) m M A,aDj]
  rw [ca]
theorem aeE (hk:Fu k) (I:Bool->OS S) (hv:VW vars nP 1) {more:Int} (F:more=av t.k) (J: ∀b∈t.s,∀y∈b.c,∀g,hd y vars (nP+more) bd g=g (rf bd vars (nP+more) y)) (hl:t.s.length<1073741824) (q: ∀b∈t.s,b.c.length<1073741824):
  ∀ (r p:LB) (m:Nat),t.s=p++r->r.length<m->iC hd k I vars nP bd t m (p.length:Int) more=I (ck bd vars nP t.k r):=by
 intro r
 induction r with
 |nil=>
  grind [pw,iC,tl,n3,ck]
 |cons x r L=>
  intro p m h z
  obtain ⟨m,rfl,A⟩:=pw z
  obtain ⟨M,O,T,W⟩:=qF h (by omega)
  have E:x∈t.s:=by grind
  have B:=q x E
  have:=aeF (t:=t) (bd:=bd) hk I (iC hd k I vars nP bd t m) hv (v:=(p.length:Int)) F (J x E) B x.c [] k rfl (by omega)
  have this:mi hd k I (iC hd k I vars nP bd t m) vars nP bd t (p.length:Int) x more k 0=_:=this
  simp only [iC,tl,M,ae,O,p9,this,T,L (p++[x]) m W A]
  have Y:ck bd vars nP t.k (x::r)=(ca bd vars nP t.k x.c&&ck bd vars nP t.k r):=by cases x;rfl
  grind
theorem aeD (hk:Fu k) (I:Bool->OS S) (hv:VW vars nP 1) (F: ∀y∈t.c,∀v d,0<=v/\v<=1->0<=d/\d<=1-> ∀g,hd y (oa .i64 (cQ vars v)) (nP+d) bd g=g (rf bd (cQ vars v) (nP+d) y)) (x: ∀b∈t.s,∀y∈b.c,∀g,hd y vars (nP+av t.k) bd g=g (rf bd vars (nP+av t.k) y)) (A:pf t):
  ∀ (r p:LT) (m:Nat),t.c=p++r->r.length<m->nZ hd k I vars nP bd t m (p.length:Int)=I (bO bd vars nP t.k p.length r&&ck bd vars nP t.k t.s):=by
 obtain ⟨o1,o2,o3,o4,o5,o6,J⟩:=A.no
 intro r
 induction r with
 |nil=>
  intro p m h z
  obtain ⟨m,rfl,q⟩:=pw z
  have hs:iC hd k I vars nP bd t k 0 (av t.k)=_:=aeE hk I hv rfl x J (fun b hb=>(A.bi hb).1.2.2) t.s [] k rfl (by omega)
  grind [nZ,tk,bO,av,cH]
 |cons y r L=>
  intro p m h z
  obtain ⟨m,rfl,q⟩:=pw z
  obtain ⟨M,O,T,W⟩:=qF h (by omega)
  have B:=g7 t.k p.length
  have E:=gr t.k p.length
  have Y:=F y (by grind) (Am t.k p.length) (bJ t.k p.length) B E
  simp only [nZ,tk,M,ae,O,p9,ag hk,jE,ar,Rc hv B E,Y,T,L (p++[y]) m W q,kY]
  grind [bO]
end
theorem wI (bd:Bool) (vars nP:Int) (t:Tm):rf bd vars nP t=(!(bd&&decide (nP>24))&&(cL vars nP t&&(bO bd vars nP t.k 0 t.c&&ck bd vars nP t.k t.s))):=by cases t;rfl
theorem Uf {vars v:Int} (h:0<=v/\v<=1):vars<=cQ vars v/\cQ vars v<=vars+1:=by grind [cQ]
theorem Zv {bd:Bool} (t:Tm):pf t-> ∀ {V W D:Int},W<0->9223372036854775808<=V->rf bd W D t=rf bd V D t:=by
 induction t using gq with
 |h kd n nm r I sys B E=>
  intro q V W D J hV
  have ho:=q
  rw [pf] at q
  obtain ⟨T,L,Y,o4,o5,o6,o7⟩:=q.1
  have hk: ∀ {l:LT} {i:Nat},(∀x∈l,pf x-> ∀ {V W D:Int},W<0->9223372036854775808<=V->rf bd W D x=rf bd V D x)->aZ l->bO bd W D kd i l=bO bd V D kd i l:=by
   intro l
   induction l with
   |nil=>intro i _ _;rw [bO,bO]
   |cons t l z=>
    intro i h hl
    rw [aZ] at hl
    have hb:=g7 kd i
    rw [bO,bO,z (fun x F=>h x (by simp [F])) hl.2,h t (by simp) hl.1 (W:=cQ W (Am kd i)) (V:=cQ V (Am kd i)) (by unfold cQ;split<;>omega) (by unfold cQ;split<;>omega)]
  have M: ∀ {l:LT},(∀x∈l,pf x-> ∀ {V W D:Int},W<0->9223372036854775808<=V->rf bd W D x=rf bd V D x)->aZ l->ca bd W D kd l=ca bd V D kd l:=by
   intro l
   induction l with
   |nil=>intro _ _;rw [ca,ca]
   |cons t l z=>
    intro h hl
    rw [aZ] at hl
    rw [ca,ca,z (fun x F=>h x (by simp [F])) hl.2,h t (by simp) hl.1 J hV]
  have hs: ∀ {l:LB},(∀b∈l,∀x∈b.c,pf x-> ∀ {V W D:Int},W<0->9223372036854775808<=V->rf bd W D x=rf bd V D x)->ba l->ck bd W D kd l=ck bd V D kd l:=by
   intro l
   induction l with
   |nil=>intro _ _;rw [ck,ck]
   |cons b l z=>
    intro h hl
    obtain ⟨f,A⟩:=b
    rw [ba,Fa] at hl
    rw [ck,ck,jT,jT,z (fun b hb=>h b (by simp [hb])) hl.2,M (l:=A) (h ⟨f,A⟩ (by simp)) hl.1.2]
  have O:cL W D (.mk kd n nm r I sys)=cL V D (.mk kd n nm r I sys):=by
   unfold cL
   have:decide (W<0\/n<W)=decide (V<0\/n<V):=by
    have hn:n<9223372036854775808:=by unfold aG at L;omega
    rw [decide_eq_true (.inl J),decide_eq_true (.inr (by omega))]
   dsimp only
   rw [this]
  rw [rf,rf,O,hk B q.2.1,hs E q.2.2]
theorem aC5 (t:Tm):pf t-> ∀ {k:Nat} {vars nP:Int} {bd:Bool} (I:Bool->OS S),Fd k (am t)->VW vars nP (am t)->KW k t vars nP bd I=I (rf bd vars nP t):=by
 induction t using c7 with
 |h t A E=>
  intro z k vars nP bd I hk hv
  obtain ⟨q,rfl,F,hf⟩:=hk.pos' (HX t)
  have hp:=HX t
  have J:=hv
  unfold VW at J
  have L:VW vars nP 1:=by unfold VW;omega
  have Y:=KZ t.k
  have T: ∀y∈t.c,∀v d,0<=v/\v<=1->0<=d/\d<=1-> ∀g:Bool->OS S,KW q y (oa .i64 (cQ vars v)) (nP+d) bd g=g (rf bd (cQ vars v) (nP+d) y):=fun y x v d h1 h2 g=>by
   have hd:=bY x
   have W:=Uf (vars:=vars) h1
   by_cases M:cQ vars v<9223372036854775808
   ·rw [vc (by omega) M]
    exact A y x (z.ki x) g (hf _ (bY x)) (by unfold VW;omega)
   ·have e:cQ vars v=9223372036854775808:=by omega
    rw [e,show oa .i64 9223372036854775808= -9223372036854775808 from by decide,A y x (z.ki x) g (hf _ (bY x)) (by unfold VW;omega),Zv y (z.ki x) (by omega) (Int.le_refl _)]
  have O: ∀b∈t.s,∀y∈b.c,∀g:Bool->OS S,KW q y vars (nP+av t.k) bd g=g (rf bd vars (nP+av t.k) y):=fun b hb y x g=>E b hb y x ((z.bi hb).2 y x) g (hf _ (b8 hb x)) (by
   have:=b8 hb x;unfold VW;omega)
  have:=aeD (bd:=bd) F I L T O z t.c [] q rfl (by have:=z.no.2.2.2.2.2.1;omega)
  have this:nZ (KW q) q I vars nP bd t q 0=_:=this
  simp only [KW,TT,ar,ag F,ajt F z (show 0<=nP by omega) (show nP<9223372036854775808 by omega),zB,IU,this]
  rw [wI]
  cases bd with
  |true=>
   rw [ae,aY,Bool.true_and]
   by_cases B:nP>24
   ·grind
   ·rw [if_neg B,decide_eq_false B]
    cases cL vars nP t<;>rfl
  |false=>
   rw [n3]
   cases cL vars nP t<;>rfl
def VD (vars nP:Int) (n:Nat):Prop:= -4611686018427387904<=vars/\vars+n<4611686018427387904/\0<=nP/\nP+n<4611686018427387904
theorem ai1 (t:Tm) (q:pf t) {k:Nat} {vars nP:Int} {bd:Bool} (I:Bool->OS S) (hk:Fd k (am t)) (hv:VD vars nP (am t)):KW k t vars nP bd I=I (rf bd vars nP t):=
 aC5 t q I hk (by obtain ⟨v1,v2,v3,v4⟩:=hv;exact ⟨by omega,by omega,v3,v4⟩)
theorem ajZ {t:Tm} (q:pf t) (hk:Fd k (am t)) (I:Int->OS S):zD k t I=I (if am t>200 then 62 else if au t>20000 then 221 else 0):=by
 simp only [zD,ar,ajY t q _ hk (show (-4611686018427387904:Int)<=200 by omega) (show (200:Int)<4611686018427387904 by omega),ag hk.fu,aj0 q hk (show (0:Int)<20000 by omega) (show (20000:Int)<4611686018427387904 by omega)]
 by_cases h1:am t>200
 ·rw [if_pos h1,decide_eq_false (by omega)];rfl
 ·rw [if_neg h1,decide_eq_true (by omega),uX,n3]
  by_cases h2:au t>20000
  ·rw [if_pos h2,decide_eq_false (by omega)];rfl
  ·rw [if_neg h2,decide_eq_true (by omega)];rfl
theorem zy {t:Tm} (q:pf t) (hk:Fd k (am t)) (x:am t<1099511627776) (I:Int->OS S):Dh k t I=I (bw t):=by
 simp only [Dh,ar,ag hk.fu,ajZ q hk,ai1 t q _ hk (show VD (-1) 24 (am t) by unfold VD;omega),bG]
 unfold bw
 by_cases h1:am t>200
 ·rw [if_pos h1,if_pos h1];rfl
 ·rw [if_neg h1,if_neg h1]
  by_cases h2:au t>20000
  ·rw [if_pos h2,if_pos h2];rfl
  ·rw [if_neg h2,if_neg h2,decide_eq_true rfl,uX,n3]
   cases rf false (-1) 24 t<;>rfl
theorem JO: ∀ {l:LT},(∀x∈l,am x<=au x)->aH l<=ay l:=by
 intro l
 induction l<;>grind [aH,ay]
theorem aai: ∀ {l:LB},(∀b∈l,∀x∈b.c,am x<=au x)->aO l<=aI l:=by
 intro l
 induction l<;>grind [aO,aI,pD,kZ,JO]
theorem zG (t:Tm):am t<=au t:=by
 induction t using c7<;>grind [pF,rM,JO,aai]
section
variable {hd:Tm->(Int->OS S)->OS S} {t:Tm}
end
section
variable {hd:Tm->(Int->OS S)->OS S} {t:Tm}
end
section
variable {hd:Tm->Int->Int->Bool->(Bool->OS S)->OS S} {vars nP:Int} {bd:Bool} {t:Tm}
end
section
variable {hd:Tm->Tm->(Bool->OS S)->OS S}
end
section
variable {hd:Tm->Int->(Int->OS S)->OS S} {t:Tm}
end
def pE {α:Type}:Except Int α->pr Int α
 | .ok a=> .ok a
 | .error e=> .bD e
def eE {α β:Type} (x:Except Int α) (f:α->β) (g:Int->β):β:=match x with
 | .ok a=>f a
 | .error e=>g e
theorem ij {α β:Type} (x:Except Int α) (f:α->β) (g:Int->β):pr.elim (pE x) f g=eE x f g:=by cases x<;>rfl
theorem AS {α β γ:Type} (x:Except Int α) (f:α->Except Int β) (u:β->γ) (w:Int->γ):eE (bE x f) u w=eE x (fun a=>eE (f a) u w) w:=by cases x<;>rfl
theorem aP {α β:Type} (a:α) (f:α->β) (g:Int->β):eE (.ok a) f g=f a:=rfl
theorem Qx {α:Type} (x:Except Int α) (I:pr Int α->OS S):I (pE x)=eE x (fun a=>I (.ok a)) fun e=>I (.bD e):=by cases x<;>rfl
def oe:Tm:= .mk 0 0 oW [] [] []
def tE:Except Int Tm->Tm×Int
 | .ok t=>(t,0)
 | .error e=>(oe,e)
theorem Dc {α β:Type} {x:Except Int α} {f q:α->β} {g g':Int->β} (h: ∀a,x= .ok a->f a=q a) (h': ∀e,x= .error e->g e=g' e):eE x f g=eE x q g':=by
 cases x with
 |ok a=>exact h a rfl
 |error e=>exact h' e rfl
theorem Ru (hk:Fu k) {a b d:Int} {f:LC} (hf:aq f) (hl:f.length<1073741824) (hd:aG d) (hb:aG b) (I:pr Int (LC)->OS S):tN k a b f d I=I (pE (EZ d b f)):=by
 simp only [tN,ag hk,vX hk hf hl hd hb,bG,aY,J5 (show 0+f.length<=1099511627776 by omega)]
 unfold EZ
 by_cases q:b=0
 ·rw [if_pos q,if_pos (.inl q)];rfl
 ·rw [if_neg q]
  by_cases h1:d>=24
  ·rw [if_pos h1,if_pos (.inr h1)];rfl
  ·rw [if_neg h1,if_neg (show ¬ (b=0\/d>=24) by omega)]
   by_cases h2:(tb f d b).2=0
   ·rw [decide_eq_true h2,jF h2];rfl
   ·rw [decide_eq_false h2,iO h2];rfl
section
variable {hd:Int->Int->Tm->Int->Int->(pr Int Tm->OS S)->OS S} {vb db v d:Int} {t:Tm}
theorem ae5 (hk:Fu k) (I:pr Int Tm->OS S) (q:LB->Int->Int->OS S) {tf r2:LC} {b1 xk:Int} {ks:LT} {o:LB} {x:Br Tm} {more:Int} (z:more=av t.k)
  (B:0<=d/\d<4611686018427387904) (E: ∀y∈x.c,∀g,hd vb db y v (d+more) g=g (pE (uC vb db v (d+more) y))) (hl:x.c.length<1073741824) (ho:o.length<1073741824):
  ∀ (r p:LT) (m:Nat) (acc:LT),x.c=p++r->r.length<m->acc.length=p.length->
  l7 hd k I q tf vb db t b1 r2 ks o x more v d xk m acc (p.length:Int)=eE (H6 vb db v d t.k r) (fun l=>q (o++[⟨tf,acc++l⟩]) more (oa .i64 (xk+1))) fun e=>I (.bD e):=by
 subst z
 have F:=KZ t.k
 intro r
 induction r with
 |nil=>
  grind [pw,l7,xe,n3,H6,aP,J5]
 |cons y r J=>
  intro p m acc h z ha
  obtain ⟨m,rfl,A⟩:=pw z
  obtain ⟨L,M,O,T⟩:=qF h (by omega)
  have W:p.length<x.c.length:=by grind
  have Y:=E y (by grind)
  simp only [l7,xe,L,ae,M,p9,ar,vc (n:=d+av t.k) (by omega) (by omega),Y,ij,H6,AS,aP]
  refine Dc (fun t' ad=> ?_) fun e _=>rfl
  rw [J5 (by grind),O,J (p++[y]) m (acc++[t']) T A (by grind)]
  simp
theorem ae4 (hk:Fu k) (I:pr Int Tm->OS S) {r2:LC} {b1:Int} {ks:LT} {more:Int} (M:more=av t.k) (J:pf t) (z:aG db) (A:0<=d/\d<4611686018427387904)
  (O: ∀b∈t.s,∀y∈b.c,∀g,hd vb db y v (d+more) g=g (pE (uC vb db v (d+more) y))):
  ∀ (r p:LB) (m:Nat) (o:LB),t.s=p++r->r.length<m->o.length=p.length->
  Mv hd k I vb db t b1 r2 ks v d m o more (p.length:Int)=eE (HW vb db v d t.k r) (fun l=>I (.ok (.mk t.k b1 t.name r2 ks (o++l)))) fun e=>I (.bD e):=by
 obtain ⟨o1,o2,o3,o4,o5,o6,o7⟩:=J.no
 intro r
 induction r with
 |nil=>
  grind [pw,Mv,sA,n3,HW,aP]
 |cons x r T=>
  intro p m o h B ho
  obtain ⟨m,rfl,E⟩:=pw B
  obtain ⟨W,Y,e3,e4⟩:=qF h (by omega)
  have L:x∈t.s:=by grind
  have ad:p.length<t.s.length:=by grind
  have hb:=(J.bi L).1
  have pA:=Ru (S:=S) hk (a:=vb) hb.1 hb.2.1 (show aG d by unfold aG;omega) z
  have:=fun tf=>ae5 hk I (Mv hd k I vb db t b1 r2 ks v d m) (tf:=tf) (r2:=r2) (b1:=b1) (xk:=(p.length:Int)) (ks:=ks) (o:=o) M A (O x L) hb.2.2 (by omega) x.c [] k [] rfl (by omega) rfl
  have this: ∀tf,l7 hd k I (Mv hd k I vb db t b1 r2 ks v d m) tf vb db t b1 r2 ks o x more v d (p.length:Int) k [] 0=_:=this
  have hB:n8 vb db v d t.k x=bE (EZ d db x.f) fun F=>bE (H6 vb db v d t.k x.c) fun q=> .ok (.mk F q):=by cases x;rfl
  simp only [Mv,sA,W,ae,Y,p9,ag hk,pA,ij,this,HW,hB,AS,aP,zg,e3]
  refine Dc (fun F _=>Dc (fun q _=> ?_) fun e _=>rfl) fun e _=>rfl
  rw [T (p++[x]) m (o++[Br.mk F q]) e4 E (by grind)]
  simp
theorem ae3 (hk:Fu k) (I:pr Int Tm->OS S) {r2:LC} {b1:Int} (J:pf t) (x:aG db) (z:0<=d/\d<4611686018427387904) (L:0<=v/\v<4611686018427387904)
  (M: ∀y∈t.c,∀a b,0<=a/\a<=1->0<=b/\b<=1-> ∀g,hd vb db y (v+a) (d+b) g=g (pE (uC vb db (v+a) (d+b) y))) (A: ∀b∈t.s,∀y∈b.c,∀g,hd vb db y v (d+av t.k) g=g (pE (uC vb db v (d+av t.k) y))):
  ∀ (r p:LT) (m:Nat) (acc:LT),t.c=p++r->r.length<m->acc.length=p.length->
  Nc hd k I vb db t b1 r2 v d m acc (p.length:Int)=eE (dm vb db v d t.k p.length r) (fun l=>eE (HW vb db v d t.k t.s) (fun s=>I (.ok (.mk t.k b1 t.name r2 (acc++l) s))) fun e=>I (.bD e)) fun e=>I (.bD e):=by
 obtain ⟨o1,o2,o3,o4,o5,o6,o7⟩:=J.no
 intro r
 induction r with
 |nil=>
  intro p m acc h B ha
  obtain ⟨m,rfl,q⟩:=pw B
  have hs:Mv hd k I vb db t b1 r2 acc v d k [] (av t.k) 0=_:=ae4 hk I rfl J x z A t.s [] k [] rfl (by omega) rfl
  grind [Nc,sz,dm,aP,cH,av]
 |cons y r O=>
  intro p m acc h B ha
  obtain ⟨m,rfl,q⟩:=pw B
  obtain ⟨T,W,Y,e4⟩:=qF h (by omega)
  have ad:p.length<t.c.length:=by grind
  have E:=g7 t.k p.length
  have F:=gr t.k p.length
  have hy:=M y (by grind) (Am t.k p.length) (bJ t.k p.length) E F
  simp only [Nc,sz,T,ae,W,p9,ag hk,jE,ar,vc (n:=v+Am t.k p.length) (by omega) (by omega),vc (n:=d+bJ t.k p.length) (by omega) (by omega),hy,ij,dm,AS,aP]
  refine Dc (fun t' ao=> ?_) fun e _=>rfl
  rw [J5 (by grind),Y,O (p++[y]) m (acc++[t']) e4 q (by grind),show (p++[y]).length=p.length+1 by simp]
  simp
end
theorem Fh (vb db v d:Int) (t:Tm):uC vb db v d t=if t.k=1/\t.n>=v/\t.n>1000000000-vb then .error 100 else bE (EZ d db t.r) fun z=>bE (dm vb db v d t.k 0 t.c) fun x=>bE (HW vb db v d t.k t.s) fun q=> .ok (.mk t.k (if t.k=1/\t.n>=v then t.n+vb else t.n) t.name z x q):=by cases t;rfl
theorem q7.no {t:Tm} (h:q7 t):RF t.r/\(t.k=1->t.r=[])/\0<=t.k:=by cases t;rw [q7] at h;exact h.1
theorem q7.ki {t x:Tm} (h:q7 t) (q:x∈t.c):q7 x:=by cases t;rw [q7] at h;exact xR.1 h.2.1 x q
theorem q7.bi {t:Tm} {b:Br Tm} (h:q7 t) (hb:b∈t.s):RF b.f/\ ∀x∈b.c,q7 x:=by cases t;rw [q7] at h;exact FE.1 h.2.2 b hb
def VP (v d:Int) (n:Nat):Prop:=0<=v/\v+n<4611686018427387904/\0<=d/\d+n<4611686018427387904
theorem dt {vb db:Int} (T:0<=vb/\vb<=1000000000) (A:aG db) (t:Tm):pf t->q7 t-> ∀ {k:Nat} {v d:Int} (I:pr Int Tm->OS S),Fd k (am t)->VP v d (am t)->dk k vb db t v d I=I (pE (uC vb db v d t)):=by
 induction t using c7 with
 |h t E F=>
  intro B z k v d I hk hv
  obtain ⟨q,rfl,J,hf⟩:=hk.pos' (HX t)
  obtain ⟨L,W⟩: ∃L,q=L+1:=⟨q-1,by omega⟩
  have hp:=HX t
  unfold VP at hv
  obtain ⟨o1,Y,o3,o4,o5,o6,o7⟩:=B.no
  have ad:=KZ t.k
  have hQ: ∀y∈t.c,∀a b,0<=a/\a<=1->0<=b/\b<=1-> ∀g:pr Int Tm->OS S,dk q vb db y (v+a) (d+b) g=g (pE (uC vb db (v+a) (d+b) y)):=fun y x a b h1 h2 g=>
   E y x (B.ki x) (z.ki x) g (hf _ (bY x)) (by have:=bY x;unfold VP;omega)
  have M: ∀b∈t.s,∀y∈b.c,∀g:pr Int Tm->OS S,dk q vb db y v (d+av t.k) g=g (pE (uC vb db v (d+av t.k) y)):=fun b hb y x g=>
   F b hb y x ((B.bi hb).2 y x) ((z.bi hb).2 y x) g (hf _ (b8 hb x)) (by have:=b8 hb x;unfold VP;omega)
  have h1:=fun r2 b1=>ae3 (r2:=r2) (b1:=b1) J I B A (show 0<=d/\d<4611686018427387904 by omega) (show 0<=v/\v<4611686018427387904 by omega) hQ M t.c [] q [] rfl (by omega) rfl
  have h0: ∀r2 b1,uJ (dk q) q I vb db t r2 v d q b1=Nc (dk q) q I vb db t b1 r2 v d q [] 0:=by
   intro r2 b1
   have: ∀j,j=L+1->uJ (dk q) q I vb db t r2 v d j b1=Nc (dk q) q I vb db t b1 r2 v d q [] 0:=by rintro j rfl;rfl
   grind
  have h2: ∀r2 b1,uJ (dk q) q I vb db t r2 v d q b1=_:=fun r2 b1=>(h0 r2 b1).trans (h1 r2 b1)
  have pA:=Ru (S:=S) J (a:=vb) o4 o5 (show aG d by unfold aG;omega) A
  simp only [dk,HY,ag J,pA,ij,h2,List.length_nil,zg]
  rw [Qx _ I,Fh]
  unfold aG at Y
  by_cases hc:t.k=1
  ·have hr:=z.no.2.1 hc
   rw [hr,Bt,aP,hc,show ((1:Int)==1)=true from rfl,ae,aY]
   by_cases hn:t.n>=v
   ·rw [if_pos hn,vc (n:=1000000000-vb) (by omega) (by omega),aY]
    by_cases hb:t.n>1000000000-vb
    ·rw [if_pos hb,if_pos (show (1:Int)=1/\t.n>=v/\t.n>1000000000-vb from ⟨rfl,hn,hb⟩)];rfl
    grind [AS,vc,aP]
   grind [AS,aP]
  ·have O:(t.k==1)=false:=by grind
   rw [O,if_neg (show ¬ (t.k=1/\t.n>=v/\t.n>1000000000-vb) from fun h=>hc h.1)]
   simp_all [n3,AS,aP]
section
variable {hd:Tm->Int->Int->Int->Int->(Tm->OS S)->OS S} {vb db v d:Int} {t:Tm}
theorem wx {z:LC×Int} {α:Type} (f:LC->α) (g:Int->α):ab (!(z.2==0)) (g z.2) (f z.1)=eE (eW z) f g:=by
 rw [bG]
 unfold eW
 by_cases h:z.2=0
 ·rw [decide_eq_true h,if_pos h];rfl
 ·rw [decide_eq_false h,if_neg h];rfl
end
theorem Ie {t:Tm} (h:bw t=0):am t<=200/\au t<=20000/\rf false (-1) 24 t=true:=by
 grind [bw]
theorem pS {t:Tm} (h1:am t<=200) (h2:au t<=20000) (q:rf false (-1) 24 t=true):bw t=0:=by
 grind [bw]
theorem Et (t:Tm):0<=bw t/\bw t<=1000:=by
 grind [bw]
def Fm (t:Tm):Prop:=pf t/\bw t=0
theorem Fm.ok {t:Tm} (h:Fm t):pf t:=h.1
theorem Fm.rows {t:Tm} (h:Fm t):q7 t:=ZA t h.1 (Ie h.2).2.2
theorem Fm.dep {t:Tm} (h:Fm t):am t<=200:=(Ie h.2).1
theorem Fm.dP {t:Tm} (h:Fm t):au t<=20000:=(Ie h.2).2.1
theorem jr {vb db v d:Int} (q:0<=vb/\vb<=1000000000) {t t':Tm} (h:Fm t) (hl:uC vb db v d t= .ok t'):Fm t':=by
 obtain ⟨h1,h2,z,x⟩:=uP q.1 q.2 t v d t' hl
 obtain ⟨a,b,c⟩:=Ie h.2
 have:=x h.1
 exact ⟨this.1,pS (by omega) (by omega) (this.2.2 24 24 (by omega) (by omega) c)⟩
abbrev F3 (k:Nat):Prop:=4294968296<=k
theorem F3.fu (h:F3 k):Fu k:=by omega
theorem F3.fd (h:F3 k) {n:Nat} (hn:n<=1000):Fd k n:=by omega
theorem Fm.fd {t:Tm} (h:Fm t) (hk:F3 k):Fd k (am t):=hk.fd (by have:=h.dep;omega)
theorem Fm.vp {t:Tm} (h:Fm t) {v d:Int} (hv:0<=v/\v<=4611686018427380000) (hd:0<=d/\d<=4611686018427380000):VP v d (am t):=by have:=h.dep;unfold VP;omega
theorem Jl (x:Except Int Tm) (I:Tm×Int->OS S):I (tE x)=eE x (fun t=>I (t,0)) fun e=>I (oe,e):=by cases x<;>rfl
theorem aeU (hk:Fu k) (I:Tm×Int->OS S) {c0 c2:Int} {c1:Tm} {ns:List Int} (hl:ns.length<1000) (hn: ∀x∈ns,0<=x):
  ∀ (r p:List Int) (m:Nat),ns=p++r->r.length<m->nC k I c0 c1 c2 ns m (p.length:Int)=yX k c0 c1 c2 fun q=>pr.elim q (fun q=>I (q,0)) fun B=>I (oe,B):=by
 intro r
 induction r with
 |nil=>
  intro p m h z
  obtain ⟨m,rfl,A⟩:=pw z
  simp only [nC,xa,xu h,n3,ag hk,ar];rfl
 |cons x r E=>
  intro p m h z
  obtain ⟨m,rfl,A⟩:=pw z
  obtain ⟨F,J,L,M⟩:=qF h (by omega)
  have O:=hn x (by grind)
  grind [nC,xa,aY]
theorem Rr (hk:F3 k) {t:Tm} (q:Fm t) {f b:Int} (hf:0<=f/\f<=24) (hb:0<=b/\b<9223372036854775808) (I:Tm×Int->OS S):lv k t f b I=I (tE (uC 0 b 0 f t)):=by
 have hl:=aeU hk.fu I (c0:=b) (c2:=f) (c1:=t) (ns:=[f,b]) (by simp) (by grind) [f,b] [] k rfl (by grind)
 have hl:nC k I b t f [f,b] k 0=_:=hl
 simp only [lv,ag hk.fu,ar,yZ,BQ,zy q.ok (q.fd hk) (show am t<1099511627776 by have:=q.dep;omega),q.2,hl,yX]
 rw [show ((0:Int)==0)=true from rfl,uX,n3,if_neg (by omega),dt (by omega) (by unfold aG;omega) t q.ok q.rows _ (q.fd hk) (q.vp (by omega) (by omega)),ij,Jl _ I]
 rfl
def J6 (vb db:Int) (t:Tm):Except Int Tm:=bE (uC vb 0 0 0 t) (uC 0 db 0 0)
theorem mD {vb db:Int} (q:0<=vb/\vb<=1000000000) {t t':Tm} (h:Fm t) (hl:J6 vb db t= .ok t'):Fm t':=by
 obtain ⟨a,h1,h2⟩:=i8 hl
 exact jr (by omega) (jr q h h1) h2
theorem xJ {vb db:Int} {t:Tm} {e:Int} (h:J6 vb db t= .error e):0<e/\e<=1000:=by
 rcases be h with h|⟨a,_,h⟩
 ·exact M0 t h
 ·exact M0 a h
theorem aeV (hk:Fu k) (I:Tm×Int->OS S) {c0 c1:Int} {c2:Tm} {ns:List Int} (hl:ns.length<1000) (hn: ∀x∈ns,0<=x):
  ∀ (r p:List Int) (m:Nat),ns=p++r->r.length<m->nE k I c0 c1 c2 ns m (p.length:Int)=yW k c0 c1 c2 fun q=>pr.elim q (fun q=>I (q,0)) fun B=>I (oe,B):=by
 intro r
 induction r with
 |nil=>
  intro p m h z
  obtain ⟨m,rfl,A⟩:=pw z
  simp only [nE,xd,xu h,n3,ag hk,ar];rfl
 |cons x r E=>
  intro p m h z
  obtain ⟨m,rfl,A⟩:=pw z
  obtain ⟨F,J,L,M⟩:=qF h (by omega)
  have O:=hn x (by grind)
  grind [nE,xd,aY]
theorem He (hk:F3 k) {t:Tm} (q:Fm t) {vb db:Int} (z:0<=vb/\vb<=1000000) (A:0<=db/\db<9223372036854775808) (I:Tm×Int->OS S):lu k t vb db I=I (tE (J6 vb db t)):=by
 have hl:=aeV hk.fu I (c0:=db) (c1:=vb) (c2:=t) (ns:=[vb,db,1000000-vb]) (by simp) (by grind) [vb,db,1000000-vb] [] k rfl (by grind)
 have hl:nE k I db vb t [vb,db,1000000-vb] k 0=_:=hl
 simp only [lu,ag hk.fu,ar,vc (n:=1000000-vb) (by omega) (by omega),y7,BS,zy q.ok (q.fd hk) (show am t<1099511627776 by have:=q.dep;omega),q.2,hl,yW]
 rw [show ((0:Int)==0)=true from rfl,uX,n3,dt (show 0<=vb/\vb<=1000000000 by omega) (show aG 0 by unfold aG;omega) t q.ok q.rows _ (q.fd hk) (q.vp (by omega) (by omega)),ij,Jl _ I]
 unfold J6
 rw [AS]
 refine Dc (fun y B=> ?_) fun _ _=>rfl
 have x:=jr (show 0<=vb/\vb<=1000000000 by omega) q B
 rw [dt (show (0:Int)<=0/\(0:Int)<=1000000000 by omega) (show aG db by unfold aG;omega) y x.ok x.rows _ (x.fd hk) (x.vp (by omega) (by omega)),ij]
 rfl
theorem Rh {l:LC} (hl:l.length<1073741824) (I:LC->OS S):iu l I=I l:=by
 grind [iu,J5]
section
variable {hd:Tm->(Tm->OS S)->OS S}
theorem aev (hk:Fu k) (I:LT->OS S) {l:LT} (z: ∀y∈l,∀g,hd y g=g y) (hl:l.length<1073741824):
  ∀ (r p:LT) (m:Nat),l=p++r->r.length<m->mb hd k I l m p (p.length:Int)=I l:=by
 intro r
 induction r with
 |nil=>
  grind [pw,mb,yf,n3]
 |cons y r A=>
  intro p m h q
  obtain ⟨m,rfl,x⟩:=pw q
  obtain ⟨B,E,F,J⟩:=qF h (by omega)
  grind [mb,yf,ae,ar,J5]
theorem Ri (hk:Fu k) {l:LT} (q: ∀y∈l,∀g,hd y g=g y) (hl:l.length<1073741824) (I:LT->OS S):ui hd k l I=I l:=by
 simp only [ui,IS]
 exact aev hk I q hl l [] k rfl (by omega)
theorem aew (hk:Fu k) (I:Tm->OS S) {t:Tm} (x:pf t) (A: ∀b∈t.s,∀y∈b.c,∀g,hd y g=g y) (r1:LC) (r2:LT):
  ∀ (r p:LB) (m:Nat),t.s=p++r->r.length<m->qQ hd k I t r1 r2 m p (p.length:Int)=I (.mk t.k t.n t.name r1 r2 t.s):=by
 obtain ⟨O,T,W,Y,o5,o6,o7⟩:=x.no
 intro r
 induction r with
 |nil=>
  grind [pw,qQ,ye,n3]
 |cons y r B=>
  intro p m h E
  obtain ⟨m,rfl,q⟩:=pw E
  obtain ⟨F,J,L,M⟩:=qF h (by omega)
  have z:y∈t.s:=by grind
  have hb:=(x.bi z).1
  have hlen:p.length+r.length+1=t.s.length:=by grind
  simp only [qQ,ye,F,ae,J,p9,ar,L,Rh hb.2.1,ag hk,Ri hk (A y z) hb.2.2]
  rw [J5 (by grind)]
  have:=B (p++[y]) m M q
  omega
end
theorem vU (t:Tm):pf t-> ∀ {k:Nat} (I:Tm->OS S),Fd k (am t)->dJ k t I=I t:=by
 induction t using c7 with
 |h t A B=>
  intro z k I hk
  obtain ⟨q,rfl,E,hf⟩:=hk.pos' (HX t)
  obtain ⟨L,M,O,T,F,J,W⟩:=z.no
  simp only [dJ,IP,Rh F,ag E,Ri E (fun y x g=>A y x (z.ki x) g (hf _ (bY x))) J]
  have:=aew E I z (fun b hb y x g=>B b hb y x ((z.bi hb).2 y x) g (hf _ (b8 hb x))) t.r t.c t.s [] q rfl (by omega)
  refine o0 this ?_
  cases t;rfl
theorem ahz {v d d':Int} (h:24<=d) (h':24<=d') (t:Tm):cL v d t=cL v d' t:=by
 have hb: ∀kd,bX kd d=bX kd d':=fun kd=>by grind [bX,Av]
 simp_all [cL,Av]
theorem at8 (t:Tm): ∀ {v d d':Int},24<=d->24<=d'->rf false v d t=rf false v d' t:=by
 induction t using c7 with
 |h t q z=>
  intro v d d' h h'
  rw [wI,wI,ahz h h']
  have A: ∀ (l:LT) (i:Nat),(∀x∈l,x∈t.c)->bO false v d t.k i l=bO false v d' t.k i l:=by
   intro l
   induction l<;>grind [bO,bJ]
  grind [wH,av]
def s9 (i:Int) (r:LC) (fa:Bool):dC:=fun d f=>if bP (ie f) (i+d) then bE (eW (tb r 0 d)) fun s=>eW (if fa then iG f (i+d) s else iH f (i+d) s) else .ok f
theorem D5 (f:LC):BD (ie f):=by
 have:=D6 f
 exact ⟨Int.natCast_nonneg _,by show ((fS f:Nat):Int)<_;omega⟩
theorem ahR {f r:LC} {i:Int} (q:aq r) (h:(iH f i r).2=0):RF (iH f i r).1:=by
 grind [iH,KG,N5,L8,rA]
theorem azH (f g:LC):EN (IB f g).2:=x0 _
theorem ES (f g:LC):EN (IC f g).2:=x0 _
theorem agF (f g:LC):EN (M3 f g).2:=x0 _
theorem NM (f:LC):EN (FI f).2:=z8 fun h c=>azH _ _
theorem ahH (i:Int) (r:LC) (c:Cl):EN (d_ i r c).2:=by
 grind [d_,azH,uq]
theorem ahJ (i:Int) (r:LC) (c:Cl) (g:LC):EN (MG i r c g).2:=by
 grind [MG,azH,NM,uq]
theorem ahG (i:Int) (r h:LC) (c:Cl):EN (dY i r h c).2:=by
 grind [dY,ES,ahJ,ahH]
theorem ahQ (f:LC) (i:Int) (r:LC):EN (iH f i r).2:=by
 grind [iH,z8,ahG,lO]
theorem agW (f:LC):EN (sa f).2:=by
 unfold sa
 split
 ·exact x0 _
 ·exact lO
theorem agX (f:LC):EN (sg f).2:=by
 unfold sg
 split
 ·split
  ·exact x0 _
  ·exact NM _
 ·exact lO
theorem ahM {i:Int} {c:Cl} {h:LC} {q:LC×Int} (x:EN q.2):EN (LX i c h q).2:=by
 grind [LX,ES,agF]
theorem ahN (f:LC) (i:Int) (r:LC):EN (iG f i r).2:=by
 grind [iG,z8,ID,ahM,agW,agX,ES,lO]
theorem rB {i:Int} {r:LC} {fa:Bool} {d:Int} {f g:LC} (hf:RF f) (h:s9 i r fa d f= .ok g):RF g:=by
 unfold s9 at h
 split at h
 ·obtain ⟨s,h1,h⟩:=i8 h
  obtain ⟨q,rfl⟩:=rR h1
  have hs:=kQ q
  obtain ⟨h2,rfl⟩:=rR h
  cases fa with
  |true=>exact (ahO hf.2 hs.2 h2).1
  |false=>exact ahR hs.2 h2
 grind
theorem Bu {i:Int} {r:LC} {fa:Bool} {d:Int} {f:LC} {e:Int} (h:s9 i r fa d f= .error e):0<e/\e<=1000:=by
 grind [s9,be,q4,q_,EN,ahN,ahQ]
theorem QI {i:Int} {r:LC} {fa:Bool} {d:Int}:s9 i r fa d []= .ok []:=by
 grind [s9,bP,ie,EJ,D7,jJ]
def RR (i:Int) (r:LC) (fa:Bool) (d:Int) (f:LC):LC×Int:=if bP (ie f) (i+d) then if (tb r 0 d).2=0 then if fa then iG f (i+d) (tb r 0 d).1 else iH f (i+d) (tb r 0 d).1 else ([],(tb r 0 d).2) else (f,0)
theorem oJ (i:Int) (r:LC) (fa:Bool) (d:Int) (f:LC):eW (RR i r fa d f)=s9 i r fa d f:=by
 grind [RR,s9,jF,aD,iO,lk]
section
variable {i d:Int} {r f:LC}
theorem RS (hk:Fu k) (hf:RF f) (x:RF r) (z:0<=i/\i<24) (hd:0<=d/\d<4611686018427387000) (I:LC×Int->OS S):tF k f d i r I=I (RR i r true d f):=by
 have A:=hf.len;have B:=x.len
 simp only [tF,ag hk,vc (n:=i+d) (by omega) (by omega),Ha hk hf.2 (show f.length<4294967296 by omega),rF hk (D5 f),tD,J5 (show 0+f.length<=1099511627776 by omega),vX hk x.2 (show r.length<1073741824 by omega) (show aG 0 by unfold aG;omega) (show aG d by unfold aG;omega)]
 unfold RR
 cases bP (ie f) (i+d) with
 |false=>rfl
 |true=>
  rw [uX,n3,bG,if_pos rfl]
  by_cases q:(tb r 0 d).2=0
  ·have hs:=kQ q
   rw [decide_eq_true q,uX,n3,aje hk hf.2 hs.2 hf.lt hs.lt,if_pos q,if_pos rfl]
  grind [ae]
theorem ajW (hk:Fu k) (hf:RF f) (x:RF r) (z:0<=i/\i<24) (hd:0<=d/\d<4611686018427387000) (I:LC×Int->OS S):yF k f d i r I=I (RR i r false d f):=by
 have A:=hf.len;have B:=x.len
 simp only [yF,ag hk,vc (n:=i+d) (by omega) (by omega),Ha hk hf.2 (show f.length<4294967296 by omega),rF hk (D5 f),tD,J5 (show 0+f.length<=1099511627776 by omega),vX hk x.2 (show r.length<1073741824 by omega) (show aG 0 by unfold aG;omega) (show aG d by unfold aG;omega)]
 unfold RR
 cases bP (ie f) (i+d) with
 |false=>rfl
 |true=>
  rw [uX,n3,bG,if_pos rfl]
  by_cases q:(tb r 0 d).2=0
  ·have hs:=kQ q
   rw [decide_eq_true q,uX,n3,ajb hk hf.2 hs.2 hf.lt hs.lt,if_pos q,if_neg (by decide)]
  grind [ae]
end
def jU (j:Int) (c:Cl):Cl:=⟨pI c.pos j,pI c.neg j⟩
def ub (j:Int) (f:LC):LC:=(bp (f.map (jU j))).1
theorem JR (s j:Int):0<=pI s j/\pI s j<16777216:=by
 have:=aam s.toNat j
 exact ⟨Int.natCast_nonneg _,by show ((j7 s.toNat j:Nat):Int)<_;omega⟩
theorem DA (j:Int) (c:Cl):RC (jU j c):=⟨JR _ _,JR _ _⟩
theorem DD (j:Int) (f:LC): ∀c∈f.map (jU j),RC c:=fun c hc=>by
 grind [DA]
theorem DC {j:Int} {f:LC} (hf:f.length<=64):bp (f.map (jU j))=(ub j f,0):=Prod.ext rfl (LH (DD j f) (by grind))
theorem aad {j:Int} {f:LC} (hf:f.length<=64):RF (ub j f):=qX (fun c hc=>(DD j f c hc).ok) (by rw [DC hf])
theorem agO: ∀ (n:Nat) {l:LC} {c:Cl},(l.filter fun d=>dR c d&& !decide (d=c)).length<=n->(∀d∈l,RC d)->c∈l-> ∃d∈l,ce l d=true:=by
 have hle: ∀ {a b:Cl},RC a->RC b->(dR a b=true↔(∀j,b.pos.toNat.testBit j=true->a.pos.toNat.testBit j=true)/\ ∀j,b.neg.toNat.testBit j=true->a.neg.toNat.testBit j=true):=by
  intro a b ha hb
  unfold dR d9
  rw [decide_eq_true_eq]
  have O: ∀ {x y:Int},0<=x->(ep x y=x↔ ∀j,y.toNat.testBit j=true->x.toNat.testBit j=true):=by
   intro x y B
   unfold ep
   constructor
   ·intro h j hj
    have:(x.toNat|||y.toNat)=x.toNat:=by omega
    grind
   ·intro h
    have:(x.toNat|||y.toNat)=x.toNat:=by
     apply Nat.eq_of_testBit_eq
     grind
    omega
  cases a with
  |mk p q=>
   have h1:0<=p:=ha.1.1
   have h2:0<=q:=ha.2.1
   grind
 have E: ∀ {a b:Cl},RC a->RC b->dR a b=true->dR b a=true->a=b:=by
  intro a b ha hb h1 h2
  have J:=(hle ha hb).1 h1
  have L:=(hle hb ha).1 h2
  have B: ∀ {x y:Int},0<=x->0<=y->(∀j,y.toNat.testBit j=true->x.toNat.testBit j=true)->(∀j,x.toNat.testBit j=true->y.toNat.testBit j=true)->x=y:=by
   intro x y B hy a b
   have:x.toNat=y.toNat:=by
    apply Nat.eq_of_testBit_eq
    grind
   omega
  cases a;cases b
  have p1:=B ha.1.1 hb.1.1 J.1 L.1
  have p2:=B ha.2.1 hb.2.1 J.2 L.2
  grind
 intro n
 induction n with
 |zero=>
  grind [ce,List.filter_eq_nil_iff]
 |succ n T=>
  intro l c hn hl hc
  by_cases h:ce l c=true
  ·grind
  ·unfold ce at h
   rw [xm] at h
   have: ∃d∈l,¬ ((decide (d=c)|| !dR c d)=true):=Classical.byContradiction fun W=>h fun d hd=>Classical.byContradiction fun h2=>W ⟨d,hd,h2⟩
   obtain ⟨d,hd,F⟩:=this
   have h1:d≠c:=fun h=>F (by grind)
   have h2:dR c d=true:=by
    grind
   refine T (c:=d) ?_ hl hd
   have M:(l.filter fun e=>dR d e&& !decide (e=d)).length<(l.filter fun e=>dR c e&& !decide (e=c)).length:=by
    have Y:=hl c hc;have ad:=hl d hd
    have himp: ∀e∈l,(dR d e&& !decide (e=d))=true->(dR c e&& !decide (e=c))=true:=by
     grind
    have A: ∀ (p q:Cl->Bool) (m:LC),(∀e∈m,p e=true->q e=true)->(m.filter p).length<=(m.filter q).length:=by
     intro p q m
     induction m<;>grind
    have I: ∀ (p q:Cl->Bool) (m:LC),(∀e∈m,p e=true->q e=true)->d∈m->p d=false->q d=true->(m.filter p).length<(m.filter q).length:=by
     intro p q m
     induction m with
     |nil=>simp
     |cons e m im=>
      intro hm hdm hp hq
      have z: ∀e∈m,p e=true->q e=true:=fun e he=>hm e (by simp [he])
      have hb:=A p q m z
      rcases xB.1 hdm with rfl|hdm<;>grind
    exact I _ _ l himp hd (by simp) (by grind)
   omega
theorem JE {j:Int} {f:LC} (hf:RF f):(ub j f).length=0↔f.length=0:=by
 have h:=DC (j:=j) hf.len
 have z:=(As h).1
 constructor
 ·intro q
  apply Classical.byContradiction
  intro x
  obtain ⟨c,hc⟩:=List.exists_mem_of_length_pos (l:=f.map (jU j)) (by grind)
  obtain ⟨d,hd,hn⟩:=agO _ (xq _) (DD j f) hc
  have:d∈ub j f:=by grind [ta]
  grind
 ·intro q
  have:=Iy.1 q
  subst this;rfl
theorem aeC (hk:Fu k) (I:LC×Int->OS S) {i d:Int} (T:0<=i/\i<24) (hd:0<=d/\d<4611686018427387000) {f:LC} (hf:aq f) (hlen:f.length<1073741824):
  ∀ (r p:LC) (m:Nat) (o:LC),f=p++r->r.length<m->aq o->o.length=p.length->jw k I i d f m (p.length:Int) o=I (bp (o++r.map (jU (i+d)))):=by
 intro r
 induction r with
 |nil=>
  intro p m o h A q ho
  obtain ⟨m,rfl,z⟩:=pw A
  grind [jw,wN,n3,ag,kX]
 |cons x r E=>
  intro p m o h A q ho
  obtain ⟨m,rfl,z⟩:=pw A
  obtain ⟨F,J,L,M⟩:=qF h (by omega)
  have B:aX x:=hf x (by grind)
  have O:p.length<f.length:=by grind
  simp only [jw,wN,F,ae,J,p9,ag hk,vc (n:=i+d) (by omega) (by omega),Q4 hk B.1,Q4 hk B.2,L]
  rw [J5 (by grind)]
  have:=E (p++[x]) m (o++[jU (i+d) x]) M z (M1 q fun c hc=>by simp at hc;subst hc;exact (DA _ _).ok) (by grind)
  refine o0 this ?_
  simp
theorem Rl (hk:Fu k) {i d:Int} (q:0<=i/\i<24) (hd:0<=d/\d<4611686018427387000) {f:LC} (hf:RF f) (I:LC×Int->OS S):pc k f d i I=I (ub (i+d) f,0):=by
 have x:=hf.len
 have:=aeC hk I q hd hf.2 (by omega) f [] k [] rfl (by omega) (fun c hc=>by cases hc) rfl
 grind [pc,Hx,DC]
theorem B4 (fo fa:dC) (d:Int) (t:Tm):tZ fo fa d t=bE (if t.k=14 then fa d t.r else fo d t.r) fun z=>bE (aig fo fa d t.k 0 t.c) fun x=>bE (uD fo fa d t.k t.s) fun q=> .ok (.mk t.k t.n t.name z x q):=by cases t;rfl
theorem Ja {fo fa:dC} {d:Int} {x y:Tm} (h:tZ fo fa d x= .ok y):y.k=x.k:=by
 rw [B4] at h
 obtain ⟨_,_,h⟩:=i8 h
 obtain ⟨_,_,h⟩:=i8 h
 obtain ⟨_,_,h⟩:=i8 h
 injection h with h;subst h;rfl
theorem B3 (fo fa:dC) (d kd:Int) (b:Br Tm):Jn fo fa d kd b=bE (fa d b.f) fun x=>if x.length=0 then .ok [] else bE (xy fo fa d kd b.c) fun q=> .ok [.mk x q]:=by cases b;rfl
section
variable {fo fa:dC} (hfo: ∀d f e,fo d f= .error e->0<e/\e<=1000) (hfa: ∀d f e,fa d f= .error e->0<e/\e<=1000)
include hfo hfa
theorem jK (t:Tm): ∀ {d e},tZ fo fa d t= .error e->0<e/\e<=1000:=by
 induction t using gq with
 |h kd n nm r J sys E F=>
  intro d e h
  rw [tZ] at h
  rcases be h with h|⟨_,_,h⟩
  ·grind
  have q: ∀ {l:LT} {i:Nat},(∀x∈l,∀ {d e},tZ fo fa d x= .error e->0<e/\e<=1000)->aig fo fa d kd i l= .error e->0<e/\e<=1000:=by
   intro l
   induction l with
   |nil=>grind [aig]
   |cons t l A=>
    intro i hl h
    rw [aig] at h
    rcases be h with h|⟨_,_,h⟩
    ·exact hl t (by simp) h
    grind [be]
  have z: ∀ {l:LT},(∀x∈l,∀ {d e},tZ fo fa d x= .error e->0<e/\e<=1000)-> ∀ {e},xy fo fa d kd l= .error e->0<e/\e<=1000:=by
   intro l
   induction l with
   |nil=>grind [xy]
   |cons t l A=>
    intro hl e h
    rw [xy] at h
    rcases be h with h|⟨_,_,h⟩
    ·grind
    ·rcases be h with h|⟨_,_,h⟩
     ·exact A (fun x I=>hl x (by simp [I])) h
     simp_all
  have B: ∀ {l:LB},(∀b∈l,∀x∈b.c,∀ {d e},tZ fo fa d x= .error e->0<e/\e<=1000)->uD fo fa d kd l= .error e->0<e/\e<=1000:=by
   intro l
   induction l<;>grind [uD,be,B3]
  grind [be]
theorem Ug {kd d:Int}: ∀ {l:LT} {i:Nat} {e:Int},aig fo fa d kd i l= .error e->0<e/\e<=1000:=by
 intro l
 induction l with
 |nil=>grind [aig]
 |cons t l q=>
  intro i e h
  rw [aig] at h
  rcases be h with h|⟨_,_,h⟩
  ·exact jK hfo hfa t h
  grind [be]
theorem Uh {kd d:Int}: ∀ {l:LT} {e:Int},xy fo fa d kd l= .error e->0<e/\e<=1000:=by
 intro l
 induction l<;>grind [xy,be,jK]
end
theorem l3 {α β:Type} (x:Except Int Tm) (q: ∀e,x= .error e->0<e/\e<=1000) (f:Tm->α) (g:Int->α):(fun r:Tm×Int=>ab (!(r.2==0)) (g r.2) (f r.1)) (tE x)=eE x f g:=by
 cases x with
 |ok t=>rfl
 |error e=>
  have:=(q e rfl).1
  show ab (!(e==0)) (g e) (f oe)=g e
  grind [decide_eq_false,ae]
theorem AM {α β γ:Type} (x:Except Int α) (q: ∀e,x= .error e->0<e/\e<=1000) (z:α) (f:α->β) (g:Int->β):eE x (fun l=>(fun r:α×Int=>ab (!(r.2==0)) (g r.2) (f r.1)) (l,0)) (fun e=>(fun r:α×Int=>ab (!(r.2==0)) (g r.2) (f r.1)) (z,e))=eE x f g:=by
 cases x with
 |ok t=>rfl
 |error e=>
  have:=(q e rfl).1
  show ab (!(e==0)) (g e) (f z)=g e
  grind [decide_eq_false,ae]
theorem mo {G:Int->LC->LC}: ∀d f e,j0 G d f= .error e->0<e/\e<=1000:=fun d f e h=>by cases h
theorem jD {i:Int} {r:LC} {fa:Bool}: ∀d f e,s9 i r fa d f= .error e->0<e/\e<=1000:=fun d f e h=>Bu h
section
variable {hd:Tm->Int->Int->LC->(Tm×Int->OS S)->OS S} {i d:Int} {t:Tm} {r:LC}
theorem ahV (hk:Fu k) (A:0<=i/\i<24) (B:RF r) (E:0<=d/\d<4611686018427386000) (x:q7 t) (I:LC×Int->OS S): ∃z:LC×Int,eW z=(if t.k=14 then (s9 i r true) d t.r else (s9 i r false) d t.r)/\yG k t d i r I=I z:=by
 have q:=x.no.1
 simp only [yG,ag hk,RS hk q B A (show 0<=d/\d<4611686018427387000 by omega),ajW hk q B A (show 0<=d/\d<4611686018427387000 by omega)]
 by_cases h:t.k=14
 ·rw [h,if_pos rfl,show ((14:Int)==14)=true from rfl,ae]
  grind [oJ]
 ·rw [if_neg h,show (t.k==14)=false from by grind,n3]
  grind [oJ]
theorem ahS (hk:Fu k) (I:LT×Int->OS S) (B:0<=d/\d<4611686018427386000) (E: ∀y∈t.c,∀b,0<=b/\b<=1-> ∀g,hd y (d+b) i r g=g (tE (tZ (s9 i r false) (s9 i r true) (d+b) y))) (hl:t.c.length<1073741824):
  ∀ (q p:LT) (m:Nat) (acc:LT),t.c=p++q->q.length<m->acc.length=p.length->
  lX hd k I i r t t.c d m acc (p.length:Int)=eE (aig (s9 i r false) (s9 i r true) d t.k p.length q) (fun l=>I (acc++l,0)) fun e=>I ([],e):=by
 intro q
 induction q with
 |nil=>
  grind [pw,lX,wR,n3,aig,aP]
 |cons y q F=>
  intro p m acc h J ha
  obtain ⟨m,rfl,x⟩:=pw J
  obtain ⟨L,M,O,T⟩:=qF h (by omega)
  have W:p.length<t.c.length:=by grind
  have A:=gr t.k p.length
  have Y:=E y (by grind) (bJ t.k p.length) A
  simp only [lX,wR,L,ae,M,p9,ag hk,tG,jE,ar,vc (n:=d+bJ t.k p.length) (by omega) (by omega),Y]
  refine o0 (l3 (β:=Unit) _ (fun e he=>jK jD jD y he) (fun z=>nW (aw 1099511627776 acc.length [z].length) fun _=>lX hd k I i r t t.c d m (acc++[z]) (oa .i64 ((p.length:Int)+1))) fun e=>I ([],e)) ?_
  simp only [aig,AS,aP]
  refine Dc (fun t' ad=> ?_) fun e _=>rfl
  rw [J5 (by grind),O,F (p++[y]) m (acc++[t']) T x (by grind),show (p++[y]).length=p.length+1 by simp]
  simp
theorem ahT (hk:Fu k) (I:LT×Int->OS S) {x:Br Tm} {kd:Int} (B:0<=d/\d<4611686018427386000) (E: ∀y∈x.c,∀g,hd y (d+av kd) i r g=g (tE (tZ (s9 i r false) (s9 i r true) (d+av kd) y))) (hl:x.c.length<1073741824):
  ∀ (q p:LT) (m:Nat) (acc:LT),x.c=p++q->q.length<m->acc.length=p.length->
  lW hd k I i r (av kd) x.c d m acc (p.length:Int)=eE (xy (s9 i r false) (s9 i r true) d kd q) (fun l=>I (acc++l,0)) fun e=>I ([],e):=by
 have F:=KZ kd
 intro q
 induction q with
 |nil=>
  grind [pw,lW,wQ,n3,xy,aP]
 |cons y q J=>
  intro p m acc h L ha
  obtain ⟨m,rfl,A⟩:=pw L
  obtain ⟨M,O,T,W⟩:=qF h (by omega)
  have Y:p.length<x.c.length:=by grind
  have hy:=E y (by grind)
  simp only [lW,wQ,M,ae,O,p9,ag hk,tH,ar,vc (n:=d+av kd) (by omega) (by omega),hy]
  refine o0 (l3 (β:=Unit) _ (fun e he=>jK jD jD y he) (fun z=>nW (aw 1099511627776 acc.length [z].length) fun _=>lW hd k I i r (av kd) x.c d m (acc++[z]) (oa .i64 ((p.length:Int)+1))) fun e=>I ([],e)) ?_
  simp only [xy,AS,aP]
  refine Dc (fun t' ad=> ?_) fun e _=>rfl
  rw [J5 (by grind),T,J (p++[y]) m (acc++[t']) W A (by grind)]
  simp
theorem ahU (hk:Fu k) (I:Tm×Int->OS S) (hi:0<=i/\i<24) (hr:RF r) (J:0<=d/\d<4611686018427386000) {r1:LC×Int} {r2:LT×Int} (Y:pf t) (L:q7 t) (hQ: ∀b∈t.s,∀y∈b.c,∀g,hd y (d+av t.k) i r g=g (tE (tZ (s9 i r false) (s9 i r true) (d+av t.k) y))):
  ∀ (B p:LB) (m:Nat) (o:LB),t.s=p++B->B.length<m->o.length<=p.length->
  fV hd k I i r t r1 r2 d m (av t.k) o (p.length:Int)=eE (uD (s9 i r false) (s9 i r true) d t.k B) (fun s=>I (.mk t.k t.n t.name r1.1 r2.1 (o++s),0)) fun e=>I (oe,e):=by
 obtain ⟨o1,o2,o3,o4,o5,o6,o7⟩:=Y.no
 intro B
 induction B with
 |nil=>
  grind [pw,fV,wS,n3,uD,aP]
 |cons x B ih=>
  intro p m o h M ho
  obtain ⟨m,rfl,E⟩:=pw M
  obtain ⟨e1,e2,e3,e4⟩:=qF h (by omega)
  have O:x∈t.s:=by grind
  have ad:p.length<t.s.length:=by grind
  have hb:=(Y.bi O).1
  have T:=(L.bi O).1
  have hM:=fun g:LT×Int->OS S=>ahT (kd:=t.k) hk g J (hQ x O) hb.2.2 x.c [] k [] rfl (by omega) rfl
  have hM: ∀g:LT×Int->OS S,lW hd k g i r (av t.k) x.c d k [] 0=_:=hM
  simp only [fV,wS,e1,ae,e2,p9,ag hk,RS hk T hr hi (show 0<=d/\d<4611686018427387000 by omega),DK,HB,hM,e3,zg]
  have W:=fun q:LC=>AM (β:=OS S) (γ:=Unit) (xy (s9 i r false) (s9 i r true) d t.k x.c) (fun e he=>Uh jD jD he) [] (fun l=>nW (aw 1099511627776 o.length [Br.mk q l].length) fun _=>fV hd k I i r t r1 r2 d m (av t.k) (o++[Br.mk q l]) (((p++[x]).length:Nat):Int)) fun e=>I (oe,e)
  refine o0 (wx (z:=(RR i r true d x.f)) (fun q=>ab (((q.length:Nat):Int)==0) (fV hd k I i r t r1 r2 d m (av t.k) o (((p++[x]).length:Nat):Int)) (eE (xy (s9 i r false) (s9 i r true) d t.k x.c) (fun l=>(fun A:LT×Int=>ab (!(A.2==0)) (I (oe,A.2)) (nW (aw 1099511627776 o.length [Br.mk q A.1].length) fun _=>fV hd k I i r t r1 r2 d m (av t.k) (o++[Br.mk q A.1]) (((p++[x]).length:Nat):Int))) (l,0)) fun e=>(fun A:LT×Int=>ab (!(A.2==0)) (I (oe,A.2)) (nW (aw 1099511627776 o.length [Br.mk q A.1].length) fun _=>fV hd k I i r t r1 r2 d m (av t.k) (o++[Br.mk q A.1]) (((p++[x]).length:Nat):Int))) ([],e))) fun e=>I (oe,e)) ?_
  rw [show eW (RR i r true d x.f)=(s9 i r true) d x.f from oJ _ _ _ _ _]
  rw [uD,B3,AS,AS]
  refine Dc (fun q ao=> ?_) fun e _=>rfl
  rw [qY,aY]
  by_cases F:q.length=0
  ·rw [if_pos F,if_pos F,aP,AS,ih (p++[x]) m o e4 E (by grind)]
   rfl
  ·rw [if_neg F,if_neg F,W q,AS]
   refine Dc (fun l hl=> ?_) fun e _=>rfl
   rw [aP,AS,J5 (by grind),ih (p++[x]) m (o++[Br.mk q l]) e4 E (by grind)]
   grind [aP]
end
theorem ahW {i:Int} {r:LC} (W:0<=i/\i<24) (Y:RF r) (t:Tm):pf t->q7 t-> ∀ {k:Nat} {d:Int} (I:Tm×Int->OS S),Fd k (am t)->0<=d->d+am t<4611686018427386000->d7 k t d i r I=I (tE (tZ (s9 i r false) (s9 i r true) d t)):=by
 induction t using c7 with
 |h t M O=>
  intro F A k d I hk hv ad
  obtain ⟨q,rfl,J,hf⟩:=hk.pos' (HX t)
  have hp:=HX t
  have B:0<=d/\d<4611686018427386000:=by omega
  obtain ⟨o1,o2,o3,o4,o5,o6,o7⟩:=F.no
  have ao:=KZ t.k
  have hQ: ∀y∈t.c,∀b,0<=b/\b<=1-> ∀g:Tm×Int->OS S,d7 q y (d+b) i r g=g (tE (tZ (s9 i r false) (s9 i r true) (d+b) y)):=fun y x b h2 g=>
   M y x (F.ki x) (A.ki x) g (hf _ (bY x)) (by omega) (by have:=bY x;omega)
  have T: ∀b∈t.s,∀y∈b.c,∀g:Tm×Int->OS S,d7 q y (d+av t.k) i r g=g (tE (tZ (s9 i r false) (s9 i r true) (d+av t.k) y)):=fun b hb y x g=>
   O b hb y x ((F.bi hb).2 y x) ((A.bi hb).2 y x) g (hf _ (b8 hb x)) (by omega) (by have:=b8 hb x;omega)
  have hK: ∀g:LT×Int->OS S,lX (d7 q) q g i r t t.c d q [] 0=_:=fun g=>ahS J g B hQ o6 t.c [] q [] rfl (by omega) rfl
  have hS:=fun (r1:LC×Int) (r2:LT×Int)=>ahU (r1:=r1) (r2:=r2) J I W Y B F A T t.s [] q [] rfl (by omega) (xq _)
  have hS: ∀ (r1:LC×Int) (r2:LT×Int),fV (d7 q) q I i r t r1 r2 d q (av t.k) [] 0=_:=hS
  have E: ∀ (r1:LC×Int) (r2:LT×Int),ab (t.k==15) (fV (d7 q) q I i r t r1 r2 d q 1 [] 0) (fV (d7 q) q I i r t r1 r2 d q 0 [] 0)=eE (uD (s9 i r false) (s9 i r true) d t.k t.s) (fun s=>I (.mk t.k t.n t.name r1.1 r2.1 s,0)) fun e=>I (oe,e):=by
   grind [cH,av]
  obtain ⟨z,hz,pA⟩:=ahV J W Y B A (fun r1=>ab (!(r1.2==0)) (I (oe,r1.2)) (eE (aig (s9 i r false) (s9 i r true) d t.k 0 t.c) (fun l=>(fun r2:LT×Int=>ab (!(r2.2==0)) (I (oe,r2.2)) (eE (uD (s9 i r false) (s9 i r true) d t.k t.s) (fun s=>I (.mk t.k t.n t.name r1.1 r2.1 s,0)) fun e=>I (oe,e))) (l,0)) fun e=>(fun r2:LT×Int=>ab (!(r2.2==0)) (I (oe,r2.2)) (eE (uD (s9 i r false) (s9 i r true) d t.k t.s) (fun s=>I (.mk t.k t.n t.name r1.1 r2.1 s,0)) fun e=>I (oe,e))) ([],e)))
  simp only [d7,HF,ag J,ar,DL,HC,hK,E,zg,List.length_nil]
  refine o0 pA ?_
  rw [Jl _ I,B4,<-hz]
  refine o0 (wx (z:=z) (fun L=>eE (aig (s9 i r false) (s9 i r true) d t.k 0 t.c) (fun l=>(fun r2:LT×Int=>ab (!(r2.2==0)) (I (oe,r2.2)) (eE (uD (s9 i r false) (s9 i r true) d t.k t.s) (fun s=>I (.mk t.k t.n t.name L r2.1 s,0)) fun e=>I (oe,e))) (l,0)) fun e=>(fun r2:LT×Int=>ab (!(r2.2==0)) (I (oe,r2.2)) (eE (uD (s9 i r false) (s9 i r true) d t.k t.s) (fun s=>I (.mk t.k t.n t.name L r2.1 s,0)) fun e=>I (oe,e))) ([],e)) fun e=>I (oe,e)) ?_
  rw [AS]
  refine Dc (fun L _=> ?_) fun e _=>rfl
  refine o0 (AM (β:=OS S) (γ:=Unit) (aig (s9 i r false) (s9 i r true) d t.k 0 t.c) (fun e he=>Ug jD jD he) [] (fun l=>eE (uD (s9 i r false) (s9 i r true) d t.k t.s) (fun s=>I (.mk t.k t.n t.name L l s,0)) fun e=>I (oe,e)) fun e=>I (oe,e)) ?_
  simp only [AS,aP]
section
variable {hd:Tm->Int->Int->(Tm×Int->OS S)->OS S} {i d:Int} {t:Tm}
theorem aaq (hk:Fu k) (A:0<=i/\i<24) (B:0<=d/\d<4611686018427386000) (q:q7 t) (I:LC×Int->OS S): ∃z:LC×Int,eW z=(if t.k=14 then (j0 fun d f=>ub (i+d) f) d t.r else (j0 fun d f=>ub (i+d) f) d t.r)/\yH k t d i I=I z:=by
 have x:=q.no.1
 simp only [yH,ag hk,Rl hk A (show 0<=d/\d<4611686018427387000 by omega) x]
 by_cases h:t.k=14
 ·rw [h,if_pos rfl,show ((14:Int)==14)=true from rfl,ae]
  exact ⟨_,rfl,rfl⟩
 ·rw [if_neg h,show (t.k==14)=false from by grind,n3]
  exact ⟨_,rfl,rfl⟩
theorem aan (hk:Fu k) (I:LT×Int->OS S) (B:0<=d/\d<4611686018427386000) (E: ∀y∈t.c,∀b,0<=b/\b<=1-> ∀g,hd y (d+b) i g=g (tE (tZ (j0 fun d f=>ub (i+d) f) (j0 fun d f=>ub (i+d) f) (d+b) y))) (hl:t.c.length<1073741824):
  ∀ (q p:LT) (m:Nat) (acc:LT),t.c=p++q->q.length<m->acc.length=p.length->
  lV hd k I i t t.c d m acc (p.length:Int)=eE (aig (j0 fun d f=>ub (i+d) f) (j0 fun d f=>ub (i+d) f) d t.k p.length q) (fun l=>I (acc++l,0)) fun e=>I ([],e):=by
 intro q
 induction q with
 |nil=>
  grind [pw,lV,wP,n3,aig,aP]
 |cons y q F=>
  intro p m acc h J ha
  obtain ⟨m,rfl,x⟩:=pw J
  obtain ⟨L,M,O,T⟩:=qF h (by omega)
  have W:p.length<t.c.length:=by grind
  have A:=gr t.k p.length
  have Y:=E y (by grind) (bJ t.k p.length) A
  simp only [lV,wP,L,ae,M,p9,ag hk,tG,jE,ar,vc (n:=d+bJ t.k p.length) (by omega) (by omega),Y]
  refine o0 (l3 (β:=Unit) _ (fun e he=>jK mo mo y he) (fun z=>nW (aw 1099511627776 acc.length [z].length) fun _=>lV hd k I i t t.c d m (acc++[z]) (oa .i64 ((p.length:Int)+1))) fun e=>I ([],e)) ?_
  simp only [aig,AS,aP]
  refine Dc (fun t' ad=> ?_) fun e _=>rfl
  rw [J5 (by grind),O,F (p++[y]) m (acc++[t']) T x (by grind),show (p++[y]).length=p.length+1 by simp]
  simp
theorem aao (hk:Fu k) (I:LT×Int->OS S) {x:Br Tm} {kd:Int} (B:0<=d/\d<4611686018427386000) (E: ∀y∈x.c,∀g,hd y (d+av kd) i g=g (tE (tZ (j0 fun d f=>ub (i+d) f) (j0 fun d f=>ub (i+d) f) (d+av kd) y))) (hl:x.c.length<1073741824):
  ∀ (q p:LT) (m:Nat) (acc:LT),x.c=p++q->q.length<m->acc.length=p.length->
  lU hd k I i (av kd) x.c d m acc (p.length:Int)=eE (xy (j0 fun d f=>ub (i+d) f) (j0 fun d f=>ub (i+d) f) d kd q) (fun l=>I (acc++l,0)) fun e=>I ([],e):=by
 have F:=KZ kd
 intro q
 induction q with
 |nil=>
  grind [pw,lU,wO,n3,xy,aP]
 |cons y q J=>
  intro p m acc h L ha
  obtain ⟨m,rfl,A⟩:=pw L
  obtain ⟨M,O,T,W⟩:=qF h (by omega)
  have Y:p.length<x.c.length:=by grind
  have hy:=E y (by grind)
  simp only [lU,wO,M,ae,O,p9,ag hk,tH,ar,vc (n:=d+av kd) (by omega) (by omega),hy]
  refine o0 (l3 (β:=Unit) _ (fun e he=>jK mo mo y he) (fun z=>nW (aw 1099511627776 acc.length [z].length) fun _=>lU hd k I i (av kd) x.c d m (acc++[z]) (oa .i64 ((p.length:Int)+1))) fun e=>I ([],e)) ?_
  simp only [xy,AS,aP]
  refine Dc (fun t' ad=> ?_) fun e _=>rfl
  rw [J5 (by grind),T,J (p++[y]) m (acc++[t']) W A (by grind)]
  simp
theorem aap (hk:Fu k) (I:Tm×Int->OS S) (hi:0<=i/\i<24) (J:0<=d/\d<4611686018427386000) {r1:LC×Int} {r2:LT×Int} (Y:pf t) (L:q7 t) (hQ: ∀b∈t.s,∀y∈b.c,∀g,hd y (d+av t.k) i g=g (tE (tZ (j0 fun d f=>ub (i+d) f) (j0 fun d f=>ub (i+d) f) (d+av t.k) y))):
  ∀ (B p:LB) (m:Nat) (o:LB),t.s=p++B->B.length<m->o.length<=p.length->
  L0 hd k I i t r1 r2 d m (av t.k) o (p.length:Int)=eE (uD (j0 fun d f=>ub (i+d) f) (j0 fun d f=>ub (i+d) f) d t.k B) (fun s=>I (.mk t.k t.n t.name r1.1 r2.1 (o++s),0)) fun e=>I (oe,e):=by
 obtain ⟨o1,o2,o3,o4,o5,o6,o7⟩:=Y.no
 intro B
 induction B with
 |nil=>
  grind [pw,L0,wT,n3,uD,aP]
 |cons x B ih=>
  intro p m o h M ho
  obtain ⟨m,rfl,E⟩:=pw M
  obtain ⟨e1,e2,e3,e4⟩:=qF h (by omega)
  have O:x∈t.s:=by grind
  have ad:p.length<t.s.length:=by grind
  have hb:=(Y.bi O).1
  have T:=(L.bi O).1
  have hM:=fun g:LT×Int->OS S=>aao (kd:=t.k) hk g J (hQ x O) hb.2.2 x.c [] k [] rfl (by omega) rfl
  have hM: ∀g:LT×Int->OS S,lU hd k g i (av t.k) x.c d k [] 0=_:=hM
  simp only [L0,wT,e1,ae,e2,p9,ag hk,Rl hk hi (show 0<=d/\d<4611686018427387000 by omega) T,DI,Hz,hM,e3,zg]
  have W:=fun q:LC=>AM (β:=OS S) (γ:=Unit) (xy (j0 fun d f=>ub (i+d) f) (j0 fun d f=>ub (i+d) f) d t.k x.c) (fun e he=>Uh mo mo he) [] (fun l=>nW (aw 1099511627776 o.length [Br.mk q l].length) fun _=>L0 hd k I i t r1 r2 d m (av t.k) (o++[Br.mk q l]) (((p++[x]).length:Nat):Int)) fun e=>I (oe,e)
  refine o0 (wx (z:=(ub (i+d) x.f,(0:Int))) (fun q=>ab (((q.length:Nat):Int)==0) (L0 hd k I i t r1 r2 d m (av t.k) o (((p++[x]).length:Nat):Int)) (eE (xy (j0 fun d f=>ub (i+d) f) (j0 fun d f=>ub (i+d) f) d t.k x.c) (fun l=>(fun A:LT×Int=>ab (!(A.2==0)) (I (oe,A.2)) (nW (aw 1099511627776 o.length [Br.mk q A.1].length) fun _=>L0 hd k I i t r1 r2 d m (av t.k) (o++[Br.mk q A.1]) (((p++[x]).length:Nat):Int))) (l,0)) fun e=>(fun A:LT×Int=>ab (!(A.2==0)) (I (oe,A.2)) (nW (aw 1099511627776 o.length [Br.mk q A.1].length) fun _=>L0 hd k I i t r1 r2 d m (av t.k) (o++[Br.mk q A.1]) (((p++[x]).length:Nat):Int))) ([],e))) fun e=>I (oe,e)) ?_
  rw [show eW (ub (i+d) x.f,(0:Int))=(j0 fun d f=>ub (i+d) f) d x.f from rfl]
  rw [uD,B3,AS,AS]
  refine Dc (fun q ao=> ?_) fun e _=>rfl
  rw [qY,aY]
  by_cases F:q.length=0
  ·rw [if_pos F,if_pos F,aP,AS,ih (p++[x]) m o e4 E (by grind)]
   rfl
  ·rw [if_neg F,if_neg F,W q,AS]
   refine Dc (fun l hl=> ?_) fun e _=>rfl
   rw [aP,AS,J5 (by grind),ih (p++[x]) m (o++[Br.mk q l]) e4 E (by grind)]
   grind [aP]
end
theorem aar {i:Int} (W:0<=i/\i<24) (t:Tm):pf t->q7 t-> ∀ {k:Nat} {d:Int} (I:Tm×Int->OS S),Fd k (am t)->0<=d->d+am t<4611686018427386000->dT k t d i I=I (tE (tZ (j0 fun d f=>ub (i+d) f) (j0 fun d f=>ub (i+d) f) d t)):=by
 induction t using c7 with
 |h t M O=>
  intro F A k d I hk hv ad
  obtain ⟨q,rfl,J,hf⟩:=hk.pos' (HX t)
  have hp:=HX t
  have B:0<=d/\d<4611686018427386000:=by omega
  obtain ⟨o1,o2,o3,o4,o5,o6,o7⟩:=F.no
  have ao:=KZ t.k
  have hQ: ∀y∈t.c,∀b,0<=b/\b<=1-> ∀g:Tm×Int->OS S,dT q y (d+b) i g=g (tE (tZ (j0 fun d f=>ub (i+d) f) (j0 fun d f=>ub (i+d) f) (d+b) y)):=fun y x b h2 g=>
   M y x (F.ki x) (A.ki x) g (hf _ (bY x)) (by omega) (by have:=bY x;omega)
  have T: ∀b∈t.s,∀y∈b.c,∀g:Tm×Int->OS S,dT q y (d+av t.k) i g=g (tE (tZ (j0 fun d f=>ub (i+d) f) (j0 fun d f=>ub (i+d) f) (d+av t.k) y)):=fun b hb y x g=>
   O b hb y x ((F.bi hb).2 y x) ((A.bi hb).2 y x) g (hf _ (b8 hb x)) (by omega) (by have:=b8 hb x;omega)
  have hK: ∀g:LT×Int->OS S,lV (dT q) q g i t t.c d q [] 0=_:=fun g=>aan J g B hQ o6 t.c [] q [] rfl (by omega) rfl
  have Y:=fun (r1:LC×Int) (r2:LT×Int)=>aap (r1:=r1) (r2:=r2) J I W B F A T t.s [] q [] rfl (by omega) (xq _)
  have Y: ∀ (r1:LC×Int) (r2:LT×Int),L0 (dT q) q I i t r1 r2 d q (av t.k) [] 0=_:=Y
  have E: ∀ (r1:LC×Int) (r2:LT×Int),ab (t.k==15) (L0 (dT q) q I i t r1 r2 d q 1 [] 0) (L0 (dT q) q I i t r1 r2 d q 0 [] 0)=eE (uD (j0 fun d f=>ub (i+d) f) (j0 fun d f=>ub (i+d) f) d t.k t.s) (fun s=>I (.mk t.k t.n t.name r1.1 r2.1 s,0)) fun e=>I (oe,e):=by
   grind [cH,av]
  obtain ⟨z,hz,pA⟩:=aaq J W B A (fun r1=>ab (!(r1.2==0)) (I (oe,r1.2)) (eE (aig (j0 fun d f=>ub (i+d) f) (j0 fun d f=>ub (i+d) f) d t.k 0 t.c) (fun l=>(fun r2:LT×Int=>ab (!(r2.2==0)) (I (oe,r2.2)) (eE (uD (j0 fun d f=>ub (i+d) f) (j0 fun d f=>ub (i+d) f) d t.k t.s) (fun s=>I (.mk t.k t.n t.name r1.1 r2.1 s,0)) fun e=>I (oe,e))) (l,0)) fun e=>(fun r2:LT×Int=>ab (!(r2.2==0)) (I (oe,r2.2)) (eE (uD (j0 fun d f=>ub (i+d) f) (j0 fun d f=>ub (i+d) f) d t.k t.s) (fun s=>I (.mk t.k t.n t.name r1.1 r2.1 s,0)) fun e=>I (oe,e))) ([],e)))
  simp only [dT,HG,ag J,ar,DJ,HA,hK,E,zg,List.length_nil]
  refine o0 pA ?_
  rw [Jl _ I,B4,<-hz]
  refine o0 (wx (z:=z) (fun L=>eE (aig (j0 fun d f=>ub (i+d) f) (j0 fun d f=>ub (i+d) f) d t.k 0 t.c) (fun l=>(fun r2:LT×Int=>ab (!(r2.2==0)) (I (oe,r2.2)) (eE (uD (j0 fun d f=>ub (i+d) f) (j0 fun d f=>ub (i+d) f) d t.k t.s) (fun s=>I (.mk t.k t.n t.name L r2.1 s,0)) fun e=>I (oe,e))) (l,0)) fun e=>(fun r2:LT×Int=>ab (!(r2.2==0)) (I (oe,r2.2)) (eE (uD (j0 fun d f=>ub (i+d) f) (j0 fun d f=>ub (i+d) f) d t.k t.s) (fun s=>I (.mk t.k t.n t.name L r2.1 s,0)) fun e=>I (oe,e))) ([],e)) fun e=>I (oe,e)) ?_
  rw [AS]
  refine Dc (fun L _=> ?_) fun e _=>rfl
  refine o0 (AM (β:=OS S) (γ:=Unit) (aig (j0 fun d f=>ub (i+d) f) (j0 fun d f=>ub (i+d) f) d t.k 0 t.c) (fun e he=>Ug mo mo he) [] (fun l=>eE (uD (j0 fun d f=>ub (i+d) f) (j0 fun d f=>ub (i+d) f) d t.k t.s) (fun s=>I (.mk t.k t.n t.name L l s,0)) fun e=>I (oe,e)) fun e=>I (oe,e)) ?_
  simp only [AS,aP]
def yw (i:Int):Int->LC->LC:=fun d f=>ub (i+d) f
def eB (i:Int) (r:LC) (fa:Bool):dC:=DS (s9 i r fa) (yw i)
theorem uz (i:Int) (r:LC) (fa:Bool) (d:Int) (f:LC):eB i r fa d f=bE (s9 i r fa d f) fun m=> .ok (ub (i+d) m):=rfl
theorem pR {i:Int} {r:LC} {fa:Bool}: ∀d f e,eB i r fa d f= .error e->0<e/\e<=1000:=fun d f e h=>by
 rw [uz] at h
 rcases be h with h|⟨_,_,h⟩
 ·exact Bu h
 simp_all
section
variable {hd:Tm->Int->LC->Int->Bool->(Tm->OS S)->OS S} {i d:Int} {r:LC} {t:Tm}
end
def Ab (i:Int) (r:LC) (t:Tm):Except Int Tm:=bE (eW (tb r i 1)) fun s=>tZ (eB i s false) (eB i s true) 0 t
theorem fP {i:Int} {r:LC} {t:Tm} {e:Int} (h:Ab i r t= .error e):0<e/\e<=1000:=by
 rcases be h with h|⟨s,_,h⟩
 ·grind [q4,q_,EN]
 ·exact jK pR pR t h
theorem TZ {i:Int} {r:LC} {t y:Tm} (h:Ab i r t= .ok y):y.k=t.k:=by
 obtain ⟨s,_,h⟩:=i8 h
 exact Ja h
theorem Ra (hk:F3 k) {t:Tm} (q:Fm t) {i:Int} (B:0<=i/\i<24) {r:LC} (z:RF r) (I:Tm×Int->OS S):m_ k t i r I=I (tE (Ab i r t)):=by
 have Y:=z.len
 have M:=q.dep
 simp only [m_,ag hk.fu,ar,DM,zy q.ok (q.fd hk) (show am t<1099511627776 by omega),q.2,ai7 hk.fu,rH hk.fu z.2 z.lt,z.right,decide_eq_true B,vX hk.fu z.2 (show r.length<1073741824 by omega) (show aG i by unfold aG;omega) (show aG 1 by unfold aG;omega),DF,DG,DH,DE]
 rw [show ((0:Int)==0)=true from rfl,uX,n3,n3,n3,n3]
 rw [Jl _ I]
 unfold Ab
 rw [AS]
 by_cases A:(tb r i 1).2=0
 ·have hs:=kQ A
  rw [bG,decide_eq_true A,uX,n3,jF A,aP,ahW B hs t q.ok q.rows _ (q.fd hk) (by omega) (by omega)]
  refine o0 (l3 (α:=OS S) (β:=Unit) _ (fun e he=>jK jD jD t he) (fun x=>dT k x 0 i fun L=>I (L.1,L.2)) fun e=>I (oe,e)) ?_
  have E:=alm (fo:=s9 i (tb r i 1).1 false) (fa:=s9 i (tb r i 1).1 true) (G:=yw i) (fun d f g hf h=>rB hf h) (fun d f hf=>JE hf) t 0 q.rows
  show _=eE (tZ (DS (s9 i (tb r i 1).1 false) (yw i)) (DS (s9 i (tb r i 1).1 true) (yw i)) 0 t) _ _
  rw [<-E,AS]
  refine Dc (fun x O=> ?_) fun e _=>rfl
  have T:=Uj (fun d f g hf h=>rB hf h) (fun d f g hf h=>rB hf h) (fun d=>QI) t 0 x O
  obtain ⟨w1,w2,w3,W⟩:=T
  obtain ⟨F,J⟩:=W q.ok q.rows
  rw [aar B x F J _ (hk.fd (by omega)) (by omega) (by omega)]
  exact Jl _ I
 ·rw [bG,decide_eq_false A,sQ,ae,iO A];rfl
def In (k:Nat) (t:Tm):Prop:=pf t/\Fd k (am t)/\au t<1099511627776
theorem In.dep {t:Tm} (h:In k t):am t<1099511627776:=by have:=zG t;have:=h.2.2;omega
theorem Fm.isIn {t:Tm} (h:Fm t) (hk:F3 k):In k t:=⟨h.ok,h.fd hk,by have:=h.dP;omega⟩
def xv:LT->Int
 |[]=>0
 |t::l=>if bw t=0 then xv l else bw t
theorem Sq {l:LT} (hl: ∀t∈l,pf t) (h:xv l=0): ∀t∈l,Fm t:=by
 induction l with
 |nil=>simp
 |cons x l z=>
  intro t ht
  unfold xv at h
  split at h
  ·next q=>
   rcases xB.1 ht with rfl|ht
   ·exact ⟨hl _ (by simp),q⟩
   grind
  omega
theorem aki (l:LT):0<=xv l/\xv l<=1000:=by
 induction l with
 |nil=>grind [xv]
 |cons x l q=>
  unfold xv
  split<;>simp_all [Et]
theorem rI (c e:Int) (I:Int->OS S):iZ k e c I=I (if c=0 then e else c):=by
 grind [iZ,aY]
theorem aem (hk:Fu k) (I:Int->OS S) {l:LT} (hl: ∀t∈l,In k t) (hlen:l.length<1000):
  ∀ (r p:LT) (m:Nat) (b:Int),l=p++r->r.length<m->pY k I l m b (p.length:Int)=I (if b=0 then xv r else b):=by
 intro r
 induction r with
 |nil=>
  grind [pw,pY,wL,n3,xv]
 |cons x r A=>
  intro p m b h B
  obtain ⟨m,rfl,q⟩:=pw B
  obtain ⟨E,F,J,L⟩:=qF h (by omega)
  have z:=hl x (by grind)
  simp only [pY,wL,E,ae,F,p9,ag hk,ar,zy z.1 z.2.1 z.dep,rI,J,A (p++[x]) m _ L q,xv]
  grind
theorem Re (hk:F3 k) {l:LT} (hl: ∀t∈l,In k t) (hlen:l.length<1000) (I:Int->OS S):m9 k l I=I (xv l):=by
 simp only [m9,Hs]
 have:=aem hk.fu I hl hlen l [] k 0 rfl (by omega)
 simp_all
def di (r:LC) (line:Tm):Except Int Tm:=bE (uC 0 2 0 1 line) (Ab 0 r)
theorem li {r:LC} {t:Tm} {e:Int} (h:di r t= .error e):0<e/\e<=1000:=by
 rcases be h with h|⟨s,_,h⟩
 ·exact M0 t h
 ·exact fP h
theorem acW {i:Int} {r:LC} {fa:Bool} {d:Int} {f g:LC} (hf:RF f) (h:eB i r fa d f= .ok g):RF g:=by
 rw [uz] at h
 obtain ⟨m,h1,h⟩:=i8 h
 injection h with h;subst h
 exact aad (rB hf h1).len
theorem acV {i:Int} {r:LC} {fa:Bool} (d:Int):eB i r fa d []= .ok []:=by
 rw [uz,QI,aD];rfl
theorem T0 {i:Int} {r:LC} {t y:Tm} (h:Ab i r t= .ok y):Wk t y:=by
 obtain ⟨s,_,h⟩:=i8 h
 grind [Uj,acW,acV]
theorem Jo {r:LC} {t y:Tm} (q:Fm t) (h:di r t= .ok y):pf y/\q7 y/\am y<=200/\au y<=20000:=by
 obtain ⟨s,h1,h⟩:=i8 h
 have hs:=jr (by omega) q h1
 obtain ⟨z,A,B,x⟩:=T0 h
 have E:=x hs.ok hs.rows
 have:=hs.dep;have:=hs.dP
 grind
section
variable {c:Int}
theorem aIy (hc:c≠0) (hk:F3 k) (f:LC) (I:LC×Int->OS S):tA k f c I=I ([],c):=by
 simp only [tA,ag hk.fu,de,bG,decide_eq_false hc,sQ,ae]
theorem aDb (hc:c≠0) (hk:F3 k) (f g:LC) (I:LC×Int->OS S):RI k f g c I=I ([],c):=by
 simp only [RI,ag hk.fu,de,bG,decide_eq_false hc,sQ,ae]
theorem K1 (hc:c≠0) (hk:F3 k) (l:Tm) (r:LC) (I:Tm×Int->OS S):lr k l r c I=I (oe,c):=by
 simp only [lr,ag hk.fu,de,bG,decide_eq_false hc,sQ,ae];rfl
theorem Hh (hc:c≠0) (hk:F3 k) (l:Tm) (a b:Int) (I:Tm×Int->OS S):Bx k l a b c I=I (oe,c):=by
 simp only [Bx,ag hk.fu,de,bG,decide_eq_false hc,sQ,ae];rfl
theorem rG (hc:c≠0) (hk:F3 k) (l:Tm) (I:Tm×Int×Int->OS S):eQ k l c I=I (oe,c,c):=by
 simp only [eQ,ag hk.fu,de,bG,decide_eq_false hc,sQ,ae,n3];rfl
end
theorem ajX (hk:F3 k) {f:LC} (hf:aq f) (hl:f.length<1073741824) (I:LC×Int->OS S):tA k f 0 I=I (tb f 0 1):=by
 simp only [tA,ag hk.fu,de,vX hk.fu hf hl (show aG 0 by unfold aG;omega) (show aG 1 by unfold aG;omega),rI,if_true]
 rfl
theorem aIx (hk:F3 k) {f g:LC} (hf:aq f) (q:aq g) (h1:f.length<1073741824) (h2:g.length<1073741824) (I:LC×Int->OS S):RI k f g 0 I=I (EQ f g):=by
 simp only [RI,ag hk.fu,de,aH8 hk.fu hf q h1 h2,rI,if_true]
 rfl
theorem RW (hk:F3 k) {t:Tm} (q:Fm t) {a b:Int} (ha:0<=a/\a<=1000000) (hb:0<=b/\b<9223372036854775808) (I:Tm×Int->OS S):Bx k t a b 0 I=I (tE (J6 a b t)):=by
 simp only [Bx,ag hk.fu,de,ar,He hk q ha hb,rI,if_true]
 rfl
theorem Rd (hk:F3 k) {t:Tm} (q:Fm t) {r:LC} (A:RF r) (I:Tm×Int->OS S):lr k t r 0 I=I (tE (di r t)):=by
 simp only [lr,ag hk.fu,de,ar,Rr hk q (show (0:Int)<=1/\(1:Int)<=24 by omega) (show (0:Int)<=2/\(2:Int)<9223372036854775808 by omega),rI,if_true]
 rw [show ((0:Int)==0)=true from rfl,uX,n3,Jl _ I]
 unfold di
 rw [AS]
 cases x:uC 0 2 0 1 t with
 |error e=>
  have:=M0 t x
  show ab (!(e==0)) (I (oe,e)) _=_
  rw [bG,decide_eq_false (by omega),sQ,ae];rfl
 |ok y=>
  have B:=jr (by omega) q x
  show ab (!((0:Int)==0)) _ (m_ k y 0 r fun z=>I (z.1,if (0:Int)=0 then z.2 else 0))=_
  simp_all [n3,Ra,aP,Jl]
theorem ai9 (hk:F3 k) {t:Tm} (q:In k t) (I:Tm×Int×Int->OS S):eQ k t 0 I=I (if bw t=0 then (t,0,0) else (oe,bw t,bw t)):=by
 simp only [eQ,ag hk.fu,de,ar,zy q.1 q.2.1 q.dep,rI,if_true]
 rw [show ((0:Int)==0)=true from rfl,ae,bG]
 by_cases x:bw t=0
 ·grind [n3]
 ·rw [decide_eq_false x,if_neg x,sQ,ae];rfl
def qg (line:Tm) (nX:LC) (a:Tm) (en:Cl) (r:LC):Except Int Tm:=
 bE (eW (tb nX 0 1)) fun f1=>bE (eW (EQ f1 [en])) fun f=>bE (di r line) fun l=>bE (J6 0 1 a) fun a'=> .ok (.mk 14 0 oW f [l,a'] [])
def FC (x:Except Int Tm):Except Int Tm:=bE x fun t=>if bw t=0 then .ok t else .error (bw t)
def FG (line:Tm) (nX:LC) (a:Tm) (en:Cl) (r:LC):Except Int Tm:=
 if xv [line,a]=0 then if cV nX then FC (qg line nX a en r) else .error 2 else .error (xv [line,a])
theorem aGg (f g:LC):EN (EQ f g).2:=by
 grind [EQ,ES,lO]
theorem aGh {f g:LC} (hf:aq f) (q:aq g) (h:(EQ f g).2=0):zp (EQ f g).1:=by
 grind [EQ,Af,oB]
theorem T2 {z:LC×Int} (q:EN z.2) {e:Int} (h:eW z= .error e):0<e/\e<=1000:=by
 grind [q4,EN]
theorem aES {line:Tm} {nX:LC} {a:Tm} {en:Cl} {r:LC} {e:Int} (h:qg line nX a en r= .error e):0<e/\e<=1000:=by
 rcases be h with h|⟨_,_,h⟩
 ·exact T2 (q_ _ _ _) h
 rcases be h with h|⟨_,_,h⟩
 ·exact T2 (aGg _ _) h
 rcases be h with h|⟨_,_,h⟩
 ·exact li h
 rcases be h with h|⟨_,_,h⟩
 ·exact xJ h
 simp_all
theorem aAH (hk:F3 k) {line:Tm} {nX:LC} {a:Tm} {en:Cl} {r:LC} (hl:Fm line) (ha:Fm a) (hp:RF nX) (he:aX en) {t:Tm} (h:qg line nX a en r= .ok t):In k t/\t.k=14:=by
 obtain ⟨f1,h1,h⟩:=i8 h
 obtain ⟨f,h2,h⟩:=i8 h
 obtain ⟨l,z,h⟩:=i8 h
 obtain ⟨a',A,h⟩:=i8 h
 injection h with h;subst h
 obtain ⟨g1,rfl⟩:=rR h1
 obtain ⟨g2,rfl⟩:=rR h2
 have x:=kQ g1
 have hf:=(aGh x.2 (fun c hc=>by grind) g2).1
 obtain ⟨B,E,F,I⟩:=Jo hl z
 have q:=mD (by omega) ha A
 have:=hf.len;have:=q.dep;have:=q.dP
 refine ⟨⟨?_,hk.fd ?_, ?_⟩,rfl⟩
 ·rw [pf,aZ,aZ,aZ,ba]
  refine ⟨⟨by unfold aG;omega,by unfold aG;omega,by simp,hf.2,by omega,by simp,by simp⟩,⟨B,q.ok,trivial⟩,trivial⟩
 all_goals grind [am,aH,aO,au,ay,aI]
theorem aC6 (hk:F3 k) {line a:Tm} {nX r:LC} {en:Cl} (hl:In k line) (ha:In k a) (hp:aq nX) (M:nX.length<1073741824) (he:aX en) (hr:RF r) (I:Tm×Int->OS S):L2 k line nX a en r I=I (tE (FG line nX a en r)):=by
 have x: ∀t∈[line,a],In k t:=fun t ht=>by
  grind
 have O:aq [en]:=fun c hc=>by grind
 have bad: ∀c:Int,c≠0->(tA k nX c fun r4=>RI k r4.1 [en] r4.2 fun r5=>lr k line r r5.2 fun r6=>Bx k a 0 1 r6.2 fun r7=>
   wq k 14 [r6.1,r7.1] fun J=>eQ k (Tm.mk J.1 J.2.1 J.2.2.1 r5.1 J.2.2.2 []) r7.2 fun r9=>I (r9.1,r9.2.1))=I (oe,c):=by
  simp_all [wq,aIy,aDb,K1,Hh,rG]
 simp only [L2,ag hk.fu,ar,Re hk x (by simp),Hb hk.fu hp (show nX.length<2147483648 by omega),rI]
 unfold FG
 by_cases z:xv [line,a]=0
 ·simp only [z,if_true]
  have A:=Sq (fun t ht=>(x t ht).1) z
  have B:=A line (by simp)
  have E:=A a (by simp)
  cases T:cV nX with
  |false=>
   rw [sQ,ae,if_neg (show ¬ (false=true) by decide)]
   exact bad 2 (by decide)
  |true=>
   have W:=(oB hp).1 T
   rw [uX,n3,if_pos (show true=true from rfl),ajX hk hp M,Jl _ I]
   unfold FC
   rw [AS]
   have q: ∀t,qg line nX a en r= .ok t->In k t:=fun t h=>(aAH hk B E W.1 he h).1
   revert q
   unfold qg
   intro q
   by_cases h1:(tb nX 0 1).2=0
   ·have F:=kQ h1
    have Y:=F.len
    rw [jF h1,aD] at q ⊢
    rw [h1,aIx hk F.2 O (by omega) (by simp)]
    by_cases h2:(EQ (tb nX 0 1).1 [en]).2=0
    ·rw [jF h2,aD] at q ⊢
     rw [h2,Rd hk B hr]
     cases h3:di r line with
     |error e=>
      have hc:=(li h3).1
      show Bx k a 0 1 e _=I (oe,e)
      grind [wq,Hh,rG]
     |ok l=>
      rw [h3,aD] at q
      show Bx k a 0 1 0 _=_
      rw [RW hk E (by omega) (by omega),aD]
      cases h4:J6 0 1 a with
      |error e=>
       have hc:=(xJ h4).1
       show wq k 14 _ _=I (oe,e)
       simp only [wq]
       show eQ k _ e _=_
       grind [rG]
      |ok a'=>
       rw [h4,aD] at q
       show wq k 14 _ _=_
       simp only [wq]
       show eQ k (Tm.mk 14 0 oW (EQ (tb nX 0 1).1 [en]).1 [l,a'] []) 0 _=_
       rw [ai9 hk (q _ rfl),aD,aP]
       by_cases L:bw (Tm.mk 14 0 oW (EQ (tb nX 0 1).1 [en]).1 [l,a'] [])=0
       ·rw [if_pos L,if_pos L];rfl
       ·rw [if_neg L,if_neg L];rfl
    ·rw [iO h2]
     show _=I (oe,(EQ (tb nX 0 1).1 [en]).2)
     grind [wq,K1,Hh,rG]
   ·rw [iO h1]
    show _=I (oe,(tb nX 0 1).2)
    simp_all [wq,aDb,K1,Hh,rG]
 ·simp only [if_neg z]
  cases cV nX with
  |false=>rw [sQ,ae];exact bad _ z
  |true=>rw [uX,n3];exact bad _ z
theorem QD:RF [⟨3,0⟩]:=gS ⟨⟨by decide,by decide⟩,by decide,by decide⟩
theorem aC4:RF [⟨0,1⟩,⟨2,0⟩]:=by
 refine ⟨by rfl,fun c hc=> ?_⟩
 simp only [xB,List.not_mem_nil,or_false] at hc
 rcases hc with rfl|rfl
 ·exact ⟨⟨by decide,by decide⟩,by decide,by decide⟩
 ·exact ⟨⟨by decide,by decide⟩,by decide,by decide⟩
theorem ag0:aX ⟨0,1⟩:=⟨⟨by decide,by decide⟩,by decide,by decide⟩
theorem ag1:aX ⟨1,0⟩:=⟨⟨by decide,by decide⟩,by decide,by decide⟩
theorem aHV (hk:F3 k) {line a:Tm} {nX:LC} (hl:In k line) (ha:In k a) (hp:aq nX) (q:nX.length<1073741824) (I:Tm×Int->OS S):dx k line nX a I=I (tE (FG line nX a ⟨0,1⟩ [⟨3,0⟩])):=by
 grind [dx,ar,ag,aC6,ag0,QD]
theorem aHR (hk:F3 k) {line a:Tm} {nX:LC} (hl:In k line) (ha:In k a) (hp:aq nX) (q:nX.length<1073741824) (I:Tm×Int->OS S):e3 k line nX a I=I (tE (FG line nX a ⟨1,0⟩ [⟨0,1⟩,⟨2,0⟩])):=by
 grind [e3,ar,ag,aC6,ag1,aC4]
theorem agT:pf oe:=by
 unfold oe
 rw [pf,aZ,ba]
 exact ⟨⟨by unfold aG;omega,by unfold aG;omega,by simp,fun c hc=>(by cases hc),by simp,by simp,by simp⟩,trivial,trivial⟩
theorem gQ (hk:F3 k):In k oe:=⟨agT,hk.fd (by grind [oe,am,aH,aO]),by grind [oe,au,ay,aI]⟩
theorem Hl (t:Tm):au t=1+ay t.c+aI t.s:=by cases t;rfl
def sx (ot w:Int) (n:Nat):Prop:=1<=w/\w<=2*ot+1/\(w<=ot->(n:Int)<=w)
def Mo (ot:Int):Prop:=0<=ot/\ot<=1000
section
variable {hd:Tm->Int->(Int->OS S)->OS S} {t:Tm}
theorem aGM (hk:Fu k) (I:Int->OS S) (q:Int->Int->OS S) {v ot:Int} (B:Mo ot) {x:Br Tm} (hv:af t.s v=some x) (F: ∀y∈x.c,∀n,Mo n-> ∀g,∃w,hd y n g=g w/\sx n w (au y)) (hl:x.c.length<1073741824):
  ∀ (r p:LT) (m:Nat) (a:Int),x.c=p++r->r.length<m->1<=a->a<=2*ot+1-> ∃w,kA hd k I q t ot v m a (p.length:Int)=q w (oa .i64 (v+1))/\a<=w/\w<=2*ot+1/\(w<=ot->a+(ay r:Int)<=w):=by
 obtain ⟨J,L⟩:=B
 intro r
 induction r with
 |nil=>
  intro p m a h E ha z
  obtain ⟨m,rfl,A⟩:=pw E
  exact ⟨a,by grind [kA,xL,n3],Int.le_refl _,z,fun _=>by rw [ay];simp⟩
 |cons y r M=>
  intro p m a h E ha z
  obtain ⟨m,rfl,A⟩:=pw E
  obtain ⟨O,T,W,Y⟩:=qF h (by omega)
  simp only [kA,xL,hv,O,ae,T,p9,ar,W]
  by_cases hc:a<=ot
  ·rw [decide_eq_true hc,ae,vc (show-9223372036854775808<=ot-a by omega) (by omega)]
   obtain ⟨w,hw,w1,w2,w3⟩:=F y (by grind) (ot-a) ⟨by omega,by omega⟩ (fun r8=>kA hd k I q t ot v m (oa .i64 (a+r8)) (((p++[y]).length:Nat):Int))
   rw [hw,vc (show-9223372036854775808<=a+w by omega) (by omega)]
   obtain ⟨u,hu,u1,u2,u3⟩:=M (p++[y]) m (a+w) Y A (by omega) (by omega)
   exact ⟨u,hu,by omega,u2,fun hle=>by grind [ay]⟩
  grind [n3]
theorem aGL (hk:Fu k) (I:Int->OS S) {ot:Int} (q:Mo ot) (O: ∀b∈t.s,∀y∈b.c,∀n,Mo n-> ∀g,∃w,hd y n g=g w/\sx n w (au y)) (F:pf t):
  ∀ (r p:LB) (m:Nat) (a:Int),t.s=p++r->r.length<m->1<=a->a<=2*ot+1-> ∃w,jl hd k I t ot m a (p.length:Int)=I w/\a<=w/\w<=2*ot+1/\(w<=ot->a+(aI r:Int)<=w):=by
 obtain ⟨o1,o2,o3,o4,o5,o6,o7⟩:=F.no
 have T:=q.1
 have W:=q.2
 intro r
 induction r with
 |nil=>
  intro p m a h B ha z
  obtain ⟨m,rfl,A⟩:=pw B
  exact ⟨a,by grind [jl,sS,n3],Int.le_refl _,z,fun _=>by rw [aI];simp⟩
 |cons x r Y=>
  intro p m a h B ha z
  obtain ⟨m,rfl,A⟩:=pw B
  obtain ⟨e1,J,L,e4⟩:=qF h (by omega)
  have M:x∈t.s:=by grind
  have hb:=(F.bi M).1
  simp only [jl,sS,e1,ae,J,p9,L]
  by_cases hc:a<=ot
  ·rw [decide_eq_true hc,ae]
   by_cases hf:((x.f.length:Nat):Int)>ot
   ·grind [ae,vc]
   ·rw [decide_eq_false hf,n3,vc (show-9223372036854775808<=a+1 by omega) (by omega),vc (show-9223372036854775808<=a+1+((x.f.length:Nat):Int) by omega) (by omega)]
    obtain ⟨w,E,w1,w2,w3⟩:=aGM (t:=t) (ot:=ot) hk I (jl hd k I t ot m) q J (O x M) hb.2.2 x.c [] k (a+1+((x.f.length:Nat):Int)) rfl (by omega) (by omega) (by omega)
    have E:kA hd k I (jl hd k I t ot m) t ot (p.length:Int) k (a+1+((x.f.length:Nat):Int)) 0=_:=E
    rw [E,L]
    obtain ⟨u,hu,u1,u2,u3⟩:=Y (p++[x]) m w e4 A (by omega) w2
    exact ⟨u,hu,by omega,u2,fun hle=>by grind [aI,kZ]⟩
  grind [n3]
theorem aGK (hk:Fu k) (I:Int->OS S) {ot:Int} (q:Mo ot) (B: ∀y∈t.c,∀n,Mo n-> ∀g,∃w,hd y n g=g w/\sx n w (au y)) (x: ∀b∈t.s,∀y∈b.c,∀n,Mo n-> ∀g,∃w,hd y n g=g w/\sx n w (au y)) (A:pf t):
  ∀ (r p:LT) (m:Nat) (a:Int),t.c=p++r->r.length<m->1<=a->a<=2*ot+1-> ∃w,nQ hd k I t ot m a (p.length:Int)=I w/\a<=w/\w<=2*ot+1/\(w<=ot->a+(ay r:Int)+(aI t.s:Int)<=w):=by
 obtain ⟨o1,o2,o3,o4,o5,o6,o7⟩:=A.no
 have E:=q.1
 have F:=q.2
 intro r
 have hs:=fun a=>aGL (ot:=ot) hk I q x A t.s [] k a rfl (by omega)
 induction r with
 |nil=>
  grind [pw,nQ,l0,n3,ay]
 |cons y r J=>
  intro p m a h L ha M
  obtain ⟨m,rfl,z⟩:=pw L
  obtain ⟨O,T,W,Y⟩:=qF h (by omega)
  simp only [nQ,l0,O,ae,T,p9,ar,W]
  by_cases hc:a<=ot
  ·rw [decide_eq_true hc,ae,vc (show-9223372036854775808<=ot-a by omega) (by omega)]
   obtain ⟨w,hw,w1,w2,w3⟩:=B y (by grind) (ot-a) ⟨by omega,by omega⟩ (fun r2=>nQ hd k I t ot m (oa .i64 (a+r2)) (((p++[y]).length:Nat):Int))
   rw [hw,vc (show-9223372036854775808<=a+w by omega) (by omega)]
   obtain ⟨u,hu,u1,u2,u3⟩:=J (p++[y]) m (a+w) Y z (by omega) (by omega)
   exact ⟨u,hu,by omega,u2,fun hle=>by grind [ay]⟩
  grind [n3]
end
theorem aDd (t:Tm):pf t-> ∀ {k:Nat} (ot:Int),Mo ot-> ∀ (I:Int->OS S),Fd k (am t)-> ∃w,gE k t ot I=I w/\sx ot w (au t):=by
 induction t using c7 with
 |h t B E=>
  intro A k ot x I hk
  have J:=x.1
  have L:=x.2
  obtain ⟨q,rfl,M,hf⟩:=hk.pos' (HX t)
  obtain ⟨o1,o2,o3,o4,o5,o6,o7⟩:=A.no
  have O: ∀y∈t.c,∀n,Mo n-> ∀ (g:Int->OS S),∃w,gE q y n g=g w/\sx n w (au y):=fun y z n hn g=>B y z (A.ki z) n hn g (hf _ (bY z))
  have F: ∀b∈t.s,∀y∈b.c,∀n,Mo n-> ∀ (g:Int->OS S),∃w,gE q y n g=g w/\sx n w (au y):=fun b hb y z n hn g=>E b hb y z ((A.bi hb).2 y z) n hn g (hf _ (b8 hb z))
  simp only [gE,Io]
  have out: ∃w,I (oa .i64 (ot+1))=I w/\sx ot w (au t):=⟨ot+1,by grind [vc],by omega,by omega,fun h=>by omega⟩
  by_cases T:((t.r.length:Nat):Int)>ot
  ·grind [ae]
  ·rw [decide_eq_false T,n3]
   by_cases hn:((t.name.size:Nat):Int)>ot
   ·grind [ae]
   ·rw [decide_eq_false hn,n3,vc (show-9223372036854775808<=1+((t.r.length:Nat):Int) by omega) (by omega),vc (show-9223372036854775808<=1+((t.r.length:Nat):Int)+((t.name.size:Nat):Int) by omega) (by omega)]
    obtain ⟨w,W,w1,Y,w3⟩:=aGK M I x O F A t.c [] q (1+((t.r.length:Nat):Int)+((t.name.size:Nat):Int)) rfl (by omega) (by omega) (by omega)
    exact ⟨w,W,by omega,Y,fun hle=>by grind [Hl]⟩
def dS (kd:Int) (l:LT):Tm:= .mk kd 0 oW [] l []
def vN (n:Int):Tm:= .mk 1 n oW [] [] []
def mE (c a b:Int) (t:Tm):Tm×Int:=if c=0 then tE (J6 a b t) else (oe,c)
def oy (p:Tm×Int):Except Int Tm:=if p.2=0 then .ok p.1 else .error p.2
theorem wz {c a b:Int} {t:Tm} (h:c≠0):mE c a b t=(oe,c):=if_neg h
theorem s5 {c a b:Int} {t:Tm} (h:(mE c a b t).2=0):c=0:=by
 grind [wz]
theorem T9 (a b:Int) (t:Tm):mE 0 a b t=tE (J6 a b t):=rfl
theorem RV (hk:F3 k) {c:Int} {t:Tm} (h:c=0->Fm t) {a b:Int} (ha:0<=a/\a<=1000000) (hb:0<=b/\b<9223372036854775808) (I:Tm×Int->OS S):Bx k t a b c I=I (mE c a b t):=by
 by_cases hc:c=0
 ·subst hc;exact RW hk (h rfl) ha hb I
 grind [Hh,wz]
theorem Rk (hk:F3 k) {t:Tm} {c:Int} (h:c=0->In k t) (I:Tm×Int->OS S):(eQ k t c fun r=>I (r.1,r.2.1))=I (tE (FC (oy (t,c)))):=by
 by_cases hc:c=0
 ·subst hc
  rw [ai9 hk (h rfl)]
  show _=I (tE (FC (.ok t)))
  unfold FC
  rw [aD]
  by_cases q:bw t=0
  ·rw [if_pos q,if_pos q];rfl
  ·rw [if_neg q,if_neg q];rfl
 ·rw [rG hc hk]
  show _=I (tE (FC (if c=0 then _ else _)))
  rw [if_neg hc];rfl
def RH (c:Int) (t a f y:Tm):Tm×Int:=
 (dS 7 [t,dS 11 [(mE c 1 1 a).1,(mE (mE c 1 1 a).2 1 0 y).1,dS 6 [(mE (mE (mE c 1 1 a).2 1 0 y).2 1 0 f).1,vN 0]]],(mE (mE (mE c 1 1 a).2 1 0 y).2 1 0 f).2)
def Ma (t a f y:Tm):Except Int Tm:=bE (J6 1 1 a) fun a'=>bE (J6 1 0 y) fun q=>bE (J6 1 0 f) fun x=> .ok (dS 7 [t,dS 11 [a',q,dS 6 [x,vN 0]]])
theorem aA3 {c:Int} (h:c≠0) (t a f y:Tm):(RH c t a f y).2=c:=by
 grind [RH,wz]
theorem aA4 (t a f y:Tm):oy (RH 0 t a f y)=Ma t a f y:=by
 unfold RH Ma
 rw [T9]
 cases h1:J6 1 1 a with
 |error e=>
  have he:e≠0:=by have:=xJ h1;omega
  show oy (_,(mE (mE e 1 0 y).2 1 0 f).2)=_
  rw [wz he,wz he,lk];exact if_neg he
 |ok a'=>
  rw [aD]
  show oy (dS 7 [t,dS 11 [a',(mE 0 1 0 y).1,dS 6 [(mE (mE 0 1 0 y).2 1 0 f).1,vN 0]]],(mE (mE 0 1 0 y).2 1 0 f).2)=_
  rw [T9]
  cases h2:J6 1 0 y with
  |error e=>
   have he:e≠0:=by have:=xJ h2;omega
   show oy (_,(mE e 1 0 f).2)=_
   rw [wz he,lk];exact if_neg he
  |ok q=>
   rw [aD]
   show oy (dS 7 [t,dS 11 [a',q,dS 6 [(mE 0 1 0 f).1,vN 0]]],(mE 0 1 0 f).2)=_
   rw [T9]
   cases x:J6 1 0 f with
   |error e=>
    have he:e≠0:=by have:=xJ x;omega
    rw [lk];exact if_neg he
   |ok z=>rfl
theorem aIa (hk:F3 k) {c:Int} {t a f y:Tm} (ha:c=0->Fm a) (hf:c=0->Fm f) (q:c=0->Fm y) (I:Int×Int×BA×LT×Int->OS S):
  SI k t a f y c I=I (7,0,oW,(RH c t a f y).1.c,(RH c t a f y).2):=by
 simp only [SI,ag hk.fu,ar,RV hk ha (show (0:Int)<=1/\(1:Int)<=1000000 by omega) (show (0:Int)<=1/\(1:Int)<9223372036854775808 by omega),
  RV hk (fun h=>q (s5 h)) (show (0:Int)<=1/\(1:Int)<=1000000 by omega) (show (0:Int)<=0/\(0:Int)<9223372036854775808 by omega),
  RV hk (fun h=>hf (s5 (s5 h))) (show (0:Int)<=1/\(1:Int)<=1000000 by omega) (show (0:Int)<=0/\(0:Int)<9223372036854775808 by omega),Iw,wq]
 rfl
def aE_ (t:Tm):Except Int Tm:=bE (J6 1 0 t) fun t1=>bE (J6 2 1 t) fun t2=> .ok (dS 7 [t,dS 4 [t1,dS 11 [t2,vN 1,vN 0]]])
def aFL (t a:Tm):Except Int Tm:=bE (J6 1 0 a) fun a1=>bE (J6 1 0 a) fun y=>bE (J6 2 0 t) fun t'=>bE (J6 2 0 a) fun a'=>bE (Ma t' a' (vN 1) (vN 0)) fun x=>bE (aE_ x) fun c=> .ok (dS 7 [dS 4 [t,a1],dS 4 [y,c]])
theorem aFT {t a f y:Tm} {e:Int} (h:Ma t a f y= .error e):0<e/\e<=1000:=by
 rcases be h with h|⟨_,_,h⟩
 ·exact xJ h
 rcases be h with h|⟨_,_,h⟩
 ·exact xJ h
 rcases be h with h|⟨_,_,h⟩
 ·exact xJ h
 simp_all
theorem okv (n:Int) (h:0<=n/\n<=10):pf (vN n):=by
 unfold vN
 rw [pf,aZ,ba]
 exact ⟨⟨by unfold aG;omega,by unfold aG;omega,by simp,fun c hc=>(by cases hc),by simp,by simp,by simp⟩,trivial,trivial⟩
theorem p0:Fm (vN 0):=⟨okv 0 (by omega),by rfl⟩
theorem ja:Fm (vN 1):=⟨okv 1 (by omega),by rfl⟩
theorem ag2 {kd:Int} (q:0<=kd/\kd<=28) {l:LT} (hl:l.length<10) (h: ∀x∈l,pf x):pf (dS kd l):=by
 unfold dS
 rw [pf,vf,ba]
 exact ⟨⟨by unfold aG;omega,by unfold aG;omega,by simp,fun c hc=>(by cases hc),by simp,by omega,by simp⟩,h,trivial⟩
theorem aAF {kd d:Int} (hd:24<=d) {l:LT} (ho:cL (-1) 24 (dS kd l)=true) (h: ∀x∈l,rf false (-1) 24 x=true):rf false (-1) d (dS kd l)=true:=by
 rw [at8 (dS kd l) hd (show (24:Int)<=24 by omega),wI,ho]
 have B: ∀ (r:LT) (i:Nat),(∀x∈r,rf false (-1) 24 x=true)->bO false (-1) 24 kd i r=true:=by
  intro r
  induction r with
  |nil=>intro i _;rw [bO]
  |cons x r z=>
   intro i q
   have hb:=gr kd i
   rw [bO,z _ fun y A=>q y (by simp [A])]
   have hv:cQ (-1) (Am kd i)= -1:=rfl
   rw [hv,at8 x (show (24:Int)<=24+bJ kd i by omega) (show (24:Int)<=24 by omega),q x (by simp)];rfl
 show (!(false&&_)&&(true&&(bO false (-1) 24 kd 0 l&&ck false (-1) 24 kd [])))=true
 grind [ck]
def BE (n m:Nat) (t:Tm):Prop:=pf t/\rf false (-1) 24 t=true/\am t<=n/\au t<=m
theorem BE.fm {n m:Nat} {t:Tm} (h:BE n m t) (hn:n<=200) (q:m<=20000):Fm t:=⟨h.1,pS (by have:=h.2.2.1;omega) (by have:=h.2.2.2;omega) h.2.1⟩
theorem BE.isIn {n m:Nat} {t:Tm} (h:BE n m t) (hk:F3 k) (hn:n<=1000) (q:m<=1000000):In k t:=⟨h.1,hk.fd (by have:=h.2.2.1;omega),by have:=h.2.2.2;omega⟩
theorem Fm.f2 {t:Tm} (h:Fm t):BE 200 20000 t:=⟨h.1,(Ie h.2).2.2,(Ie h.2).1,(Ie h.2).2.1⟩
theorem BE.mono {n m q x:Nat} {t:Tm} (h:BE n m t) (hn:n<=q) (z:m<=x):BE q x t:=⟨h.1,h.2.1,by have:=h.2.2.1;omega,by have:=h.2.2.2;omega⟩
theorem BE.up {n m:Nat} {t t':Tm} (h:BE n m t) {a b:Int} (ha:0<=a/\a<=1000000000) (hl:J6 a b t= .ok t'):BE n m t':=by
 obtain ⟨u,h1,h2⟩:=i8 hl
 obtain ⟨A,B,E,x⟩:=uP ha.1 ha.2 t 0 0 u h1
 obtain ⟨F,q2,I,z⟩:=uP (by omega) (by omega) u 0 0 t' h2
 have w:=x h.1
 have q:=z w.1
 have ho:=w.2.2 24 24 (by omega) (by omega) h.2.1
 exact ⟨q.1,q.2.2 24 24 (by omega) (by omega) ho,by have:=h.2.2.1;omega,by have:=h.2.2.2;omega⟩
theorem aA1 {kd:Int} (q:0<=kd/\kd<=28) {n m:Nat} {a b:Tm} (ho:cL (-1) 24 (dS kd [a,b])=true) (ha:BE n m a) (hb:BE n m b):BE (n+1) (2*m+1) (dS kd [a,b]):=by
 grind [BE,ag2,aAF,dS,am,aH,aO,au,ay,aI]
theorem aFP {kd:Int} (q:0<=kd/\kd<=28) {n m:Nat} {a b c:Tm} (ho:cL (-1) 24 (dS kd [a,b,c])=true) (ha:BE n m a) (hb:BE n m b) (hc:BE n m c):BE (n+1) (3*m+1) (dS kd [a,b,c]):=by
 grind [BE,ag2,aAF,dS,am,aH,aO,au,ay,aI]
theorem aFV {n m:Nat} (hn:1<=n) (q:1<=m) {i:Int} (x:i=0\/i=1):BE n m (vN i):=by
 have:BE 1 1 (vN i):=by
  rcases x with rfl|rfl
  ·exact ⟨p0.1,by rfl,by show 1<=1;omega,by show 1<=1;omega⟩
  ·exact ⟨ja.1,by rfl,by show 1<=1;omega,by show 1<=1;omega⟩
 exact this.mono hn q
theorem aA5 {n m:Nat} (hn:1<=n) (q:1<=m) {t a f y x:Tm} (z:BE n m t) (ha:BE n m a) (hf:BE n m f) (A:BE n m y) (h:Ma t a f y= .ok x):BE (n+3) (12*m+9) x:=by
 obtain ⟨a',h1,h⟩:=i8 h
 obtain ⟨E,h2,h⟩:=i8 h
 obtain ⟨F,B,h⟩:=i8 h
 injection h with h;subst h
 have c1:=aA1 (kd:=6) (by omega) (by rfl) (hf.up (by omega) B) (aFV hn q (.inl rfl))
 have c2:=aFP (kd:=11) (by omega) (by rfl) ((ha.up (by omega) h1).mono (Nat.le_succ n) (show m<=2*m+1 by omega)) ((A.up (by omega) h2).mono (Nat.le_succ n) (show m<=2*m+1 by omega)) c1
 exact (aA1 (kd:=7) (by omega) (by rfl) (z.mono (show n<=n+1+1 by omega) (show m<=3*(2*m+1)+1 by omega)) c2).mono (by omega) (by omega)
mutual
def zh (n:Int):Tm->Nat
 | .mk kd m _ _ q sys=>(if kd=1/\m=n then 1 else 0)+(cE n kd 0 q+Hk n sys)
def cE (n kd:Int) (i:Nat):LT->Nat
 |[]=>0
 |t::l=>zh (n+Am kd i) t+cE n kd (i+1) l
def Hk (n:Int):LB->Nat
 |[]=>0
 |b::l=>Dv n b+Hk n l
def Dv (n:Int):Br Tm->Nat
 | .mk _ q=>dc n q
def dc (n:Int):LT->Nat
 |[]=>0
 |t::l=>zh n t+dc n l
end
mutual
def HZ (n:Int) (u:Tm) (v d:Int):Tm->Except Int Tm
 | .mk kd m nm r z sys=>if kd=1/\m=n+v then J6 v d u else bE (dX n u v d kd 0 z) fun x=>bE (I1 n u v d kd sys) fun q=> .ok (.mk kd (if kd=1/\m>n+v then m-1 else m) nm r x q)
def dX (n:Int) (u:Tm) (v d kd:Int) (i:Nat):LT->Except Int (LT)
 |[]=> .ok []
 |t::l=>bE (HZ n u (v+Am kd i) (d+bJ kd i) t) fun t'=>bE (dX n u v d kd (i+1) l) fun q=> .ok (t'::q)
def I1 (n:Int) (u:Tm) (v d kd:Int):LB->Except Int (LB)
 |[]=> .ok []
 |b::l=>bE (AJ n u v d kd b) fun q=>bE (I1 n u v d kd l) fun x=> .ok (q::x)
def AJ (n:Int) (u:Tm) (v d kd:Int):Br Tm->Except Int (Br Tm)
 | .mk f x=>bE (Ml n u v d kd x) fun q=> .ok (.mk f q)
def Ml (n:Int) (u:Tm) (v d kd:Int):LT->Except Int (LT)
 |[]=> .ok []
 |t::l=>bE (HZ n u v (d+av kd) t) fun t'=>bE (Ml n u v d kd l) fun q=> .ok (t'::q)
end
def K7 (n:Int) (t u:Tm):Except Int Tm:=if au t+zh n t*(au u-1)>20000 then .error 221 else bE (HZ n u 0 0 t) fun o=>if am o>200 then .error 62 else .ok o
def Pg (n:Int) (u x q:Tm):Prop:=pf q/\rf false (-1) 24 q=true/\au q=au x+zh n x*(au u-1)/\am q<=am x+am u
abbrev wF (n:Int) (u x:Tm):Prop:= ∀ {v d:Int} {o:Tm},0<=v->0<=d->v+am x<=1000->pf x->rf false (-1) 24 x=true->HZ n u v d x= .ok o->Pg (n+v) u x o
section
variable {n v d kd:Int} {u:Tm}
theorem ahA: ∀ {l l':LT} {i:Nat},(∀x∈l,wF n u x)->0<=v->0<=d->v+aH l+1<=1000->aZ l->bO false (-1) 24 kd i l=true->dX n u v d kd i l= .ok l'->
  aZ l'/\bO false (-1) 24 kd i l'=true/\ay l'=ay l+cE (n+v) kd i l*(au u-1)/\aH l'<=aH l+am u/\l'.length=l.length:=by
 intro l
 induction l with
 |nil=>intro l' i _ _ _ _ _ _ h;rw [dX] at h;injection h with h;subst h;rw [aZ,bO,cE,ay,aH];simp
 |cons t l z=>
  intro l' i h hv hd hb ho ha hl
  rw [dX] at hl
  obtain ⟨t',A,hl⟩:=i8 hl
  obtain ⟨m,B,hl⟩:=i8 hl
  injection hl with hl;subst hl
  rw [aZ] at ho
  rw [bO,pX] at ha
  rw [aH] at hb
  have O:=g7 kd i;have T:=gr kd i
  have q:rf false (-1) 24 t=true:=by
   have:=ha.1
   rw [B2,at8 t (by omega) (Int.le_refl 24)] at this;exact this
  obtain ⟨E,F,I,W⟩:=h t (by simp) (v:=v+Am kd i) (d:=d+bJ kd i) (by omega) (by omega) (by omega) ho.1 q A
  obtain ⟨J,q2,L,Y,q5⟩:=z (fun x M=>h x (by simp [M])) hv hd (by omega) ho.2 ha.2 B
  rw [aZ,bO,cE,ay,ay,aH,aH,ue,ue]
  refine ⟨⟨E,J⟩, ?_, ?_,by omega,by omega⟩
  ·rw [pX,B2,at8 t' (show (24:Int)<=24+bJ kd i by omega) (Int.le_refl 24)];exact ⟨F,q2⟩
  ·rw [I,L,Nat.add_mul,Int.add_assoc];omega
theorem ahB: ∀ {l l':LT},(∀x∈l,wF n u x)->0<=v->0<=d->v+aH l+1<=1000->aZ l->ca false (-1) 24 kd l=true->Ml n u v d kd l= .ok l'->
  aZ l'/\ca false (-1) 24 kd l'=true/\ay l'=ay l+dc (n+v) l*(au u-1)/\aH l'<=aH l+am u/\l'.length=l.length:=by
 intro l
 induction l with
 |nil=>intro l' _ _ _ _ _ _ h;rw [Ml] at h;injection h with h;subst h;rw [aZ,ca,dc,ay,aH];simp
 |cons t l z=>
  intro l' h hv hd hb ho ha hl
  rw [Ml] at hl
  obtain ⟨t',A,hl⟩:=i8 hl
  obtain ⟨m,B,hl⟩:=i8 hl
  injection hl with hl;subst hl
  rw [aZ] at ho
  rw [ca,pX] at ha
  rw [aH] at hb
  have O:=KZ kd
  have q:rf false (-1) 24 t=true:=by
   have:=ha.1
   rw [at8 t (by omega) (Int.le_refl 24)] at this;exact this
  obtain ⟨E,F,I,T⟩:=h t (by simp) (v:=v) (d:=d+av kd) (by omega) (by omega) (by omega) ho.1 q A
  obtain ⟨J,q2,L,W,Y⟩:=z (fun x M=>h x (by simp [M])) hv hd (by omega) ho.2 ha.2 B
  rw [aZ,ca,dc,ay,ay,aH,aH,ue,ue]
  refine ⟨⟨E,J⟩, ?_, ?_,by omega,by omega⟩
  ·rw [pX,at8 t' (show (24:Int)<=24+av kd by omega) (Int.le_refl 24)];exact ⟨F,q2⟩
  ·rw [I,L,Nat.add_mul];omega
theorem ahC: ∀ {l l':LB},(∀b∈l,∀x∈b.c,wF n u x)->0<=v->0<=d->v+aO l+1<=1000->ba l->ck false (-1) 24 kd l=true->I1 n u v d kd l= .ok l'->
  ba l'/\ck false (-1) 24 kd l'=true/\aI l'=aI l+Hk (n+v) l*(au u-1)/\aO l'<=aO l+am u/\l'.length=l.length/\l'.all (bX kd 24)=l.all (bX kd 24):=by
 intro l
 induction l with
 |nil=>intro l' _ _ _ _ _ _ h;rw [I1] at h;injection h with h;subst h;rw [ba,ck,Hk,aI,aO];simp
 |cons b l E=>
  intro l' h hv hd hb ho ha hl
  rw [I1] at hl
  obtain ⟨Y,q,hl⟩:=i8 hl
  obtain ⟨m,F,hl⟩:=i8 hl
  injection hl with hl;subst hl
  obtain ⟨f,z⟩:=b
  rw [AJ] at q
  obtain ⟨A,I,q⟩:=i8 q
  injection q with q;subst q
  rw [ba,Fa] at ho
  rw [ck,jT,pX] at ha
  rw [aO,Ey] at hb
  obtain ⟨J,q2,L,q4,q5,M⟩:=E (fun b hb=>h b (by simp [hb])) hv hd (by omega) ho.2 ha.2 F
  obtain ⟨O,T,W,p4,B⟩:=ahB (n:=n) (u:=u) (kd:=kd) (l:=z) (h ⟨f,z⟩ (by simp)) hv hd (by omega) ho.1.2 ha.1 I
  rw [ba,Fa,ck,jT,Hk,Dv,aI,aI,Fs,Fs,aO,aO,Ey,Ey,ue,ue,List.all_cons,List.all_cons,M]
  refine ⟨⟨⟨⟨ho.1.1.1,ho.1.1.2.1,by rw [B];exact ho.1.1.2.2⟩,O⟩,J⟩,by rw [pX];exact ⟨T,q2⟩, ?_,by omega,by omega, ?_⟩
  ·rw [W,L,Nat.add_mul];omega
  ·have:bX kd 24 ⟨f,A⟩=bX kd 24 ⟨f,z⟩:=by unfold bX;simp only [B]
   rw [this]
theorem F8 (hu:Fm u) (hn:0<=n) (t:Tm):wF n u t:=by
 induction t using gq with
 |h kd m nm r L sys z A=>
  intro v d o hv hd hb q ha h
  rw [HZ] at h
  have B:=q
  rw [pf] at q
  rw [am] at hb
  have M:=ha
  rw [rf] at ha
  simp only [Bool.false_and,sQ,Bool.true_and,pX] at ha
  obtain ⟨q2,O,T⟩:=ha
  split at h
  ·rename_i hc
   have fo:=mD (by omega) hu h
   have u1:=(Fm.f2 hu).up (by omega) h
   have x:L=[]/\sys=[]:=by
    unfold cL at q2
    simp only [pX,decide_eq_true_eq] at q2
    obtain ⟨⟨a1,_,_,a4⟩,_⟩:=q2
    rw [hc.1] at a1 a4
    have:ct 1=0:=rfl
    exact ⟨Iy.1 (by omega),Iy.1 (a4 rfl)⟩
   obtain ⟨m1,h1,h2⟩:=i8 h
   have E:=uP (by omega) (by omega) u 0 0 m1 h1
   have F:=uP (by omega) (by omega) m1 0 0 o h2
   have W:au o=au u:=by rw [F.2.1,E.2.1]
   have I:am o=am u:=by rw [F.1,E.1]
   refine ⟨fo.ok,(Ie fo.2).2.2, ?_,by omega⟩
   rw [W,x.1,x.2,zh,if_pos hc,cE,Hk,au,ay,aI]
   have:=mB u
   omega
  ·rename_i hc
   obtain ⟨Y,I,h⟩:=i8 h
   obtain ⟨J,e3,h⟩:=i8 h
   injection h with h;subst h
   obtain ⟨k1,k2,k3,k4,k5⟩:=ahA z hv hd (by omega) q.2.1 O I
   obtain ⟨s1,s2,s3,s4,s5,s6⟩:=ahC A hv hd (by omega) q.2.2 T e3
   obtain ⟨o1,o2,o3,o4,o5,o6,o7⟩:=q.1
   have hm:0<=m->0<=(if kd=1/\m>n+v then m-1 else m):=by intro h;split<;>omega
   refine ⟨?_, ?_, ?_, ?_⟩
   ·rw [pf]
    exact ⟨⟨o1,by unfold aG at*;split<;>omega,o3,o4,o5,by omega,by omega⟩,k1,s1⟩
   ·rw [rf,k2,s2]
    simp only [Bool.false_and,sQ,Bool.true_and,Bool.and_true]
    unfold cL at q2 ⊢
    simp only [pX,decide_eq_true_eq] at q2 ⊢
    rw [k5,s5,s6]
    obtain ⟨⟨a1,a2,a3,a4⟩,a5⟩:=q2
    refine ⟨⟨a1, ?_,a3,a4⟩, ?_⟩
    ·by_cases c:kd=1
     ·exact .inl c
     ·exact .inr (by rw [if_neg (fun h=>c h.1)];exact a2.resolve_left c)
    ·by_cases c1:kd=1
     ·rw [if_pos c1] at a5 ⊢
      simp only [pX,decide_eq_true_eq] at a5 ⊢
      exact ⟨a5.1,hm a5.2.1,.inl (by decide)⟩
     ·rw [if_neg c1] at a5 ⊢;exact a5
   ·rw [zh,if_neg hc,au,au,k3,s3,Ej,Nat.add_mul];omega
   ·rw [am,am];omega
end
theorem CP {n:Int} (hn:0<=n) {t u o:Tm} (q:Fm t) (hu:Fm u) (h:K7 n t u= .ok o):Fm o:=by
 unfold K7 at h
 split at h
 ·cases h
 rename_i B
 obtain ⟨E,h1,h⟩:=i8 h
 split at h
 ·cases h
 rename_i h2
 injection h with h;subst h
 obtain ⟨d1,d2,d3⟩:=Ie q.2
 obtain ⟨x,z,A,F⟩:=F8 hu hn t (Int.le_refl 0) (Int.le_refl 0) (by omega) q.ok d3 h1
 rw [Int.add_zero] at A
 exact ⟨x,pS (by omega) (by omega) z⟩
theorem F7 {n:Int} {u:Tm} (t:Tm): ∀ {v d e:Int},HZ n u v d t= .error e->0<e/\e<=1000:=by
 induction t using gq with
 |h kd m nm r I sys z A=>
  intro v d e h
  have hk: ∀ {l:LT} {i:Nat},(∀x∈l,∀ {v d e:Int},HZ n u v d x= .error e->0<e/\e<=1000)->dX n u v d kd i l= .error e->0<e/\e<=1000:=by
   intro l
   induction l with
   |nil=>intro i _ h;rw [dX] at h;cases h
   |cons t l q=>
    intro i h hl
    rw [dX] at hl
    rcases be hl with hl|⟨_,_,hl⟩
    ·exact h t (by simp) hl
    rcases be hl with hl|⟨_,_,hl⟩
    ·exact q (fun x B=>h x (by simp [B])) hl
    ·cases hl
  have F: ∀ {l:LT},(∀x∈l,∀ {v d e:Int},HZ n u v d x= .error e->0<e/\e<=1000)->Ml n u v d kd l= .error e->0<e/\e<=1000:=by
   intro l
   induction l with
   |nil=>intro _ h;rw [Ml] at h;cases h
   |cons t l q=>
    intro h hl
    rw [Ml] at hl
    rcases be hl with hl|⟨_,_,hl⟩
    ·exact h t (by simp) hl
    rcases be hl with hl|⟨_,_,hl⟩
    ·exact q (fun x B=>h x (by simp [B])) hl
    ·cases hl
  have hs: ∀ {l:LB},(∀b∈l,∀x∈b.c,∀ {v d e:Int},HZ n u v d x= .error e->0<e/\e<=1000)->I1 n u v d kd l= .error e->0<e/\e<=1000:=by
   intro l
   induction l with
   |nil=>intro _ h;rw [I1] at h;cases h
   |cons b l q=>
    intro h hl
    rw [I1] at hl
    obtain ⟨f,E⟩:=b
    rcases be hl with hl|⟨_,_,hl⟩
    ·rw [AJ] at hl
     rcases be hl with hl|⟨_,_,hl⟩
     ·exact F (h ⟨f,E⟩ (by simp)) hl
     ·cases hl
    ·rcases be hl with hl|⟨_,_,hl⟩
     ·exact q (fun b hb=>h b (by simp [hb])) hl
     ·cases hl
  rw [HZ] at h
  split at h
  ·exact xJ h
  ·rcases be h with h|⟨_,_,h⟩
   ·exact hk z h
   ·rcases be h with h|⟨_,_,h⟩
    ·exact hs A h
    ·cases h
theorem AL {n:Int} {t u:Tm} {e:Int} (h:K7 n t u= .error e):0<e/\e<=1000:=by
 unfold K7 at h
 split at h
 ·injection h with h;omega
 ·rcases be h with h|⟨_,_,h⟩
  ·exact F7 t h
  ·split at h
   ·injection h with h;omega
   ·cases h
def sh {α:Type} (t:Tm) (x:Except Int α):Except Int α:=if bw t=0 then x else .error (bw t)
theorem z7 {α:Type} {t:Tm} {x:Except Int α} {e:Int} (q: ∀e,x= .error e->0<e/\e<=1000) (h:sh t x= .error e):0<e/\e<=1000:=by
 unfold sh at h
 split at h
 ·exact q e h
 ·rename_i z
  injection h with h
  have:=Et t;omega
def wA (a b:Int) (t:Tm):Except Int Tm:=sh t (J6 a b t)
def pH (f b:Int) (t:Tm):Except Int Tm:=sh t (uC 0 b 0 f t)
def wv (i:Int) (r:LC) (t:Tm):Except Int Tm:=sh t (Ab i r t)
theorem dj {e:Int} (h:e≠0):(e==0)=false:=by simpa using h
theorem aiH (hk:F3 k) {t:Tm} (q:In k t) {vb db:Int} (x:0<=vb/\vb<=1000000) (z:0<=db/\db<9223372036854775808) (I:Tm×Int->OS S):lu k t vb db I=I (tE (wA vb db t)):=by
 unfold wA sh
 by_cases h:bw t=0
 ·rw [if_pos h];exact He hk ⟨q.1,h⟩ x z I
 ·rw [if_neg h]
  simp only [lu,ag hk.fu,ar,y7,BS,zy q.1 q.2.1 q.dep,dj h,sQ,ae];rfl
theorem ek (hk:F3 k) {t:Tm} (q:In k t) {f b:Int} (hf:0<=f/\f<=24) (hb:0<=b/\b<9223372036854775808) (I:Tm×Int->OS S):lv k t f b I=I (tE (pH f b t)):=by
 unfold pH sh
 by_cases h:bw t=0
 ·rw [if_pos h];exact Rr hk ⟨q.1,h⟩ hf hb I
 ·rw [if_neg h]
  simp only [lv,ag hk.fu,ar,yZ,BQ,zy q.1 q.2.1 q.dep,dj h,sQ,ae];rfl
theorem ap8 (hk:F3 k) {t:Tm} (q:In k t) {i:Int} (x:0<=i/\i<24) {r:LC} (z:RF r) (I:Tm×Int->OS S):m_ k t i r I=I (tE (wv i r t)):=by
 unfold wv sh
 by_cases h:bw t=0
 ·rw [if_pos h];exact Ra hk ⟨q.1,h⟩ x z I
 ·rw [if_neg h]
  simp only [m_,ag hk.fu,ar,DM,zy q.1 q.2.1 q.dep,dj h,sQ,ae];rfl
end
section
theorem agi (t:Tm): ∀ {v v' d d':Int},v+am t<=1000000000->v'+am t<=1000000000->uC 0 0 v d t=uC 0 0 v' d' t:=by
 induction t using gq with
 |h kd n nm r L sys B E=>
  intro v v' d d' h h'
  rw [am] at h h'
  have hk: ∀ {l:LT} {i:Nat},(∀x∈l,∀ {v v' d d':Int},v+am x<=1000000000->v'+am x<=1000000000->uC 0 0 v d x=uC 0 0 v' d' x)->v+aH l+1<=1000000000->v'+aH l+1<=1000000000->dm 0 0 v d kd i l=dm 0 0 v' d' kd i l:=by
   intro l
   induction l with
   |nil=>intro i _ _ _;rw [dm,dm]
   |cons t l q=>
    intro i h h1 h2
    rw [aH] at h1 h2
    have:=g7 kd i
    rw [dm,dm,h t (by simp) (v:=v+Am kd i) (v':=v'+Am kd i) (d:=d+bJ kd i) (d':=d'+bJ kd i) (by omega) (by omega),q (fun x F=>h x (by simp [F])) (by omega) (by omega)]
  have I: ∀ {l:LT},(∀x∈l,∀ {v v' d d':Int},v+am x<=1000000000->v'+am x<=1000000000->uC 0 0 v d x=uC 0 0 v' d' x)->v+aH l+1<=1000000000->v'+aH l+1<=1000000000->H6 0 0 v d kd l=H6 0 0 v' d' kd l:=by
   intro l
   induction l with
   |nil=>intro _ _ _;rw [H6,H6]
   |cons t l q=>
    intro h h1 h2
    rw [aH] at h1 h2
    rw [H6,H6,h t (by simp) (v:=v) (v':=v') (d:=d+av kd) (d':=d'+av kd) (by omega) (by omega),q (fun x F=>h x (by simp [F])) (by omega) (by omega)]
  have A: ∀ {d:Int} {f:LC},EZ d 0 f= .ok f:=fun {d f}=>if_pos (.inl rfl)
  have hs: ∀ {l:LB},(∀b∈l,∀x∈b.c,∀ {v v' d d':Int},v+am x<=1000000000->v'+am x<=1000000000->uC 0 0 v d x=uC 0 0 v' d' x)->v+aO l+1<=1000000000->v'+aO l+1<=1000000000->HW 0 0 v d kd l=HW 0 0 v' d' kd l:=by
   intro l
   induction l with
   |nil=>intro _ _ _;rw [HW,HW]
   |cons b l q=>
    intro h h1 h2
    obtain ⟨f,z⟩:=b
    rw [aO,Ey] at h1 h2
    rw [HW,HW,n8,n8,A,A,aD,aD,I (l:=z) (h ⟨f,z⟩ (by simp)) (by omega) (by omega),q (fun b hb=>h b (by simp [hb])) (by omega) (by omega)]
  rw [uC,uC,A,A,aD,aD,hk B (by omega) (by omega),hs E (by omega) (by omega)]
  have J:(kd=1/\n>=v/\n>1000000000-0)↔(kd=1/\n>=v'/\n>1000000000-0):=by omega
  simp only [J,Int.add_zero,ite_self]
variable {S:Type} {k:Nat}
def c6 (l:LT) (x:Except Int Tm):Except Int Tm:=if xv l=0 then FC x else .error (xv l)
theorem soM {l:LT} {p:Tm×Int} {x:Except Int Tm} (q:xv l=0->oy p=x) (hc:xv l≠0->p.2=xv l):FC (oy p)=c6 l x:=by
 unfold c6
 by_cases h:xv l=0
 ·grind
 ·rw [if_neg h]
  unfold oy
  rw [hc h,if_neg h];rfl
theorem aFS {c:Int} {t a f y:Tm} (h:(RH c t a f y).2=0):c=0:=by
 grind [aA3]
theorem aI1 {p:Tm×Int} (h:p.2=0):oy p= .ok p.1:=if_pos h
theorem aHT (hk:F3 k) {t a f y:Tm} (B:In k t) (ha:In k a) (hf:In k f) (F:In k y) (I:Tm×Int->OS S):o2 k t a f y I=I (tE (c6 [t,a,f,y] (Ma t a f y))):=by
 have A: ∀x∈[t,a,f,y],In k x:=fun x E=>by
  grind
 have q:xv [t,a,f,y]=0-> ∀x∈[t,a,f,y],Fm x:=fun h=>Sq (fun x E=>(A x E).1) h
 simp only [o2,ag hk.fu,ar,Re hk A (by simp),vU t B.1 _ B.2.1,aIa hk (fun h=>q h a (by simp)) (fun h=>q h f (by simp)) (fun h=>q h y (by simp))]
 refine (Rk hk (t:=(RH (xv [t,a,f,y]) t a f y).1) (fun h=> ?_) I).trans ?_
 ·have z:=aFS h
  have:=aI1 h
  rw [z,aA4] at this
  rw [z]
  exact (aA5 (by omega) (by omega) (q z t (by simp)).f2 (q z a (by simp)).f2 (q z f (by simp)).f2 (q z y (by simp)).f2 this).isIn hk (by omega) (by omega)
 grind [soM,aA4,aA3]
structure Gd (x:Except Int Tm):Prop where
 en: ∀e,x= .error e->0<e/\e<=1000
 kd: ∀t,x= .ok t->0<=t.k
theorem akc (hk:F3 k) {l:LT} {x:Except Int Tm} (z:xv l=0-> ∀t,x= .ok t->In k t):In k (tE (c6 l x)).1:=by
 unfold c6
 by_cases q:xv l=0
 ·rw [if_pos q]
  unfold FC
  cases A:x with
  |error e=>exact gQ hk
  |ok t=>
   rw [aD]
   split
   ·exact z q t A
   ·exact gQ hk
 ·rw [if_neg q];exact gQ hk
def azL (r:LC):Tm:= .mk 13 0 oW r [dS 10 [vN 0],vN 1,dS 9 [vN 0]] []
def w5:LT:=[dS 5 [vN 0],dS 5 [dS 8 [dS 8 [vN 0,dS 12 [vN 0]],dS 5 [dS 12 [dS 8 [azL [⟨1,0⟩],dS 12 [azL [⟨3,0⟩]]]]]]]]
theorem aF9 (q:Nat) (I:Int×Int×BA×LT->OS S):bh (q+100) I=I (8,0,oW,w5):=by kernel_rfl
theorem aFR:bw (dS 8 w5)=0:=by kernel_rfl
section
variable {hd:Tm->(Tm->OS S)->OS S} {t:Tm}
end
def J4 (sys:LB):Tm:= .mk 15 0 oW [] [.mk 3 0 oW [] [] [],.mk 3 0 oW [] [] []] sys
theorem RY (hk:Fu k) (sys:LB) (I:Int×Int×BA×LT×LB->OS S):bF k sys I=I (15,0,oW,[.mk 3 0 oW [] [] [],.mk 3 0 oW [] [] []],sys):=by
 simp_all [bF,wq,ag]
def AK (b:Br Tm):Tm:=b.c.headD oe
structure SyF (sys:LB):Prop where
 bV: ∀b∈sys,b.c=[AK b]/\Fm (AK b)/\aq b.f/\b.f.length<1073741824
 len:sys.length<=20000
 dP:aI sys<=20000
theorem iQ {sys:LB} (h:Fm (J4 sys)):SyF sys:=by
 obtain ⟨h1,h2,E⟩:=Ie h.2
 have L:au (J4 sys)=3+aI sys:=by rfl
 have hd:aO sys+1<=am (J4 sys):=by grind [J4,am]
 unfold J4 at E
 rw [rf] at E
 simp only [pX] at E
 obtain ⟨_,ho,_,F⟩:=E
 have ho:(sys.all (bX 15 24)&&decide (([]:LC).length=0))=true:=by
  grind [cL]
 simp only [pX] at ho
 have hb:=xm.1 ho.1
 rw [wH,xm] at F
 have hk: ∀b∈sys,b.c=[AK b]/\Fm (AK b)/\aq b.f/\b.f.length<1073741824:=by
  intro b z
  have B:=hb b z
  unfold bX at B
  simp only [pX,decide_eq_true_eq] at B
  have hl:b.c.length=1:=by grind [xU]
  have A:=h.1.br (by exact z:b∈sys)
  match I:b.c,hl with
  |[x],_=>
   have J:AK b=x:=by grind [AK]
   have q:x∈b.c:=by grind
   rw [J]
   refine ⟨rfl,⟨A.2 x q,pS ?_ ?_ ?_⟩,A.1.1,A.1.2.1⟩
   ·have:=D0 q;have:=JP z;omega
   ·have:=k_ q;have:=we z;omega
   ·have:=xm.1 (F b z) x q
    rw [<-this]
    exact at8 x (by omega) (by decide)
 have hlen: ∀l:LB,(∀b∈l,b.c=[AK b])->l.length<=aI l:=by
  intro l
  induction l<;>grind [aI,kZ,ay,mB]
 exact ⟨hk,by grind,by omega⟩
def g_ (line:Tm):LB->Except Int (LB)
 |[]=> .ok []
 |b::r=>bE (di [⟨1,0⟩,⟨2,0⟩] line) fun u=>bE (g_ line r) fun l=> .ok (.mk b.f [.mk 14 0 oW [⟨1,0⟩] [u,AK b] []]::l)
def dF (line a:Tm) (sys:LB):Except Int Tm:=bE (Ab 0 [⟨0,0⟩] line) fun q=>bE (g_ line sys) fun l=> .ok (.mk 15 0 oW [] [q,dS 14 [line,a]] l)
theorem QA:RF [⟨1,0⟩,⟨2,0⟩]:=by
 refine ⟨by rfl,fun c hc=> ?_⟩
 simp only [xB,List.not_mem_nil,or_false] at hc
 rcases hc with rfl|rfl
 ·exact ⟨⟨by decide,by decide⟩,by decide,by decide⟩
 ·exact ⟨⟨by decide,by decide⟩,by decide,by decide⟩
theorem Qz:RF [⟨0,0⟩]:=gS ⟨⟨by decide,by decide⟩,by decide,by decide⟩
theorem agZ:aq [⟨1,0⟩]:=fun c hc=>by grind [ag1]
theorem mu {r:LC} {t y:Tm} (q:Fm t) (h:Ab 0 r t= .ok y):pf y/\am y<=200/\au y<=20000:=by
 obtain ⟨z,A,B,x⟩:=T0 h
 have E:=x q.ok q.rows
 have:=q.dep;have:=q.dP
 grind
theorem aaa {line:Tm}: ∀ {r:LB} {e:Int},g_ line r= .error e->0<e/\e<=1000:=by
 intro r
 induction r with
 |nil=>intro e h;cases h
 |cons b r q=>
  intro e h
  rcases be h with h|⟨_,_,h⟩<;>grind [be,li]
theorem o_ {line a:Tm} {sys:LB} {e:Int} (h:dF line a sys= .error e):0<e/\e<=1000:=by
 rcases be h with h|⟨_,_,h⟩
 ·exact fP h
 rcases be h with h|⟨_,_,h⟩
 ·exact aaa h
 simp_all
theorem aab {line:Tm} (hl:Fm line): ∀ {r l:LB},(∀b∈r,b.c=[AK b]/\Fm (AK b)/\aq b.f/\b.f.length<1073741824)->g_ line r= .ok l->ba l/\aO l<=201/\aI l<=r.length*20001+aI r/\l.length=r.length:=by
 intro r
 induction r with
 |nil=>
  intro l _ h
  injection h with h;grind [ba,aO]
 |cons b r z=>
  intro l q h
  obtain ⟨u,h1,h⟩:=i8 h
  obtain ⟨E,h2,h⟩:=i8 h
  injection h with h;subst h
  obtain ⟨F,x,A,B⟩:=q b (by simp)
  obtain ⟨i1,i2,i3,i4⟩:=z (fun b hb=>q b (by simp [hb])) h2
  obtain ⟨a1,a2,a3,a4⟩:=Jo hl h1
  have:=x.dep
  refine ⟨?_, ?_, ?_,by simp [i4]⟩
  ·rw [ba,Fa,aZ,aZ,pf,aZ,aZ,aZ,ba]
   refine ⟨⟨⟨A,B,by simp⟩,⟨⟨by unfold aG;omega,by unfold aG;omega,by simp,agZ,by simp,by simp,by simp⟩,⟨a1,x.ok,trivial⟩,trivial⟩,trivial⟩,i1⟩
  all_goals grind [aO,Ey,aH,am,aI,ay,au,kZ]
theorem yu (hk:F3 k) {line a:Tm} {sys:LB} (hl:Fm line) (ha:Fm a) (hs:SyF sys) {t:Tm} (h:dF line a sys= .ok t):In k t/\0<=t.k:=by
 obtain ⟨z,h1,h⟩:=i8 h
 obtain ⟨l,h2,h⟩:=i8 h
 injection h with h;subst h
 obtain ⟨a1,a2,a3⟩:=mu hl h1
 obtain ⟨i1,i2,i3,i4⟩:=aab hl hs.bV h2
 have:=hs.len;have:=hs.dP;have:=hl.dep;have:=ha.dep;have:=hl.dP;have:=ha.dP
 have A:sys.length*20001<=20000*20001:=HV _ hs.len
 refine ⟨⟨?_,hk.fd ?_, ?_⟩,(by decide:(0:Int)<=15)⟩
 ·rw [pf,aZ,aZ,aZ]
  exact ⟨⟨by unfold aG;omega,by unfold aG;omega,by simp,fun c hc=>(by cases hc),by simp,by simp,by omega⟩,⟨a1,ag2 (by omega) (by simp) fun x q=>by
   simp at q
   rcases q with rfl|rfl
   ·exact hl.ok
   ·exact ha.ok,trivial⟩,i1⟩
 ·grind [dS,am,aH,aO]
 ·unfold dS;rw [au,ay,ay,ay,au,ay,ay,ay,aI];omega
theorem ai_ (hk:F3 k) {c:Int} {t:Tm} (h:c=0->Fm t) (I:Tm×Int->OS S):yz k t c I=I (if c=0 then tE (Ab 0 [⟨0,0⟩] t) else (oe,c)):=by
 simp only [yz,ag hk.fu,de,bG,Nu,ar]
 by_cases hc:c=0
 ·grind [n3,Ra,Qz,rI]
 ·rw [decide_eq_false hc,sQ,ae,if_neg hc];rfl
theorem E6 (hk:F3 k) (I:Tm×Int->OS S) {line:Tm} {q:Int×Int×BA×LT} {w:Tm} {c:Int} (hc:c≠0) (z:w.s.length<1073741824):
  ∀ (r p acc:LB) (m:Nat),w.s=p++r->0<m->ko k I line q w m c acc (p.length:Int)=I (oe,c):=by
 intro r p acc m h A
 obtain ⟨m,rfl⟩: ∃j,m=j+1:=⟨m-1,by omega⟩
 cases r with
 |nil=>grind [ko,oP,n3,ar,ag,rG]
 |cons x r=>
  obtain ⟨B,E,F,J⟩:=qF h (by omega)
  grind [ko,oP,ae,de,ar,ag,rG]
theorem aeu (hk:F3 k) (I:Tm×Int->OS S) {line:Tm} (hl:Fm line) {q:Int×Int×BA×LT} {w:Tm} (M:w.s.length<1073741824) (hs: ∀b∈w.s,b.c=[AK b]):
  ∀ (r p acc:LB) (m:Nat),w.s=p++r->r.length<m->acc.length+r.length<1073741824->
   ko k I line q w m 0 acc (p.length:Int)=eE (g_ line r) (fun l=>eQ k (.mk q.1 q.2.1 q.2.2.1 [] q.2.2.2 (acc++l)) 0 fun z=>I (z.1,z.2.1)) fun e=>I (oe,e):=by
 intro r
 induction r with
 |nil=>
  intro p acc m h B ha
  obtain ⟨m,rfl,A⟩:=pw B
  simp only [ko,oP,xu h,n3,ag hk.fu,ar,g_,aP,xG]
 |cons x r O=>
  intro p acc m h B ha
  obtain ⟨m,rfl,A⟩:=pw B
  obtain ⟨T,W,J,L⟩:=qF h (by omega)
  have Y:=hs x (by grind)
  have hg:af x.c 0=some (AK x):=by rw [Y];rfl
  have E: ∀g:Tm×Int->OS S,lr k line [⟨1,0⟩,⟨2,0⟩] 0 g=g (tE (di [⟨1,0⟩,⟨2,0⟩] line)):=fun g=>Rd hk hl QA g
  simp only [ko,oP,T,ae,W,p9,ag hk.fu,de,bG,show decide ((0:Int)=0)=true from rfl,uX,n3,ar,E,hg,wq]
  rw [J5 (by grind),g_,AS]
  cases F:di [⟨1,0⟩,⟨2,0⟩] line with
  |error e=>
   have he:=li F
   rw [J]
   exact E6 hk I (show e≠0 by omega) M r (p++[x]) _ m L (by grind)
  |ok u=>
   rw [aP,AS,J]
   refine (O (p++[x]) (acc++[.mk x.f [.mk 14 0 oW [⟨1,0⟩] [u,AK x] []]]) m L A (by grind)).trans ?_
   grind [aP]
theorem aiI (hk:F3 k) {line a:Tm} {sys:LB} (hl:In k line) (ha:In k a) (hs:In k (J4 sys)) (I:Tm×Int->OS S):yx k line a sys I=I (tE (c6 [line,a,J4 sys] (dF line a sys))):=by
 have E: ∀x∈[line,a,J4 sys],In k x:=fun x J=>by
  grind
 have q:xv [line,a,J4 sys]=0-> ∀x∈[line,a,J4 sys],Fm x:=fun h=>Sq (fun x J=>(E x J).1) h
 have A:sys.length<1073741824:=hs.1.node.2.2.2.2.2.2
 simp only [yx,Hq,ag hk.fu,ar,RY hk.fu]
 have hb: ∀g:Int->OS S,m9 k [line,a,.mk 15 0 oW [] [.mk 3 0 oW [] [] [],.mk 3 0 oW [] [] []] sys] g=g (xv [line,a,J4 sys]):=fun g=>Re hk E (by simp) g
 have hc: ∀g:Tm->OS S,dJ k (.mk 15 0 oW [] [.mk 3 0 oW [] [] [],.mk 3 0 oW [] [] []] sys) g=g (J4 sys):=fun g=>vU (J4 sys) hs.1 g hs.2.1
 simp only [hb,hc,vU line hl.1 _ hl.2.1,vU a ha.1 _ ha.2.1,ai_ hk (fun h=>q h line (by simp)),wq]
 unfold c6
 by_cases B:xv [line,a,J4 sys]=0
 ·have fl:=q B line (by simp)
  have fa:=q B a (by simp)
  have sy:=iQ (q B (J4 sys) (by simp))
  simp only [B,if_true]
  have F:I (tE (FC (dF line a sys)))=eE (dF line a sys) (fun t=>eQ k t 0 fun z=>I (z.1,z.2.1)) fun e=>I (oe,e):=by
   unfold FC
   rw [Jl _ I,AS]
   refine Dc (fun t L=> ?_) fun _ _=>rfl
   rw [<-Jl _ I]
   exact ((Rk hk (t:=t) (c:=0) (fun _=>(yu hk fl fa sy L).1) I).trans rfl).symm
  rw [F]
  unfold dF
  rw [AS]
  cases h1:Ab 0 [⟨0,0⟩] line with
  |error e=>
   have he:=fP h1
   exact E6 hk I (w:=J4 sys) (show e≠0 by omega) A sys [] [] k rfl (by omega)
  |ok M=>
   rw [aP,AS]
   refine (aeu hk I fl (w:=J4 sys) A (fun b hb=>(sy.bV b hb).1) sys [] [] k rfl (by omega) (by grind)).trans ?_
   rfl
 ·simp only [if_neg B]
  exact E6 hk I (w:=J4 sys) B A sys [] [] k rfl (by omega)
end
end Go.Proofs.YtfffkmcpnggkdaaGreatDoor
