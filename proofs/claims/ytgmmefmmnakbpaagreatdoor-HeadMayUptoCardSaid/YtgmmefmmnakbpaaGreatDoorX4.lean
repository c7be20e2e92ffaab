/- Part 4 of a proof; sources: wip/. -/
import Derived.Test.YtgmmefmmnakbpaaGreatDoorX3
import Derived.KernelRfl
open Bool renaming and_eq_true→qC,not_false→ub,not_true→xJ
open ByteArray renaming empty→qw
open Eq renaming trans→qy
open Go.IntKind renaming wrap→p5
open Int renaming add_zero→xm,le_refl→BF,toNat_natCast→HV
open List renaming all_cons→EZ,all_eq_true→zf,append_nil→zr,length_cons→uL,length_eq_zero_iff→L3,mem_cons→BB,nil_append→An
open Nat renaming le_refl→zk,le_trans→zj,mul_le_mul_right→Iq,zero_add→FF
open Option renaming bind→pA,bind_some→rf
set_option linter.unusedVariables false
set_option linter.unusedSimpArgs false
namespace Go.Proofs.YtgmmefmmnakbpaaGreatDoor
set_option maxRecDepth 100000
open Go PI
section
open Go PI _root_.Go.Proofs.Tryz
noncomputable section
variable {S:Type} {o:Obj} (k:Nat)
def GA:Rw S:=aj aGp kk fun l vm sP sO sN sM sK sJ sQ tt s8 tc tb ta s9 td th tg tf te tP tM Z=>aa k (uv k l vm sP sO sN sM sK sJ sQ tt s8 tc tb ta s9 td th tg tf te tP tM) (q5 sP sO sN sM sK sJ sQ tt s8 tc tb ta s9 td th tg tf te tP tM Z)
def CL:Fx S:=fx 22 (fun _=>[]) (fun _=>false) [(105,Gz k)] [(3,⟨[(1,pr),(5,qW 100005),(8,pr),(9,pr),(10,pr)],[(1000000,[pr]),(1000001,[pr,pr,pr,pr,pr,pr,pr,pr,pr,pr,pr,pr,pr,pr,pr,pr,pr,pr,pr,pr,pr])]⟩,ap 5 11)] k f104 false [true] 2
def ML (sP:List Cl) (tc:Int) (tb:ByteArray) (ta:List Cl) (s9:List Tm) (td:List (Br Tm)) (th tg:Int) (tf:ByteArray) (te:List Cl) (tP:List Tm) (sO:Int) (tM:List (Br Tm)) (sN:Int) (sM:ByteArray) (sK:List Cl) (sJ:List Tm) (sQ tt:List (Br Tm)) (s8:Int) (l:List (Br Tm)) (arm qT:Int) (h:List Tm):St UU:=⟨[(1,(.func 105 [] [(pt 1000000)])),(5,(.own 100005 0)),(8,(sB l)),(9,(iI l.length)),(10,(iI qT))],[(1000000,.cells [(pt 1000001)]),(1000001,.cells [(iI arm),(sC sP),(iI sO),(iI sN),(.str sM),(sC sK),(sT sJ),(sB sQ),(sB tt),(iI s8),(iI tc),(.str tb),(sC ta),(sT s9),(sB td),(iI th),(iI tg),(.str tf),(sC te),(sT tP),(sB tM)])],[(100005,⟨0,ET.T,h⟩)],[(100005,.wr)]⟩
section
variable (k:Nat) (l:List (Br Tm)) (vm:Int) (sP:List Cl) (sO sN:Int) (sM:ByteArray) (sK:List Cl) (sJ:List Tm) (sQ tt:List (Br Tm)) (s8 tc:Int) (tb:ByteArray) (ta:List Cl) (s9:List Tm) (td:List (Br Tm)) (th tg:Int) (tf:ByteArray) (te:List Cl) (tP:List Tm) (tM:List (Br Tm)) (Z:Out UU->Option S)
theorem Yj: ∀n arm qT h,(CL k).lp Z 3 [] n (ML sP tc tb ta s9 td th tg tf te tP sO tM sN sM sK sJ sQ tt s8 l arm qT h)=e7 k (q5 sP sO sN sM sK sJ sQ tt s8 tc tb ta s9 td th tg tf te tP tM Z) sP tc tb ta s9 td th tg tf te tP sO tM sN sM sK sJ sQ tt s8 l n arm qT h:=p7 (L' k (q5 sP sO sN sM sK sJ sQ tt s8 tc tb ta s9 td th tg tf te tP tM Z) sP tc tb ta s9 td th tg tf te tP sO tM sN sM sK sJ sQ tt s8 l)
end
theorem Kh (ho:ai o):Tl o 104 (GA k:Rw S):=qx (CL k) ⟨Kg k ho,trivial⟩ func104 fun l vm sP sO sN sM sK sJ sQ tt s8 tc tb ta s9 td th tg tf te tP tM Z x h=>qy (b:=aAc k (q5 sP sO sN sM sK sJ sQ tt s8 tc tb ta s9 td th tg tf te tP tM Z) (fun arm qT j=>(CL k).lp Z 3 [] k (ML sP tc tb ta s9 td th tg tf te tP sO tM sN sM sK sJ sQ tt s8 l arm qT j)) l vm sP sO sN sM sK sJ sQ tt s8 tc tb ta s9 td th tg tf te tP tM) (by kernel_rfl) (qy (by simp only [Yj];rfl) (al h))
def aHH:Rw S:=aj EX kk fun vm sP sO sN sM sK sJ sQ tt s8 tc tb ta s9 td th tg tf te tP tM Z=>aa k (ts k vm sP sO sN sM sK sJ sQ tt s8 tc tb ta s9 td th tg tf te tP tM) (aCN sP sO sN sM sK sJ sQ tt s8 tc tb ta s9 td th tg tf te tP tM Z)
def Ph:Rw S:=aj EX kk fun vm sP sO sN sM sK sJ sQ tt s8 tc tb ta s9 td th tg tf te tP tM Z=>aa k (ts k vm sP sO sN sM sK sJ sQ tt s8 tc tb ta s9 td th tg tf te tP tM) (aHz Z)
def VG:Fx S:=fp 10 [(57,A3 k)] [] k f108 2
theorem aFo (ho:ai o):Tl o 108 (aHH k:Rw S):=qx (VG k) ⟨D_ k ho,trivial⟩ func108 fun vm sP sO sN sM sK sJ sQ tt s8 tc tb ta s9 td th tg tf te tP tM Z x h=>qK h
theorem abt (ho:ai o):Tl o 108 (Ph k:Rw S):=fe (n:=1) (m:=1) (aFo k ho) fun vm sP sO sN sM sK sJ sQ tt s8 tc tb ta s9 td th tg tf te tP tM Z x h=>qy (b:=aa k (ts k vm sP sO sN sM sK sJ sQ tt s8 tc tb ta s9 td th tg tf te tP tM) (aCN sP sO sN sM sK sJ sQ tt s8 tc tb ta s9 td th tg tf te tP tM (Uv 1 1 [.cells [(pt 1)],.cells [(iI vm),(sC sP),(iI sO),(iI sN),(.str sM),(sC sK),(sT sJ),(sB sQ),(sB tt),(iI s8),(iI tc),(.str tb),(sC ta),(sT s9),(sB td),(iI th),(iI tg),(.str tf),(sC te),(sT tP),(sB tM)]] Z))) (by kernel_rfl) (qy (congrArg (aa k (ts k vm sP sO sN sM sK sJ sQ tt s8 tc tb ta s9 td th tg tf te tP tM)) (funext fun r=>if_pos ⟨rfl,rfl⟩)) h)
def Pi:Rw S:=aj aGq aJq fun qB pw qm ql qv qn qu py h wc wD wv wq wm wi uY uX uW uV uU uT Z=>aa k (k7 k qB pw qm ql qv qn qu py h wc wD wv wq wm wi uY uX uW uV uU uT) (aHA pw qm ql qv qn qu py h wc wD wv wq wm wi uY uX uW uV uU uT Z)
def r_:Fx S:=fx 20 (fun _=>[]) (fun _=>false) [(59,OV k),(108,Ph k)] [] k f107 true [false,true] 2
theorem abu (ho:ai o):Tl o 107 (Pi k:Rw S):=qx (r_ k) ⟨IH k ho,abt k ho,trivial⟩ func107 fun qB pw qm ql qv qn qu py j wc wD wv wq wm wi uY uX uW uV uU uT Z x h=>qK h
def Pj:Rw S:=aj FE xn fun t Z=>aa k (uC k t) (AX Z)
def VH:Fx S:=fp 165 [(23,PK k),(30,PL (dJ k)),(52,Gg k),(57,A3 k),(58,Ot k),(59,OV k),(97,Oy k),(101,Oq k),(102,Gr k),(103,Gw k),(104,GA k),(107,Pi k),(109,sR k)] [(16,⟨[(2,pr),(6,pr),(8,qW 100008),(9,some (100009,false)),(10,qW 100010),(77,pr),(78,pr),(79,pr)],[(2,[pr,pr,pr,qW 200131,qW 200132,qW 200133]),(6,[pr]),(43,[pr,pr,pr,pr,pr,pr,pr,pr,pr,pr,pr,pr,pr,pr,pr,pr,pr,pr,pr,pr,pr])]⟩,ap 14 6143)] k f65 0
def aBQ (r3:Tm) (r6:Int×List (Br Tm)×Int×Int×ByteArray×List Cl×List Tm×List (Br Tm)) (x4:Tm) (r8:Tm×Int) (q x z:Int) (A:ByteArray) (E:List Cl) (F:List Tm) (I h:List (Br Tm)) (Iw:Int) (J:List Tm) (j:List (Br Tm)):St UU:=⟨[(2,(pt 2)),(6,(pt 6)),(8,(.own 100008 0)),(9,(.own 100009 0)),(10,(.own 100010 0)),(77,(sB r8.1.s)),(78,(iI r8.1.s.length)),(79,(iI Iw))],[(2,.cells [(iI 0),(iI 0),Di,(.own 200131 0),(.own 200132 0),(.own 200133 0)]),(6,.cells [(pt 43)]),(43,.cells [(iI q),(sC r3.r),(iI x4.k),(iI x4.n),(.str x4.name),(sC x4.r),(sT x4.c),(sB x4.s),(sB r6.2.1),(iI r6.2.2.1),(iI r6.2.2.2.1),(.str r6.2.2.2.2.1),(sC r6.2.2.2.2.2.1),(sT r6.2.2.2.2.2.2.1),(sB r6.2.2.2.2.2.2.2),(iI x),(iI z),(.str A),(sC E),(sT F),(sB I)])],[(200133,Al),(200132,Db),(200131,Bx),(100010,⟨0,ET.B,h⟩),(100009,⟨0,ET.B,j⟩),(100008,⟨0,ET.T,J⟩)],[(200133,.wr),(200132,.wr),(200131,.wr),(100010,.wr),(100009,.app),(100008,.wr)]⟩
section
variable (k:Nat) (t:Tm) (Z:Out UU->Option S)
theorem aDT (r3 r6 x4 r8): ∀n q x z A B E F h Iw I j,(VH k).lp Z 16 [] n (aBQ r3 r6 x4 r8 q x z A B E F h Iw I j)=Ta k (AX Z) r3 r6 x4 r8 n q x z A B E F h Iw I j:=aG2 (K2 k (AX Z) r3 r6 x4 r8)
end
theorem abv (ho:ai o):Tl o 65 (Pj k:Rw S):=qx (VH k) ⟨Jx k ho,Mv o ho k,TX k ho,D_ k ho,HD k ho,IH k ho,SM k ho,sg k ho,J_ k ho,Kd k ho,Kh k ho,abu k ho,Dd k ho,trivial⟩ func65 fun t Z x h=>qy (b:=qG k (AX Z) (fun M O x4 T z A B E F I J j Iw L q=>(VH k).lp Z 16 [] k (aBQ M O x4 T z A B E F I J j Iw L q)) t) (by kernel_rfl) (qy (by simp only [aDT];rfl) (al h))
def Pk:Rw S:=aj FE xn fun t Z=>aa k (K1 k t) (AX Z)
def CM:Fx S:=fp 100 [(23,PK k),(30,PL (dJ k)),(52,Gg k),(61,O2 k),(62,amL k),(63,anB k),(64,vG k),(65,Pj k)] [] k f35 0
theorem abw (ho:ai o):Tl o 35 (Pk k:Rw S):=qx (CM k) ⟨Jx k ho,Mv o ho k,TX k ho,abd k ho,amQ k ho,um k ho,zI k ho,abv k ho,trivial⟩ func35 fun t Z x h=>qK h
def Pl:Rw S:=aj azq aAx fun u vm sP sO sN sM sK sJ sQ Z=>aa k (H8 k u vm sP sO sN sM sK sJ sQ) (aCO sP sO sN sM sK sJ sQ Z)
def VI:Fx S:=fp 13 [(57,A3 k),(58,Ot k),(92,OX k)] [] k f111 2
theorem abx (ho:ai o):Tl o 111 (Pl k:Rw S):=qx (VI k) ⟨D_ k ho,HD k ho,hx k ho,trivial⟩ func111 fun u vm sP sO sN sM sK sJ sQ Z x h=>qK h
def aHI:Rw S:=aj aBo dx fun qB pw qm ql qv qn qu py Z=>aa k (mc k qB pw qm ql qv qn qu py) (Sb pw qm ql qv qn qu py Z)
def Pm:Rw S:=aj aBo dx fun qB pw qm ql qv qn qu py Z=>aa k (mc k qB pw qm ql qv qn qu py) (aCP Z)
def aQs:Fx S:=fp 31 [(59,OV k),(111,Pl k)] [(3,⟨[(1,pr),(5,qW 100005),(11,pr),(12,pr),(13,pr)],[(1000000,[pr,pr,pr,pr,pr,pr,pr,pr]),(1000001,[pr])]⟩,ap 5 11)] k f110 2
def vd (pw qm:Int) (ql:ByteArray) (qv:List Cl) (qn:List Tm) (qu py:List (Br Tm)) (j q:Int) (h:List (Br Tm)):St UU:=⟨[(1,(.func 111 [] [(pt 1000001)])),(5,(.own 100005 0)),(11,(sB py)),(12,(iI py.length)),(13,(iI q))],[(1000000,.cells [(iI j),(iI pw),(iI qm),(.str ql),(sC qv),(sT qn),(sB qu),(sB py)]),(1000001,.cells [(pt 1000000)])],[(100005,⟨0,ET.B,h⟩)],[(100005,.wr)]⟩
section
variable (k:Nat) (qB pw qm:Int) (ql:ByteArray) (qv:List Cl) (qn:List Tm) (qu py:List (Br Tm)) (Z:Out UU->Option S)
theorem Yn: ∀n j q h,(aQs k).lp Z 3 [] n (vd pw qm ql qv qn qu py j q h)=k8 k (Sb pw qm ql qv qn qu py Z) pw qm ql qv qn qu py n j q h:=p7 (ns k (Sb pw qm ql qv qn qu py Z) pw qm ql qv qn qu py)
end
theorem aFp (ho:ai o):Tl o 110 (aHI k:Rw S):=qx (aQs k) ⟨IH k ho,abx k ho,trivial⟩ func110 fun qB pw qm ql qv qn qu py Z x h=>qy (b:=qM k (Sb pw qm ql qv qn qu py Z) (fun q z j=>(aQs k).lp Z 3 [] k (vd pw qm ql qv qn qu py q z j)) qB pw qm ql qv qn qu py) (by kernel_rfl) (qy (by simp only [Yn];rfl) (al h))
theorem aby (ho:ai o):Tl o 110 (Pm k:Rw S):=fe (n:=0) (m:=1) (aFp k ho) fun qB pw qm ql qv qn qu py Z x h=>qy (b:=aa k (mc k qB pw qm ql qv qn qu py) (Sb pw qm ql qv qn qu py (Uv 0 1 [.cells [(iI qB),(iI pw),(iI qm),(.str ql),(sC qv),(sT qn),(sB qu),(sB py)],.cells [(pt 0)]] Z))) (by kernel_rfl) (qy (congrArg (aa k (mc k qB pw qm ql qv qn qu py)) (funext fun r=>if_pos ⟨rfl,rfl⟩)) h)
def Pn:Rw S:=aj Ls eT fun t qB pw qm ql qv qn qu py Z=>aa k (r' k t qB pw qm ql qv qn qu py) (qp pw qm ql qv qn qu py Z)
def VJ:Fx S:=fx 31 (fun _=>[]) (fun _=>false) [(57,A3 k),(58,Ot k),(92,OX k),(102,Gr k),(110,Pm k)] [] k f66 true [] 1
theorem abz (ho:ai o):Tl o 66 (Pn k:Rw S):=qx (VJ k) ⟨D_ k ho,HD k ho,hx k ho,J_ k ho,aby k ho,trivial⟩ func66 fun t qB pw qm ql qv qn qu py Z x h=>qK h
def Po:Rw S:=aj azq fh fun u c0 Z=>aa k (az k u c0) (aHB c0 Z)
def CN:Fx S:=fp 9 [(58,Ot k)] [] k f113 1
theorem abA (ho:ai o):Tl o 113 (Po k:Rw S):=qx (CN k) ⟨HD k ho,trivial⟩ func113 fun u c0 Z x h=>qK h
def aHJ:Rw S:=aj aBp aDw fun qB pw qm ql qv qn qu py c1 Z=>aa k (k' k qB pw qm ql qv qn qu py c1) (eC qB pw qm ql qv qn qu py c1 Z)
def Pq:Rw S:=aj aBp aDw fun qB pw qm ql qv qn qu py c1 Z=>aa k (k' k qB pw qm ql qv qn qu py c1) (aCJ Z)
def CO:Fx S:=fp 31 [(59,OV k),(113,Po k)] [(3,⟨[(1,pr),(5,qW 100005),(11,pr),(12,pr),(13,pr)],[(1000000,[pr,pr,pr,pr,pr,pr,pr,pr]),(1000001,[pr])]⟩,ap 5 11)] k f110 2
def MS (qB pw qm:Int) (ql:ByteArray) (qv:List Cl) (qn:List Tm) (qu py:List (Br Tm)) (c1:Int) (j:Int) (h:List (Br Tm)):St UU:=⟨[(1,(.func 113 [] [(pt 1000001)])),(5,(.own 100005 0)),(11,(sB py)),(12,(iI py.length)),(13,(iI j))],[(1000000,.cells [(iI qB),(iI pw),(iI qm),(.str ql),(sC qv),(sT qn),(sB qu),(sB py)]),(1000001,bI c1)],[(100005,⟨0,ET.B,h⟩)],[(100005,.wr)]⟩
section
variable (k:Nat) (qB pw qm:Int) (ql:ByteArray) (qv:List Cl) (qn:List Tm) (qu py:List (Br Tm)) (c1:Int) (Z:Out UU->Option S)
theorem Yr: ∀n j h,(CO k).lp Z 3 [] n (MS qB pw qm ql qv qn qu py c1 j h)=nh k (eC qB pw qm ql qv qn qu py c1 Z) qB pw qm ql qv qn qu py c1 n j h:=aL (hQ k (eC qB pw qm ql qv qn qu py c1 Z) qB pw qm ql qv qn qu py c1)
end
theorem aFq (ho:ai o):Tl o 110 (aHJ k:Rw S):=qx (CO k) ⟨IH k ho,abA k ho,trivial⟩ func110 fun qB pw qm ql qv qn qu py c1 Z x h=>qy (b:=aAh k (eC qB pw qm ql qv qn qu py c1 Z) (fun q j=>(CO k).lp Z 3 [] k (MS qB pw qm ql qv qn qu py c1 q j)) qB pw qm ql qv qn qu py c1) (by kernel_rfl) (qy (by simp only [Yr];rfl) (al h))
theorem abC (ho:ai o):Tl o 110 (Pq k:Rw S):=tlS (aFq k ho) fun qB pw qm ql qv qn qu py c1 Z x h=>qy (b:=aa k (k' k qB pw qm ql qv qn qu py c1) (eC qB pw qm ql qv qn qu py c1 (DB _ Z))) (by kernel_rfl) (qy (congrArg (aa k (k' k qB pw qm ql qv qn qu py c1)) (funext fun r=>if_pos rfl)) h)
def aCR:Rw S:=aj Ln aAx fun kind vm sP sO sN sM sK sJ sQ Z=>aa k (fF k kind vm sP sO sN sM sK sJ sQ) (aHC vm sP sO sN sM sK sJ sQ Z)
def mQ:Fx S:=fx 15 (fun _=>[]) (fun _=>false) [(58,Ot k),(110,Pq k)] [] k f112 true [] 2
theorem aFr (ho:ai o):Tl o 112 (aCR k:Rw S):=qx (mQ k) ⟨HD k ho,abC k ho,trivial⟩ func112 fun kind vm sP sO sN sM sK sJ sQ Z x h=>qK h
def GC:Rw S:=aj Ls eT fun t qB pw qm ql qv qn qu py Z=>aa k (xS k t qB pw qm ql qv qn qu py) (qp pw qm ql qv qn qu py Z)
def VL:Fx S:=fx 63 (fun _=>[]) (fun _=>false) [(53,OP k),(54,OT k),(55,P1 k),(58,Ot k),(60,A4 k),(102,Gr k),(112,aCR k)] [] k f67 true [] 1
theorem Ki (ho:ai o):Tl o 67 (GC k:Rw S):=qx (VL k) ⟨aa1 k ho,aa5 k ho,sW k ho,HD k ho,B0 k ho,J_ k ho,aFr k ho,trivial⟩ func67 fun t qB pw qm ql qv qn qu py Z x h=>qK h
def GD:Rw S:=aj Ls eT fun t qB pw qm ql qv qn qu py Z=>aa k (c5 k t qB pw qm ql qv qn qu py) (qp pw qm ql qv qn qu py Z)
def VM:Fx S:=fx 128 (fun _=>[]) (fun _=>false) [(57,A3 k),(58,Ot k),(59,OV k),(97,Oy k),(99,hF k),(100,O4 k),(102,Gr k)] [(7,⟨[(0,pr),(3,pr),(4,pr),(5,pr),(6,pr),(9,pr),(10,qW 100010),(51,pr),(52,pr),(53,pr)],[(3,[pr,pr,pr,pr,pr,pr]),(4,[pr,pr,pr,qW 200259,qW 200260,qW 200261]),(5,[pr,pr,pr,pr,pr,pr]),(6,[pr,pr,pr,pr,pr,pr]),(9,[pr,pr,pr,pr,pr,qW 200581]),(1000000,[pr,pr,pr,pr,pr,pr,pr,pr])]⟩,ap 9 191)] k f68 true [] 1
def aBR (pw qm:Int) (ql:ByteArray) (qv:List Cl) (qn:List Tm) (qu py:List (Br Tm)) (t x1 x2:Tm) (r6:Int×Int×ByteArray×List Cl×List Tm) (j:Int) (h:List (Br Tm)) (v53:Int):St UU:=⟨[(0,(pt 1000000)),(3,(pt 3)),(4,(pt 4)),(5,(pt 5)),(6,(pt 6)),(9,(pt 9)),(10,(.own 100010 0)),(51,(sB py)),(52,(iI py.length)),(53,(iI v53))],[(3,bT t),(4,.cells [(iI 0),(iI 0),Di,(.own 200259 0),(.own 200260 0),(.own 200261 0)]),(5,bT x1),(6,bT x2),(9,.cells [(iI r6.1),(iI r6.2.1),(.str r6.2.2.1),(sC r6.2.2.2.1),(sT r6.2.2.2.2),(.own 200581 0)]),(1000000,.cells [(iI j),(iI pw),(iI qm),(.str ql),(sC qv),(sT qn),(sB qu),(sB py)])],[(200581,Al),(200261,Al),(200260,Db),(200259,Bx),(100010,⟨0,ET.B,h⟩)],[(200581,.wr),(200261,.wr),(200260,.wr),(200259,.wr),(100010,.wr)]⟩
section
variable (k:Nat) (t:Tm) (qB pw qm:Int) (ql:ByteArray) (qv:List Cl) (qn:List Tm) (qu py:List (Br Tm)) (Z:Out UU->Option S)
theorem aDU (x1 x2 r6): ∀n j h v53,(VM k).lp Z 7 [] n (aBR pw qm ql qv qn qu py t x1 x2 r6 j h v53)=jd k (qp pw qm ql qv qn qu py Z) pw qm ql qv qn qu py t x1 x2 r6 n j h v53:=p7 (ey k (qp pw qm ql qv qn qu py Z) pw qm ql qv qn qu py t x1 x2 r6)
end
theorem Kj (ho:ai o):Tl o 68 (GD k:Rw S):=qx (VM k) ⟨D_ k ho,HD k ho,IH k ho,SM k ho,pK k ho,abf k ho,J_ k ho,trivial⟩ func68 fun t qB pw qm ql qv qn qu py Z x h=>qy (b:=aAe k (qp pw qm ql qv qn qu py Z) (fun x1 x2 z q j v53=>(VM k).lp Z 7 [] k (aBR pw qm ql qv qn qu py t x1 x2 z q j v53)) t qB pw qm ql qv qn qu py) (by kernel_rfl) (qy (by simp only [aDU];rfl) (al h))
def GE:Rw S:=aj Ls fh fun t c0 Z=>aa k (p3 k t c0) (aCL Z)
def VN:Fx S:=fx 20 (fun _=>[]) (fun _=>false) [(138,OE k),(139,Gi k),(170,Gx k)] [] k f196 true [] 1
theorem Kk (ho:ai o):Tl o 196 (GE k:Rw S):=qx (VN k) ⟨SL k ho,JW k ho,Ke k ho,trivial⟩ func196 fun t c0 Z x h=>qK h
def Pr:Rw S:=aj azr xn fun t a Z=>aa k (Md k t a) (Iu Z)
def CQ:Fx S:=fp 47 [(30,PL (dJ k)),(136,OH k),(138,OE k),(139,Gi k),(143,OJ k),(170,Gx k),(196,GE k),(197,A9 k)] [] k f168 0
theorem abD (ho:ai o):Tl o 168 (Pr k:Rw S):=qx (CQ k) ⟨Mv o ho k,W0 k ho,SL k ho,JW k ho,Lo k ho,Ke k ho,Kk k ho,Ed k ho,trivial⟩ func168 fun t a Z x h=>qK h
def A_:Rw S:=aj kG fh fun t a c0 Z=>aa k (eu k t a c0) (AQ Z)
def VO:Fx S:=fp 18 [(83,P0 k),(84,LQ k),(168,Pr k)] [] k f115 1
theorem Ee (ho:ai o):Tl o 115 (A_ k:Rw S):=qx (VO k) ⟨MG k ho,Mw k ho,abD k ho,trivial⟩ func115 fun t a c0 Z x h=>qK h
def Ps:Rw S:=aj eo xn fun sV Z=>aa k (ay2 k sV) (aHD Z)
def VQ:Fx S:=fx 13 (fun _=>[]) (fun _=>false) [(138,OE k),(170,Gx k)] [] k f169 true [] 0
theorem abE (ho:ai o):Tl o 169 (Ps k:Rw S):=qx (VQ k) ⟨SL k ho,Ke k ho,trivial⟩ func169 fun sV Z x h=>qK h
def Pt:Rw S:=aj cn xn fun Z=>aa k (k4 k) (aE Z)
def VR:Fx S:=fx 37 (fun _=>[]) (fun _=>false) [(138,OE k),(169,Ps k),(170,Gx k)] [] k f116 true [] 0
theorem abF (ho:ai o):Tl o 116 (Pt k:Rw S):=qx (VR k) ⟨SL k ho,abE k ho,Ke k ho,trivial⟩ func116 fun Z x h=>qK h
def GF:Rw S:=aj azq aAx fun u vm sP sO sN sM sK sJ sQ Z=>aa k (azb k u vm sP sO sN sM sK sJ sQ) (aCO sP sO sN sM sK sJ sQ Z)
def jP:Fx S:=fp 30 [(57,A3 k),(58,Ot k),(101,Oq k),(115,A_ k),(116,Pt k)] [] k f114 2
theorem aFs (ho:ai o):Tl o 114 (GF k:Rw S):=qx (jP k) ⟨D_ k ho,HD k ho,sg k ho,Ee k ho,abF k ho,trivial⟩ func114 fun u vm sP sO sN sM sK sJ sQ Z x h=>qK h
def aHK:Rw S:=aj aBq dx fun qB pw qm ql qv qn qu py Z=>aa k (iv k qB pw qm ql qv qn qu py) (Sb pw qm ql qv qn qu py Z)
def Pv:Rw S:=aj aBq dx fun qB pw qm ql qv qn qu py Z=>aa k (iv k qB pw qm ql qv qn qu py) (aCP Z)
def CR:Fx S:=fp 31 [(59,OV k),(114,GF k)] [(3,⟨[(1,pr),(5,qW 100005),(11,pr),(12,pr),(13,pr)],[(1000000,[pr,pr,pr,pr,pr,pr,pr,pr]),(1000001,[pr])]⟩,ap 5 11)] k f110 2
def MX (pw qm:Int) (ql:ByteArray) (qv:List Cl) (qn:List Tm) (qu py:List (Br Tm)) (j q:Int) (h:List (Br Tm)):St UU:=⟨[(1,(.func 114 [] [(pt 1000001)])),(5,(.own 100005 0)),(11,(sB py)),(12,(iI py.length)),(13,(iI q))],[(1000000,.cells [(iI j),(iI pw),(iI qm),(.str ql),(sC qv),(sT qn),(sB qu),(sB py)]),(1000001,.cells [(pt 1000000)])],[(100005,⟨0,ET.B,h⟩)],[(100005,.wr)]⟩
section
variable (k:Nat) (qB pw qm:Int) (ql:ByteArray) (qv:List Cl) (qn:List Tm) (qu py:List (Br Tm)) (Z:Out UU->Option S)
theorem YA: ∀n j q h,(CR k).lp Z 3 [] n (MX pw qm ql qv qn qu py j q h)=zs k (Sb pw qm ql qv qn qu py Z) pw qm ql qv qn qu py n j q h:=p7 (hG k (Sb pw qm ql qv qn qu py Z) pw qm ql qv qn qu py)
end
theorem aFt (ho:ai o):Tl o 110 (aHK k:Rw S):=qx (CR k) ⟨IH k ho,aFs k ho,trivial⟩ func110 fun qB pw qm ql qv qn qu py Z x h=>qy (b:=aAg k (Sb pw qm ql qv qn qu py Z) (fun q z j=>(CR k).lp Z 3 [] k (MX pw qm ql qv qn qu py q z j)) qB pw qm ql qv qn qu py) (by kernel_rfl) (qy (by simp only [YA];rfl) (al h))
theorem abH (ho:ai o):Tl o 110 (Pv k:Rw S):=fe (n:=0) (m:=1) (aFt k ho) fun qB pw qm ql qv qn qu py Z x h=>qy (b:=aa k (iv k qB pw qm ql qv qn qu py) (Sb pw qm ql qv qn qu py (Uv 0 1 [.cells [(iI qB),(iI pw),(iI qm),(.str ql),(sC qv),(sT qn),(sB qu),(sB py)],.cells [(pt 0)]] Z))) (by kernel_rfl) (qy (congrArg (aa k (iv k qB pw qm ql qv qn qu py)) (funext fun r=>if_pos ⟨rfl,rfl⟩)) h)
def Pw:Rw S:=aj EX eT fun qB pw qm ql qv qn qu py Z=>aa k (W3 k qB pw qm ql qv qn qu py) (aHh pw qm ql qv qn qu py Z)
def CS:Fx S:=fx 12 (fun _=>[]) (fun _=>false) [(102,Gr k),(110,Pv k)] [] k f69 true [] 1
theorem abI (ho:ai o):Tl o 69 (Pw k:Rw S):=qx (CS k) ⟨J_ k ho,abH k ho,trivial⟩ func69 fun qB pw qm ql qv qn qu py Z x h=>qK h
def GG:Rw S:=aj azp aDx fun vi c1 c2 Z=>aa k (q0 k vi c1 c2) (aHi c1 Z)
def gW:Fx S:=fp 22 [(57,A3 k),(58,Ot k),(59,OV k),(120,Gt k)] [] k f119 3
theorem aFu (ho:ai o):Tl o 119 (GG k:Rw S):=qx (gW k) ⟨D_ k ho,HD k ho,IH k ho,Ka k ho,trivial⟩ func119 fun vi c1 c2 Z x h=>qK h
def Px:Rw S:=aj aGr aDx fun l c1 c2 Z=>aa k (aAQ k l c1 c2) (tV c1 Z)
def VT:Fx S:=fx 22 (fun _=>[]) (fun _=>false) [(119,GG k)] [(3,⟨[(1,pr),(5,qW 100005),(8,pr),(9,pr),(10,pr)],[(1000000,[pr]),(1000001,[pr]),(1000002,[pr])]⟩,ap 5 11)] k f118 false [true] 3
def aBT (c1 l:List (Br Tm)) (j qT:Int) (h:List (Br Tm)):St UU:=⟨[(1,(.func 119 [] [(pt 1000000),(pt 1000001)])),(5,(.own 100005 0)),(8,(sB l)),(9,(iI l.length)),(10,(iI qT))],[(1000000,.cells [(pt 1000002)]),(1000001,.cells [(sB c1)]),(1000002,bI j)],[(100005,⟨0,ET.B,h⟩)],[(100005,.wr)]⟩
section
variable (k:Nat) (l c1:List (Br Tm)) (c2:Int) (Z:Out UU->Option S)
theorem aDX: ∀n j qT h,(VT k).lp Z 3 [] n (aBT c1 l j qT h)=qt k (tV c1 Z) c1 l n j qT h:=p7 (w2 k (tV c1 Z) c1 l)
end
theorem abJ (ho:ai o):Tl o 118 (Px k:Rw S):=qx (VT k) ⟨aFu k ho,trivial⟩ func118 fun l c1 c2 Z x h=>qy (b:=aDn k (tV c1 Z) (fun q qT j=>(VT k).lp Z 3 [] k (aBT c1 l q qT j)) l c1 c2) (by kernel_rfl) (qy (by simp only [aDX];rfl) (al h))
def Py:Rw S:=aj aGs aAy fun vi c1 c2 c3 Z=>aa k (gk k vi c1 c2 c3) (aHj c1 c2 Z)
def CT:Fx S:=fp 30 [(53,OP k),(57,A3 k),(58,Ot k),(59,OV k),(109,sR k)] [] k f121 4
theorem abK (ho:ai o):Tl o 121 (Py k:Rw S):=qx (CT k) ⟨aa1 k ho,D_ k ho,HD k ho,IH k ho,Dd k ho,trivial⟩ func121 fun vi c1 c2 c3 Z x h=>qK h
def Pz:Rw S:=aj aBr aAy fun l c1 c2 c3 Z=>aa k (ks k l c1 c2 c3) (q6 c1 c2 Z)
def VU:Fx S:=fx 22 (fun _=>[]) (fun _=>false) [(121,Py k)] [(3,⟨[(1,pr),(5,qW 100005),(8,pr),(9,pr),(10,pr)],[(1000000,[pr]),(1000001,[pr,pr,pr,pr,pr,pr]),(1000002,[pr,pr,pr,pr,pr,pr]),(1000003,[pr])]⟩,ap 5 11)] k f118 false [true] 4
def aBU (c1 c2:Tm) (l:List (Br Tm)) (j qT:Int) (h:List (Br Tm)):St UU:=⟨[(1,(.func 121 [] [(pt 1000000),(pt 1000001),(pt 1000002)])),(5,(.own 100005 0)),(8,(sB l)),(9,(iI l.length)),(10,(iI qT))],[(1000000,.cells [(pt 1000003)]),(1000001,bT c1),(1000002,bT c2),(1000003,bI j)],[(100005,⟨0,ET.B,h⟩)],[(100005,.wr)]⟩
section
variable (k:Nat) (l:List (Br Tm)) (c1 c2:Tm) (c3:Int) (Z:Out UU->Option S)
theorem aDY: ∀n j qT h,(VU k).lp Z 3 [] n (aBU c1 c2 l j qT h)=iu k (q6 c1 c2 Z) c1 c2 l n j qT h:=p7 (x8 k (q6 c1 c2 Z) c1 c2 l)
end
theorem abL (ho:ai o):Tl o 118 (Pz k:Rw S):=qx (VU k) ⟨abK k ho,trivial⟩ func118 fun l c1 c2 c3 Z x h=>qy (b:=aDm k (q6 c1 c2 Z) (fun q qT j=>(VU k).lp Z 3 [] k (aBU c1 c2 l q qT j)) l c1 c2 c3) (by kernel_rfl) (qy (by simp only [aDY];rfl) (al h))
def PA:Rw S:=aj azp hr fun vi c0 c1 Z=>aa k (ay6 k vi c0 c1) (aHk c0 c1 Z)
def mR:Fx S:=fp 18 [(59,OV k),(102,Gr k)] [] k f122 2
theorem abM (ho:ai o):Tl o 122 (PA k:Rw S):=qx (mR k) ⟨IH k ho,J_ k ho,trivial⟩ func122 fun vi c0 c1 Z x h=>qK h
def PB:Rw S:=aj aBs hr fun l c0 c1 Z=>aa k (sU k l c0 c1) (o' c0 c1 Z)
def a6:Fx S:=fx 22 (fun _=>[]) (fun _=>false) [(122,PA k)] [(3,⟨[(1,pr),(5,qW 100005),(8,pr),(9,pr),(10,pr)],[(1000000,[pr,pr,pr,pr,pr,pr]),(1000001,[pr,pr,pr,pr,pr,pr])]⟩,ap 5 11)] k f118 false [true] 2
def aBV (c0 c1:Tm) (l:List (Br Tm)) (qT:Int) (h:List (Br Tm)):St UU:=⟨[(1,(.func 122 [] [(pt 1000000),(pt 1000001)])),(5,(.own 100005 0)),(8,(sB l)),(9,(iI l.length)),(10,(iI qT))],[(1000000,bT c0),(1000001,bT c1)],[(100005,⟨0,ET.B,h⟩)],[(100005,.wr)]⟩
section
variable (k:Nat) (l:List (Br Tm)) (c0 c1:Tm) (Z:Out UU->Option S)
theorem aDZ: ∀n qT h,(a6 k).lp Z 3 [] n (aBV c0 c1 l qT h)=vx k (o' c0 c1 Z) c0 c1 l n qT h:=aL (W2 k (o' c0 c1 Z) c0 c1 l)
end
theorem abN (ho:ai o):Tl o 118 (PB k:Rw S):=qx (a6 k) ⟨abM k ho,trivial⟩ func118 fun l c0 c1 Z x h=>qy (b:=aAb k (o' c0 c1 Z) (fun qT j=>(a6 k).lp Z 3 [] k (aBV c0 c1 l qT j)) l c0 c1) (by kernel_rfl) (qy (by simp only [aDZ];rfl) (al h))
def PC:Rw S:=aj FE xn fun t Z=>aa k (Mc k t) (AX Z)
def VX:Fx S:=fp 79 [(23,PK k),(30,PL (dJ k)),(52,Gg k),(102,Gr k),(117,anC k),(118,ol (uy aBs hr) (PB k) (ol (uy aBr aAy) (Pz k) (Px k))),(120,Gt k)] [] k f70 0
theorem abO (ho:ai o):Tl o 70 (PC k:Rw S):=qx (VX k) ⟨Jx k ho,Mv o ho k,TX k ho,J_ k ho,uo k ho,vw (abN k ho) (vw (abL k ho) (abJ k ho)),Ka k ho,trivial⟩ func70 fun t Z x h=>qK h
def PD:Rw S:=aj FE xn fun t Z=>aa k (cG k t) (AX Z)
def VY:Fx S:=fp 89 [(23,PK k),(30,PL (dJ k)),(52,Gg k),(66,Pn k),(67,GC k),(68,GD k),(69,Pw k),(70,PC k)] [] k f36 0
theorem abP (ho:ai o):Tl o 36 (PD k:Rw S):=qx (VY k) ⟨Jx k ho,Mv o ho k,TX k ho,abz k ho,Ki k ho,Kj k ho,abI k ho,abO k ho,trivial⟩ func36 fun t Z x h=>qK h
def aoz:Rw S:=aj adZ xn fun defs t Z=>aa k (a_ k defs t) (AX Z)
def ir:Fx S:=fp 79 [(23,PK k),(33,vE k),(34,A5 k),(35,Pk k),(36,PD k),(37,OD k)] [(7,⟨[(0,pr),(3,pr),(4,pr),(8,pr),(9,pr),(10,pr),(20,pr)],[(3,[pr,pr,pr,pr,pr,pr]),(4,[pr,pr,pr,qW 200259,qW 200260,qW 200261]),(8,[pr,pr,pr,pr,pr,pr])]⟩,ap 9 189),(1000022,⟨[(0,pr),(3,pr),(4,pr)],[(3,[pr,pr,pr,pr,pr,pr]),(4,[pr,pr,pr,qW 200259,qW 200260,qW 200261])]⟩,ap 8 253)] k f16 0
def q1 (t:Tm) (defs:List Df) (q x:Int) (z:ByteArray) (A:List Cl) (B:List Tm) (j:List (Br Tm)) (qT xU:Int) (h:Bool):St UU:=⟨[(0,(Mg defs .none)),(3,(pt 3)),(4,(pt 4)),(8,(pt 8)),(9,(.bool h)),(10,(iI qT)),(20,(iI xU))],[(3,bT t),(4,.cells [(iI 0),(iI 0),Di,(.own 200259 0),(.own 200260 0),(.own 200261 0)]),(8,.cells [(iI q),(iI x),(.str z),(sC A),(sT B),(sB j)])],[(200261,Al),(200260,Db),(200259,Bx)],[(200261,.wr),(200260,.wr),(200259,.wr)]⟩
def aob (t:Tm) (defs:List Df):St UU:=⟨[(0,(Mg defs .none)),(3,(pt 3)),(4,(pt 4))],[(3,bT t),(4,.cells [(iI 0),(iI 0),Di,(.own 200259 0),(.own 200260 0),(.own 200261 0)])],[(200261,Al),(200260,Db),(200259,Bx)],[(200261,.wr),(200260,.wr),(200259,.wr)]⟩
section
variable (k:Nat) (defs:List Df) (t:Tm) (Z:Out UU->Option S)
theorem aD1: ∀n,(ir k).jn Z 1000022 [] n (aob t defs)=bK k (AX Z) t defs n:=gL (co k (AX Z) t defs)
theorem qA: ∀n q x z A B j qT xU h,(ir k).lp Z 7 [] n (q1 t defs q x z A B j qT xU h)=bH k (AX Z) t defs n q x z A B j qT xU h:=lp9 (fun own=>Tn k (AX Z) t defs (bK k (AX Z) t defs k) own) rfl (fun _=>rfl) fun r q x z A B j qT xU h=>qy (b:=Tn k (AX Z) t defs ((ir k).jn Z 1000022 [] k (aob t defs)) (fun q x z A B j qT xU h=>r (q1 t defs q x z A B j qT xU h)) q x z A B j qT xU h) (by kernel_rfl) (by simp only [aD1])
end
theorem aFv (ho:ai o):Tl o 16 (aoz k:Rw S):=qx (ir k) ⟨Jx k ho,aFg k ho,aFj k ho,abw k ho,abP k ho,aaP k ho,trivial⟩ func16 fun defs t Z x h=>qy (b:=bc k (AX Z) (fun z A B E F q qT xU j=>(ir k).lp Z 7 [] k (q1 t defs z A B E F q qT xU j)) defs t) (by kernel_rfl) (qy (by simp only [qA];rfl) (al h))
def aoK:Rw S:=aj Ls rO fun t qB pw Z=>aa k (hE k t qB pw) (Sy qB Z)
def qz:Fx S:=fp 51 [(16,aoz k)] [(1000004,⟨[(0,pr),(3,pr),(4,pr),(6,pr),(7,pr),(8,pr)],[(3,[pr,pr,pr,pr,pr,pr]),(4,[pr,pr,pr,qW 200259,qW 200260,qW 200261]),(6,[pr,pr,pr,pr,pr,pr]),(1000000,[pr,pr])]⟩,ap 3 7),(1000006,⟨[(0,pr),(4,pr),(6,pr)],[(4,[pr,pr,pr,qW 200259,qW 200260,qW 200261]),(6,[pr,pr,pr,pr,pr,pr]),(1000000,[pr,pr])]⟩,ap 4 15)] k f47 1
def aBX (qB:List Df) (pw:Int) (t:Tm) (r1:Tm×Bool×Int):St UU:=⟨[(0,(pt 1000000)),(3,(pt 3)),(4,(pt 4)),(6,(pt 6)),(7,(.bool r1.2.1)),(8,(iI r1.2.2))],[(3,bT t),(4,.cells [(iI 0),(iI 0),Di,(.own 200259 0),(.own 200260 0),(.own 200261 0)]),(6,bT r1.1),(1000000,.cells [(Mg qB .none),(iI pw)])],[(200261,Al),(200260,Db),(200259,Bx)],[(200261,.wr),(200260,.wr),(200259,.wr)]⟩
def aBY (qB:List Df) (pw:Int) (r1:Tm×Bool×Int):St UU:=⟨[(0,(pt 1000000)),(4,(pt 4)),(6,(pt 6))],[(4,.cells [(iI 0),(iI 0),Di,(.own 200259 0),(.own 200260 0),(.own 200261 0)]),(6,bT r1.1),(1000000,.cells [(Mg qB .none),(iI pw)])],[(200261,Al),(200260,Db),(200259,Bx)],[(200261,.wr),(200260,.wr),(200259,.wr)]⟩
section
variable (k:Nat) (t:Tm) (qB:List Df) (pw:Int) (Z:Out UU->Option S)
theorem aD3 (r1): ∀n,(qz k).jn Z 1000006 [] n (aBY qB pw r1)=c' k (Sy qB Z) qB pw r1 n:=gL (fT k (Sy qB Z) qB pw r1)
theorem aD2 (r1): ∀n,(qz k).jn Z 1000004 [] n (aBX qB pw t r1)=azv k (Sy qB Z) qB pw t r1 n:=gL (eU k (Sy qB Z) qB pw t r1 (c' k (Sy qB Z) qB pw r1 k)) rfl (fun _=>rfl) (qy (b:=eU k (Sy qB Z) qB pw t r1 ((qz k).jn Z 1000006 [] k (aBY qB pw r1))) (by kernel_rfl) (by simp only [aD3]))
end
theorem apj (ho:ai o):Tl o 47 (aoK k:Rw S):=qx (qz k) ⟨aFv k ho,trivial⟩ func47 fun t qB pw Z x h=>qy (b:=aAi k (Sy qB Z) (fun r1=>(qz k).jn Z 1000004 [] k (aBX qB pw t r1)) t qB pw) (by kernel_rfl) (qy (by simp only [aD2];rfl) (al h))
def aoj:Rw S:=aj FE xn fun t Z=>aa k (aU k t) (da Z)
def hq:Fx S:=fp 26 [(38,Oe k)] [(1000015,aS [1,3] [(1,6)],ap 3 7)] k f17 0
def oF (t:Tm) (v3:Int):St UU:=⟨[(1,(pt 1)),(3,(iI v3))],[(1,bT t)],[],[]⟩
section
variable (k:Nat) (t:Tm) (Z:Out UU->Option S)
theorem qD: ∀n v3,(hq k).jn Z 1000015 [] n (oF t v3)=aV k (da Z) t n v3:=nx (bo k (da Z) t)
end
theorem apk (ho:ai o):Tl o 17 (aoj k:Rw S):=qx (hq k) ⟨aat k ho,trivial⟩ func17 fun t Z x h=>qy (b:=o7 k (da Z) (fun v3=>(hq k).jn Z 1000015 [] k (oF t v3)) t) (by kernel_rfl) (qy (by simp only [qD];rfl) (al h))
def qg (hd:EO S):Rw S:=aj azr xn fun a b Z=>hd a b (F9 Z)
def r6 (hd:EO S) (k:Nat):Rw S:=aj aGt xn fun s1 s2 Z=>aa k (n1 hd k s1 s2) (F9 Z)
def eb (hd:EO S) (k:Nat):Fx S:=fp 32 [(76,qg hd)] [(4,aS [1,2,15,16,17] [],ap 5 11)] k f132 0
def aBZ (s2 s1:List Tm) (qG:Int):St UU:=⟨[(1,(sT s2)),(2,(.func 76 [] [])),(15,(sT s1)),(16,(iI s1.length)),(17,(iI qG))],[],[],[]⟩
section
variable (hd:EO S) (k:Nat) (s1 s2:List Tm) (Z:Out UU->Option S)
theorem aD4: ∀n qG,(eb hd k).lp Z 4 [] n (aBZ s2 s1 qG)=mf hd k (F9 Z) s2 s1 n qG:=cF (D2 hd k (F9 Z) s2 s1)
end
theorem eZ (o:Obj) (ho:ai o) (hd:EO S) (Hd:Tl o 76 (qg hd)) (k:Nat):Tl o 132 (r6 hd k:Rw S):=qx (eb hd k) ⟨Hd,trivial⟩ func132 fun s1 s2 Z x h=>qy (b:=aAm hd k (F9 Z) (fun qG=>(eb hd k).lp Z 4 [] k (aBZ s2 s1 qG)) s1 s2) (by kernel_rfl) (qy (by simp only [aD4];rfl) (al h))
def aCS (hd:EO S) (k:Nat):Rw S:=aj aGu xn fun vi y Z=>aa k (xU hd k vi y) (F9 Z)
def aDB (hd:EO S) (k:Nat):Fx S:=fp 17 [(131,Pu k),(132,r6 hd k)] [] k f134 0
theorem aFw (o:Obj) (ho:ai o) (hd:EO S) (Hd:Tl o 76 (qg hd)) (k:Nat):Tl o 134 (aCS hd k:Rw S):=qx (aDB hd k) ⟨abG k ho,eZ o ho hd Hd k,trivial⟩ func134 fun vi y Z x h=>qK h
def aCT (hd:EO S) (k:Nat):Rw S:=aj aGv xn fun s1 s2 Z=>aa k (cu hd k s1 s2) (F9 Z)
def ef (hd:EO S) (k:Nat):Fx S:=fp 32 [(134,aCS hd k)] [(4,aS [1,2,15,16,17] [],ap 5 11)] k f133 0
def aB0 (s2 s1:List (Br Tm)) (qG:Int):St UU:=⟨[(1,(sB s2)),(2,(.func 134 [] [])),(15,(sB s1)),(16,(iI s1.length)),(17,(iI qG))],[],[],[]⟩
section
variable (hd:EO S) (k:Nat) (s1 s2:List (Br Tm)) (Z:Out UU->Option S)
theorem aD5: ∀n qG,(ef hd k).lp Z 4 [] n (aB0 s2 s1 qG)=ky hd k (F9 Z) s2 s1 n qG:=cF (b4 hd k (F9 Z) s2 s1)
end
theorem aFx (o:Obj) (ho:ai o) (hd:EO S) (Hd:Tl o 76 (qg hd)) (k:Nat):Tl o 133 (aCT hd k:Rw S):=qx (ef hd k) ⟨aFw o ho hd Hd k,trivial⟩ func133 fun s1 s2 Z x h=>qy (b:=aAl hd k (F9 Z) (fun qG=>(ef hd k).lp Z 4 [] k (aB0 s2 s1 qG)) s1 s2) (by kernel_rfl) (qy (by simp only [aD5];rfl) (al h))
def aDA (hd:EO S) (k:Nat):Fx S:=fp 45 [(131,Pu k),(132,r6 hd k),(133,aCT hd k)] [] k f76 0
theorem azj (o:Obj) (ho:ai o): ∀k:Nat,Tl o 76 (qg (My k:EO S))
 |0=>dz fun a b Z x h=>by cases h
 |k+1=>qx (aDA (My k) k) ⟨abG k ho,eZ o ho (My k) (azj o ho k) k,aFx o ho (My k) (azj o ho k) k,trivial⟩ func76 fun a b Z x h=>qy (by kernel_rfl) h
def dn (hd:Nc S):Rw S:=aj Ls rO fun t qB pw Z=>hd t qB pw (sa qB Z)
def aCU (hd:Nc S) (k:Nat):Rw S:=aj adK rO fun t Ko qB pw Z=>aa k (SE hd k t Ko qB pw) (Sy qB Z)
def aKo (hd:Nc S) (k:Nat):Fx S:=fp 36 [(29,dn hd),(76,qg (My k))] [] k f48 1
theorem aFy (o:Obj) (ho:ai o) (hd:Nc S) (Hd:Tl o 29 (dn hd)) (k:Nat):Tl o 48 (aCU hd k:Rw S):=qx (aKo hd k) ⟨Hd,azj o ho k,trivial⟩ func48 fun t Ko qB pw Z x h=>qK h
def bk (hd:Nc S) (k:Nat):Fx S:=fp 53 [(17,aoj k),(47,aoK k),(48,aCU hd k)] [(1,⟨[(0,pr),(3,pr),(4,pr)],[(3,[pr,pr,pr,pr,pr,pr]),(4,[pr,pr,pr,qW 200259,qW 200260,qW 200261]),(1000000,[pr,pr])]⟩,ap 2 1)] k f29 1
def aB1 (qB:List Df) (h:Int) (j:Tm):St UU:=⟨[(0,(pt 1000000)),(3,(pt 3)),(4,(pt 4))],[(3,bT j),(4,.cells [(iI 0),(iI 0),Di,(.own 200259 0),(.own 200260 0),(.own 200261 0)]),(1000000,.cells [(Mg qB .none),(iI h)])],[(200261,Al),(200260,Db),(200259,Bx)],[(200261,.wr),(200260,.wr),(200259,.wr)]⟩
section
variable (hd:Nc S) (k:Nat) (t:Tm) (qB:List Df) (pw:Int) (Z:Out UU->Option S)
theorem aRz: ∀n h j,(bk hd k).lp Z 1 [] n (aB1 qB h j)=Sc hd k (sa qB Z) qB n h j:=aL (ayZ hd k (sa qB Z) qB)
end
theorem aBe (o:Obj) (ho:ai o): ∀k:Nat,Tl o 29 (dn (FG k:Nc S))
 |0=>dz fun t qB pw Z x h=>by cases h
 |k+1=>qx (bk (FG k) k) ⟨apk k ho,apj k ho,aFy o ho (FG k) (aBe o ho k) k,trivial⟩ func29 fun t qB pw Z x h=>qy (b:=iB (FG k) k (sa qB Z) (fun j q=>(bk (FG k) k).lp Z 1 [] k (aB1 qB j q)) t qB pw) (by kernel_rfl) (qy (by simp only [aRz];rfl) h)
def t':Rw S:=aj aGw xn fun defs t fuel Z=>aa k (TU k defs t fuel) (aHl Z)
def ei:Fx S:=⟨⟨38,(fun _=>[]),(fun _=>false),pr,fun|6=>true|7=>true|8=>true|_=>false⟩,[(23,PK k),(29,dn (FG k)),(30,PL (dJ k))],[],k,f13,false,[],0,some (Tw 17 28 f28 k)⟩
theorem aAU (ho:ai o):Tl o 13 (t' k:Rw S):=BZ (ei k) rfl (yn o func28 (by kernel_rfl)) ⟨Jx k ho,aBe o ho k,Mv o ho k,trivial⟩ func13 (by kernel_rfl) fun defs t fuel Z x h=>qK h
def bg:Rw S:=aj cn xn fun Z=>aa k (j' k) (F9 Z)
def ej:Fx S:=fp 49 [(13,t' k),(25,F_ k)] [] k f9 0
theorem aFz (ho:ai o):Tl o 9 (bg k:Rw S):=qx (ej k) ⟨aAU k ho,eX0 k ho,trivial⟩ func9 fun Z x h=>qK h
def dA (hd:gY S):Rw S:=aj Ag xn fun t p6 Z=>hd t p6 (da Z)
def TR (hd:gY S) (k:Nat):Fx S:=fp 119 [(26,dA hd)] [(5,aS [1,2,5,6] [(2,6)],ap 6 23),(9,aS [1,2,5,7] [(2,6)],ap 7 47),(15,aS [1,2,5,7,8] [(2,6)],ap 15 14639)] k f26 0
def ax (t:Tm) (p6:Int) (v5 i6:Int):St UU:=⟨[(1,(iI p6)),(2,(pt 2)),(5,(iI v5)),(6,(iI i6))],[(2,bT t)],[],[]⟩
def eL (t:Tm) (p6:Int) (h i7:Int):St UU:=⟨[(1,(iI p6)),(2,(pt 2)),(5,(iI h)),(7,(iI i7))],[(2,bT t)],[],[]⟩
def aB2 (t:Tm) (p6 i7:Int) (h j:Int):St UU:=⟨[(1,(iI p6)),(2,(pt 2)),(5,(iI h)),(7,(iI i7)),(8,(iI j))],[(2,bT t)],[],[]⟩
section
variable (hd:gY S) (k:Nat) (t:Tm) (p6:Int) (Z:Out UU->Option S)
theorem aD8 (i7 Z1): ∀n h q,(TR hd k).lp Z 15 [Z1] n (aB2 t p6 i7 h q)=kA hd k (da Z) (fun j i7=>Z1 (eL t p6 j i7)) t p6 i7 n h q:=aL (xL hd k (da Z) t p6 i7 (fun j i7=>Z1 (eL t p6 j i7)))
theorem aD7: ∀n h i7,(TR hd k).lp Z 9 [] n (eL t p6 h i7)=jl hd k (da Z) t p6 n h i7:=aL (fun own=>sS hd k (da Z) t p6 (fun i7 j q=>kA hd k (da Z) own t p6 i7 k j q) own) rfl (fun _=>rfl) fun r h i7=>qy (b:=sS hd k (da Z) t p6 (fun i7 j q=>(TR hd k).lp Z 15 [r] k (aB2 t p6 i7 j q)) (fun h i7=>r (eL t p6 h i7)) h i7) (by kernel_rfl) (by simp only [aD8])
theorem aD6: ∀n v5 i6,(TR hd k).lp Z 5 [] n (ax t p6 v5 i6)=nQ hd k (da Z) t p6 n v5 i6:=aL (fun own=>p' hd k (da Z) t p6 (fun h i7=>jl hd k (da Z) t p6 k h i7) own) rfl (fun _=>rfl) fun r v5 i6=>qy (b:=p' hd k (da Z) t p6 (fun h i7=>(TR hd k).lp Z 9 [] k (eL t p6 h i7)) (fun v5 i6=>r (ax t p6 v5 i6)) v5 i6) (by kernel_rfl) (by simp only [aD7])
end
theorem azk (o:Obj) (ho:ai o): ∀k:Nat,Tl o 26 (dA (gE k:gY S))
 |0=>dz fun t p6 Z x h=>by cases h
 |k+1=>qx (TR (gE k) k) ⟨azk o ho k,trivial⟩ func26 fun t p6 Z x h=>qy (b:=Io (gE k) k (da Z) (fun v5 i6=>(TR (gE k) k).lp Z 5 [] k (ax t p6 v5 i6)) t p6) (by kernel_rfl) (qy (by simp only [aD6];rfl) h)
def dB:Rw S:=aj FE xn fun t Z=>aa k (hS k t) (F9 Z)
def er:Fx S:=fp 6 [(26,dA (gE k))] [] k f10 0
theorem aFA (ho:ai o):Tl o 10 (dB k:Rw S):=qx (er k) ⟨azk o ho k,trivial⟩ func10 fun t Z x h=>qK h
def aCV:Rw S:=aj FE xn fun t Z=>aa k (q' k t) (F9 Z)
def aRw:Fx S:=fp 6 [(26,dA (gE k))] [] k f27 0
theorem aFB (ho:ai o):Tl o 27 (aCV k:Rw S):=qx (aRw k) ⟨azk o ho k,trivial⟩ func27 fun t Z x h=>qK h
def aCW:Rw S:=aj h0 xn fun l Z=>aa k (k2 k l) (F9 Z)
def ew:Fx S:=fp 24 [(27,aCV k)] [(4,aS [8,9,10] [],ap 5 11)] k f11 0
def aB3 (l:List Df) (qT:Int):St UU:=⟨[(8,(RL l .none)),(9,(iI l.length)),(10,(iI qT))],[],[],[]⟩
section
variable (k:Nat) (l:List Df) (Z:Out UU->Option S)
theorem aD9: ∀n qT,(ew k).lp Z 4 [] n (aB3 l qT)=TJ k (F9 Z) l n qT:=cF (w3 k (F9 Z) l)
end
theorem aFC (ho:ai o):Tl o 11 (aCW k:Rw S):=qx (ew k) ⟨aFB k ho,trivial⟩ func11 fun l Z x h=>qy (b:=aAk k (F9 Z) (fun qT=>(ew k).lp Z 4 [] k (aB3 l qT)) l) (by kernel_rfl) (qy (by simp only [aD9];rfl) (al h))
def aCX:Rw S:=aj h0 xn fun l Z=>aa k (p1 k l) (hR Z)
def ez:Fx S:=fp 18 [] [(3,⟨[(3,qW 100003),(6,pr),(7,pr),(8,pr)],[]⟩,ap 5 11)] k f12 0
def aB4 (l:List Df) (h:List Df) (j:Int):St UU:=⟨[(3,(.own 100003 0)),(6,(RL l .none)),(7,(iI l.length)),(8,(iI j))],[],[(100003,⟨0,ET.D,h⟩)],[(100003,.wr)]⟩
section
variable (k:Nat) (l:List Df) (Z:Out UU->Option S)
theorem aD_: ∀n h j,(ez k).lp Z 3 [] n (aB4 l h j)=gv k (hR Z) l n h j:=aL (v' k (hR Z) l)
end
theorem fI (ho:ai o):Tl o 12 (aCX k:Rw S):=qx (ez k) trivial func12 fun l Z x h=>qy (b:=aAj k (hR Z) (fun j q=>(ez k).lp Z 3 [] k (aB4 l j q)) l) (by kernel_rfl) (qy (by simp only [aD_];rfl) (al h))
def aCZ:Rw S:=aj jk xn fun a b Z=>aa k (jY k a b) (F9 Z)
def bm:Fx S:=fp 26 [] [(4,aS [0,1,5] [],ap 5 11)] k f31 0
def aB5 (a b:List Cl) (i5:Int):St UU:=⟨[(0,(sC a)),(1,(sC b)),(5,(iI i5))],[],[],[]⟩
section
variable (k:Nat) (a b:List Cl) (Z:Out UU->Option S)
theorem eV: ∀n i5,(bm k).lp Z 4 [] n (aB5 a b i5)=G1 k (F9 Z) a b n i5:=cF (oT k (F9 Z) a b)
end
theorem fY (ho:ai o):Tl o 31 (aCZ k:Rw S):=qx (bm k) trivial func31 fun a b Z x h=>qy (b:=BV k (F9 Z) (fun i5=>(bm k).lp Z 4 [] k (aB5 a b i5)) a b) (by kernel_rfl) (qy (by simp only [eV];rfl) (al h))
def De (hd:eN S):Rw S:=aj azr xn fun a b Z=>hd a b (F9 Z)
def aC0 (hd:eN S) (k:Nat):Rw S:=aj aGx xn fun a b Z=>aa k (tX hd k a b) (F9 Z)
def ayW (hd:eN S) (k:Nat):Fx S:=fp 27 [(15,De hd)] [(4,aS [0,1,5] [],ap 5 11)] k f32 0
def aB7 (a b:List Tm) (i5:Int):St UU:=⟨[(0,(sT a)),(1,(sT b)),(5,(iI i5))],[],[],[]⟩
section
variable (hd:eN S) (k:Nat) (a b:List Tm) (Z:Out UU->Option S)
theorem aEb: ∀n i5,(ayW hd k).lp Z 4 [] n (aB7 a b i5)=qH hd k (F9 Z) a b n i5:=cF (xQ hd k (F9 Z) a b)
end
theorem aFE (o:Obj) (ho:ai o) (hd:eN S) (Hd:Tl o 15 (De hd)) (k:Nat):Tl o 32 (aC0 hd k:Rw S):=qx (ayW hd k) ⟨Hd,trivial⟩ func32 fun a b Z x h=>qy (b:=It hd k (F9 Z) (fun i5=>(ayW hd k).lp Z 4 [] k (aB7 a b i5)) a b) (by kernel_rfl) (qy (by simp only [aEb];rfl) (al h))
def eD (hd:eN S) (k:Nat):Fx S:=fp 87 [(31,aCZ k),(32,aC0 hd k)] [(4,aS [2,3,5] [(2,6),(3,6)],ap 5 11)] k f15 0
def aB6 (a b:Tm) (i5:Int):St UU:=⟨[(2,(pt 2)),(3,(pt 3)),(5,(iI i5))],[(2,bT a),(3,bT b)],[],[]⟩
section
variable (hd:eN S) (k:Nat) (a b:Tm) (Z:Out UU->Option S)
theorem aEa: ∀n i5,(eD hd k).lp Z 4 [] n (aB6 a b i5)=gn hd k (F9 Z) a b n i5:=cF (xO hd k (F9 Z) a b)
end
theorem aBf (o:Obj) (ho:ai o): ∀k:Nat,Tl o 15 (De (d8 k:eN S))
 |0=>dz fun a b Z x h=>by cases h
 |k+1=>qx (eD (d8 k) k) ⟨fY k ho,aFE o ho (d8 k) (aBf o ho k) k,trivial⟩ func15 fun a b Z x h=>qy (b:=Ir (d8 k) k (F9 Z) (fun i5=>(eD (d8 k) k).lp Z 4 [] k (aB6 a b i5)) a b) (by kernel_rfl) (qy (by simp only [aEa];rfl) h)
def dZ (hd:RE S):Rw S:=aj FE xn fun t Z=>hd t (da Z)
def eI (hd:RE S) (k:Nat):Fx S:=fp 56 [(18,dZ hd),(39,Od k)] [(3,aS [1,3,13,14,15] [(1,6)],ap 5 11),(9,aS [3,35,36,37] [],ap 6 23),(12,aS [3,35,36,37,42,43,44] [],ap 14 6551)] k f18 0
def bn (t:Tm) (j h:Int):St UU:=⟨[(1,(pt 1)),(3,(iI h)),(13,(sT t.c)),(14,(iI t.c.length)),(15,(iI j))],[(1,bT t)],[],[]⟩
def l3 (t:Tm) (h xS:Int):St UU:=⟨[(3,(iI h)),(35,(sB t.s)),(36,(iI t.s.length)),(37,(iI xS))],[],[],[]⟩
def aQ8 (t:Tm) (xS:Int) (x4:(Br Tm)) (h KK:Int):St UU:=⟨[(3,(iI h)),(35,(sB t.s)),(36,(iI t.s.length)),(37,(iI xS)),(42,(sT x4.c)),(43,(iI x4.c.length)),(44,(iI KK))],[],[],[]⟩
section
variable (hd:RE S) (k:Nat) (t:Tm) (Z:Out UU->Option S)
theorem aRC (xS x4 Z1): ∀n j KK,(eI hd k).lp Z 12 [Z1] n (aQ8 t xS x4 j KK)=W8 hd k (da Z) (fun h xS=>Z1 (l3 t h xS)) t xS x4 n j KK:=aL (P' hd k (da Z) t xS x4 (fun h xS=>Z1 (l3 t h xS)))
theorem aRB: ∀n h xS,(eI hd k).lp Z 9 [] n (l3 t h xS)=SQ hd k (da Z) t n h xS:=aL (fun own=>gx hd k (da Z) t (fun xS x4 j KK=>W8 hd k (da Z) own t xS x4 k j KK) own) rfl (fun _=>rfl) fun r h xS=>qy (b:=gx hd k (da Z) t (fun xS x4 j KK=>(eI hd k).lp Z 12 [r] k (aQ8 t xS x4 j KK)) (fun h xS=>r (l3 t h xS)) h xS) (by kernel_rfl) (by simp only [aRC])
theorem aRA: ∀n q h,(eI hd k).lp Z 3 [] n (bn t q h)=e8 hd k (da Z) t n q h:=aL (fun own=>s6 hd k (da Z) t (fun j xS=>SQ hd k (da Z) t k j xS) own) rfl (fun _=>rfl) fun r q h=>qy (b:=s6 hd k (da Z) t (fun j xS=>(eI hd k).lp Z 9 [] k (l3 t j xS)) (fun q h=>r (bn t q h)) q h) (by kernel_rfl) (by simp only [aRB])
end
theorem aQx (o:Obj) (ho:ai o): ∀k:Nat,Tl o 18 (dZ (L8 k:RE S))
 |0=>dz fun t Z x h=>by cases h
 |k+1=>qx (eI (L8 k) k) ⟨aQx o ho k,RO k ho,trivial⟩ func18 fun t Z x h=>qy (b:=aQG (L8 k) k (da Z) (fun q j=>(eI (L8 k) k).lp Z 3 [] k (bn t q j)) t) (by kernel_rfl) (qy (by simp only [aRA];rfl) h)
def aMq:Rw S:=aj h0 xn fun defs Z=>aa k (ee k defs) (da Z)
def aQ:Fx S:=fp 19 [(18,dZ (L8 k))] [(3,aS [3,6,7,8] [],ap 5 11)] k f20 0
def aNN (defs:List Df) (h j:Int):St UU:=⟨[(3,(iI h)),(6,(RL defs .none)),(7,(iI defs.length)),(8,(iI j))],[],[],[]⟩
section
variable (k:Nat) (defs:List Df) (Z:Out UU->Option S)
theorem eX: ∀n h j,(aQ k).lp Z 3 [] n (aNN defs h j)=pg k (da Z) defs n h j:=aL (x' k (da Z) defs)
end
theorem aRZ (ho:ai o):Tl o 20 (aMq k:Rw S):=qx (aQ k) ⟨aQx o ho k,trivial⟩ func20 fun defs Z x h=>qy (b:=aQH k (da Z) (fun j q=>(aQ k).lp Z 3 [] k (aNN defs j q)) defs) (by kernel_rfl) (qy (by simp only [eX];rfl) (al h))
def q4:Rw S:=aj aOJ xn fun defs t vars many fuel Z=>aa k (dd k defs t vars many fuel) (F9 Z)
def eK:Fx S:=fp 76 [(9,bg k),(10,dB k),(11,aCW k),(12,aCX k),(13,t' k),(15,De (d8 k)),(18,dZ (L8 k)),(19,OB k),(20,aMq k)] [] k f5 0
theorem gg (ho:ai o):Tl o 5 (q4 k:Rw S):=qx (eK k) ⟨aFz k ho,aFA k ho,aFC k ho,fI k ho,aAU k ho,aBf o ho k,aQx o ho k,aaN k ho,aRZ k ho,trivial⟩ func5 fun defs t vars many fuel Z x h=>qK h
section
variable (hd:aAC S) (k:Nat) (l:List Tm) (c0:List Df) (c1:Int) (Z:Out UU->Option S)
end
section
variable (hd:aAC S) (k:Nat) (l:List (Br Tm)) (c1:List Df) (c2:Int) (Z:Out UU->Option S)
end
section
variable (hd:aDE S) (k:Nat) (defs:List Df) (t:Tm) (Z:Out UU->Option S)
end
theorem aSI (o:Obj) (ho:ai o) (k:Nat):Tl o 5 (q4 k:Rw S):=gg k ho
end
end
section
variable {S:Type} {k:Nat}
def bE {α β:Type} (x:Except Int α) (f:α->Except Int β):Except Int β:=match x with
 | .error e=> .error e
 | .ok a=>f a
theorem aD {α β:Type} (a:α) (f:α->Except Int β):bE (.ok a) f=f a:=rfl
theorem lk {α β:Type} (e:Int) (f:α->Except Int β):bE (.error e) f= .error e:=rfl
theorem i8 {α β:Type} {x:Except Int α} {f:α->Except Int β} {b:β} (h:bE x f= .ok b): ∃a,x= .ok a/\f a= .ok b:=by
 cases x with
 |error e=>cases h
 |ok a=>exact ⟨a,rfl,h⟩
theorem be {α β:Type} {x:Except Int α} {f:α->Except Int β} {e:Int} (h:bE x f= .error e):x= .error e\/ ∃a,x= .ok a/\f a= .error e:=by
 cases x with
 |error e=>injection h with h;grind
 |ok a=>exact .inr ⟨a,rfl,h⟩
def NF (x:LC×Int):Except Int (LC):=if x.2=0 then .ok x.1 else .error x.2
theorem jF {x:LC×Int} (h:x.2=0):NF x= .ok x.1:=if_pos h
theorem iO {x:LC×Int} (h:x.2≠0):NF x= .error x.2:=if_neg h
theorem rR {x:LC×Int} {l:LC} (h:NF x= .ok l):x.2=0/\x.1=l:=by
 grind [NF]
theorem Km {x:LC×Int} {e:Int} (h:NF x= .error e):x.2≠0/\x.2=e:=by
 grind [NF]
def EN (e:Int):Prop:=0<=e/\e<=1000
theorem uq:EN 0:=by unfold EN;omega
theorem lO:EN 2:=by unfold EN;omega
theorem en3:EN 3:=by unfold EN;omega
theorem acI:EN 10:=by unfold EN;omega
theorem bF (l:LC):EN (bp l).2:=by
 grind [bp,en3,uq,lO]
theorem z8 {step:LC->Cl->LC×Int} (hs: ∀h c,EN (step h c).2): ∀ {r h:LC},EN (zo step h r).2:=by
 intro r
 induction r<;>grind [uq,zo]
theorem agu (s i b:Int):EN (Fa s i b).2:=by
 grind [Fa,lO,MT,uq,acI]
theorem agk (c:Cl) (i b:Int):EN (dw c i b).2:=by
 grind [dw,agu,lO]
theorem q_ (f:LC) (i b:Int):EN (ua f i b).2:=by
 unfold ua
 split
 ·split
  ·exact bF _
  ·exact z8 fun h c=>agk c i b
 ·exact lO
theorem T8 {n b x y:Nat} (h:Ix n b x=Ix n b y):x=y:=by
 grind [Ix]
theorem ak2 (n b:Nat) {l:List Nat} (h:l.Nodup):(l.map (Ix n b)).Nodup:=
 List.Pairwise.map (S:=fun a b=>a≠b) (R:=fun a b=>a≠b) _ (fun x y j h=>j (T8 h)) h
theorem ags {m n b:Nat} (h:(MT m n b).2=0) (j:Nat):(MT m n b).1.testBit j=true↔ ∃x,x<24/\m.testBit x=true/\Ix n b x=j:=by
 rw [Fg] at h ⊢
 split<;>grind [oG,ak2,oY,sY]
theorem ZC {m:Nat} (h:m<16777216):m&&&ya=m:=by
 apply Nat.eq_of_testBit_eq
 grind [g8,oZ]
theorem acY {i b:Int}: ∀ {r h:LC},(zo (dK i b) h r).2=0->(∀c∈r,(dw c i b).2=0)/\(zo (dK i b) h r).1=h++r.map fun c=>(dw c i b).1:=by
 intro r
 induction r<;>grind [zo,dK]
theorem agn {f:LC} {i b:Int} (h:(ua f i b).2=0): ∀c∈(ua f i b).1,∃d∈f,(dw d i b).2=0/\c=(dw d i b).1:=by
 grind [ua,acY,bp,uc]
theorem ZY {c:Cl}:bS c=false↔ ∀j,¬ (c.pos.toNat.testBit j=true/\c.neg.toNat.testBit j=true):=by
 unfold bS
 rw [Bool.not_eq_false',decide_eq_true_eq]
 constructor
 ·intro h j ⟨h1,h2⟩
  have:(c.pos.toNat&&&c.neg.toNat).testBit j=true:=by grind
  grind
 ·intro h
  apply Nat.eq_of_testBit_eq
  grind
theorem agt {s i b:Int} (h:(Fa s i b).2=0) {j:Nat} (hj:(Fa s i b).1.toNat.testBit j=true): ∃x,s.toNat.testBit x=true/\Ix i.toNat b.toNat x=j:=by
 unfold Fa at h hj
 split at h
 ·cases h
 ·next hn=>
  rw [if_neg hn] at hj
  have h':(MT s.toNat i.toNat b.toNat).2=0:=by
   omega
  obtain ⟨x,_,h2,q⟩:=(ags h' j).1 hj
  grind
theorem agj {c:Cl} {i b:Int} (h:(dw c i b).2=0) (hc:bS c=false):bS (dw c i b).1=false:=by
 grind [ZY,dw,agt,T8]
def Dc (d b:Int) (f:LC):Except Int (LC):=if b=0\/d>=24 then .ok f else NF (ua f d b)
theorem GY {d b:Int} {f g:LC} (hf:RF f) (h:Dc d b f= .ok g):RF g:=by
 grind [Dc,rR,kQ]
theorem Bq {d b:Int} {f:LC} {e:Int} (h:Dc d b f= .error e):0<e/\e<=1000:=by
 grind [Dc,Km,q_,EN]
theorem aiw {d b:Int} {f g:LC} (hf:f.all (fun c=> !bS c)=true) (h:Dc d b f= .ok g):g.all (fun c=> !bS c)=true:=by
 grind [Dc,rR,agn,agj]
theorem Bt (d b:Int):Dc d b []= .ok []:=by
 unfold Dc
 split
 all_goals rfl
mutual
def uA (vb db v d:Int):Tm->Except Int Tm
 | .mk kd n q r x sys=>
  if kd=1/\n>=v/\n>1000000000-vb then .error 100
  else bE (Dc d db r) fun z=>bE (dm vb db v d kd 0 x) fun j=>bE (DQ vb db v d kd sys) fun h=> .ok (.mk kd (if kd=1/\n>=v then n+vb else n) q z j h)
def dm (vb db v d kd:Int) (i:Nat):LT->Except Int (LT)
 |[]=> .ok []
 |t::l=>bE (uA vb db (v+tZ kd i) (d+bJ kd i) t) fun h=>bE (dm vb db v d kd (i+1) l) fun j=> .ok (h::j)
def DQ (vb db v d kd:Int):LB->Except Int (LB)
 |[]=> .ok []
 |b::l=>bE (n8 vb db v d kd b) fun h=>bE (DQ vb db v d kd l) fun j=> .ok (h::j)
def n8 (vb db v d kd:Int):Br Tm->Except Int (Br Tm)
 | .mk f j=>bE (Dc d db f) fun q=>bE (FK vb db v d kd j) fun h=> .ok (.mk q h)
def FK (vb db v d kd:Int):LT->Except Int (LT)
 |[]=> .ok []
 |t::l=>bE (uA vb db v (d+av kd) t) fun h=>bE (FK vb db v d kd l) fun j=> .ok (h::j)
end
mutual
def q7:Tm->Prop
 | .mk kd n j r h sys=>(RF r/\(kd=1->r=[])/\0<=kd)/\dQ h/\eA sys
def dQ:LT->Prop
 |[]=>True
 |t::l=>q7 t/\dQ l
def eA:LB->Prop
 |[]=>True
 |b::l=>mZ b/\eA l
def mZ:Br Tm->Prop
 | .mk f h=>RF f/\dQ h
end
theorem zu: ∀ {l:LT},dQ l↔ ∀t∈l,q7 t:=by
 intro l
 induction l<;>grind [dQ]
theorem G3 {b:Br Tm}:mZ b↔RF b.f/\ ∀t∈b.c,q7 t:=by cases b;rw [mZ,zu]
theorem H3: ∀ {l:LB},eA l↔ ∀b∈l,RF b.f/\ ∀t∈b.c,q7 t:=by
 intro l
 induction l<;>grind [eA,G3]
inductive F2 {α β:Type} (R:α->β->Prop):List α->List β->Prop
 |nil:F2 R [] []
 |cons {a:α} {b:β} {l:List α} {m:List β}:R a b->F2 R l m->F2 R (a::l) (b::m)
theorem F2.len {α β:Type} {R:α->β->Prop} {l:List α} {m:List β} (h:F2 R l m):m.length=l.length:=by
 induction h<;>grind
theorem F2.imp {α β:Type} {R Q:α->β->Prop} {l:List α} {m:List β} (h:F2 R l m) (j: ∀a b,R a b->Q a b):F2 Q l m:=by
 induction h<;>grind [nil,cons]
theorem ago {vb db v d kd:Int} {R:Tm->Tm->Prop}: ∀ {l:LT} {i:Nat} {l':LT},(∀x∈l,∀v d j,uA vb db v d x= .ok j->R x j)->dm vb db v d kd i l= .ok l'->F2 R l l':=by
 intro l
 induction l with
 |nil=>intro i l' _ h;rw [dm] at h;injection h with h;subst h;exact .nil
 |cons t l z=>
  intro i l' q h
  rw [dm] at h
  obtain ⟨B,h1,h⟩:=i8 h
  obtain ⟨m,h2,h⟩:=i8 h
  injection h with h;subst h
  exact .cons (q t (by simp) _ _ _ h1) (z (fun x A=>q x (by simp [A])) h2)
theorem agp {vb db v d kd:Int} {R:Tm->Tm->Prop}: ∀ {l:LT} {l':LT},(∀x∈l,∀v d j,uA vb db v d x= .ok j->R x j)->FK vb db v d kd l= .ok l'->F2 R l l':=by
 intro l
 induction l with
 |nil=>intro l' _ h;rw [FK] at h;injection h with h;subst h;exact .nil
 |cons t l z=>
  intro l' q h
  rw [FK] at h
  obtain ⟨B,h1,h⟩:=i8 h
  obtain ⟨m,h2,h⟩:=i8 h
  injection h with h;subst h
  exact .cons (q t (by simp) _ _ _ h1) (z (fun x A=>q x (by simp [A])) h2)
theorem agv {vb db v d kd:Int} {R:Tm->Tm->Prop}: ∀ {l l':LB},(∀b∈l,∀x∈b.c,∀v d q,uA vb db v d x= .ok q->R x q)->DQ vb db v d kd l= .ok l'->
  F2 (fun b j=>Dc d db b.f= .ok j.f/\F2 R b.c j.c) l l':=by
 intro l
 induction l with
 |nil=>intro l' _ h;rw [DQ] at h;injection h with h;subst h;exact .nil
 |cons b l A=>
  intro l' z h
  rw [DQ] at h
  obtain ⟨j,h1,h⟩:=i8 h
  obtain ⟨m,h2,h⟩:=i8 h
  injection h with h;subst h
  cases b with
  |mk f B=>
   rw [n8] at h1
   obtain ⟨J,E,h1⟩:=i8 h1
   obtain ⟨F,I,h1⟩:=i8 h1
   injection h1 with h1;subst h1
   exact .cons ⟨E,agp (z ⟨f,B⟩ (by simp)) I⟩ (A (fun b hb=>z b (by simp [hb])) h2)
theorem Av {f:LC} {d:Int} (h:24<=d):dg f d=true:=by
 grind [dg,sY]
def Up (x h:Tm):Prop:=am h=am x/\au h=au x/\h.k=x.k/\(p9 x->p9 h/\(q7 x->q7 h)/\ ∀q j,24<=q->24<=j->rP false (-1) q x=true->rP false (-1) j h=true)
theorem Ua {l l':LT} (h:F2 Up l l'):aH l'=aH l:=by
 induction h with
 |nil=>rfl
 |cons h1 _ j=>rw [aH,aH,h1.1,j]
theorem Ud {l l':LT} (h:F2 Up l l'):ay l'=ay l:=by
 induction h with
 |nil=>rfl
 |cons h1 _ j=>rw [ay,ay,h1.2.1,j]
theorem ala {l l':LB} (h:F2 (fun b j:Br Tm=>F2 Up b.c j.c) l l'):aO l'=aO l:=by
 induction h with
 |nil=>rfl
 |cons h1 _ q=>grind [aO,pD,Ua]
theorem alb {l l':LB} (h:F2 (fun b j:Br Tm=>F2 Up b.c j.c) l l'):aI l'=aI l:=by
 induction h with
 |nil=>rfl
 |cons h1 _ q=>grind [aI,kZ,Ud]
theorem Ub {l l':LT} (h:F2 Up l l'):aZ l->aZ l':=by
 induction h with
 |nil=>exact id
 |cons h1 _ j=>rw [aZ,aZ];exact fun h=>⟨(h1.2.2.2 h.1).1,j h.2⟩
theorem Uc {l l':LT} (h:F2 Up l l'):aZ l->dQ l->dQ l':=by
 induction h with
 |nil=>simp
 |cons h1 _ j=>rw [aZ,dQ,dQ];exact fun h g=>⟨(h1.2.2.2 h.1).2.1 g.1,j h.2 g.2⟩
theorem B2 (v:Int):cQ (-1) v= -1:=by rfl
theorem ak9 {kd q j:Int} (h1:24<=q) (h2:24<=j) {l l':LT} (h:F2 Up l l'): ∀ {i:Nat},aZ l->bO false (-1) q kd i l=true->bO false (-1) j kd i l'=true:=by
 induction h with
 |nil=>exact fun _ h=>h
 |cons x _ z=>
  intro i
  rw [aZ,bO,bO,qC,qC,B2]
  have:=gr kd i
  exact fun h g=>⟨(x.2.2.2 h.1).2.2 _ _ (by omega) (by omega) g.1,z h.2 g.2⟩
theorem ak_ {kd q j:Int} (h1:24<=q) (h2:24<=j) {l l':LT} (h:F2 Up l l'):aZ l->ca false (-1) q kd l=true->ca false (-1) j kd l'=true:=by
 induction h with
 |nil=>exact fun _ h=>h
 |cons x _ z=>
  rw [aZ,ca,ca,qC,qC]
  have:=IB kd
  exact fun h g=>⟨(x.2.2.2 h.1).2.2 _ _ (by omega) (by omega) g.1,z h.2 g.2⟩
def oN (d db:Int) (b h:Br Tm):Prop:=Dc d db b.f= .ok h.f/\F2 Up b.c h.c
theorem QG {d db:Int} {f g:LC} (h:Dc d db f= .ok g) (hf:aq f) (hl:f.length<1073741824):aq g/\g.length<1073741824:=by
 unfold Dc at h
 split at h
 ·grind
 ·obtain ⟨h1,rfl⟩:=rR h
  have:=kQ h1
  exact ⟨this.2,by have:=this.len;omega⟩
theorem QH {d db:Int} {f g:LC} (h:Dc d db f= .ok g) (hf:aq f) (j:xP f=true):xP g=true:=(GY ((M9 hf).1 j) h).right
theorem QF {d db:Int} {f g:LC} (h:Dc d db f= .ok g) (hf:aq f) (j:cV f=true):cV g=true:=by
 grind [cV,QH,aiw]
theorem iS {d db:Int} {f g:LC} (h:Dc d db f= .ok g) (hf:f.length=0):g.length=0:=by
 grind [Bt]
theorem ak6 {d db:Int} {l l':LB} (h:F2 (oN d db) l l'):ba l->ba l':=by
 induction h with
 |nil=>exact id
 |cons h1 _ q=>
  rw [ba,ba,oh,oh]
  intro h
  have j:=QG h1.1 h.1.1.1 h.1.1.2.1
  exact ⟨⟨⟨j.1,j.2,by have:=h1.2.len;omega⟩,xp.1 (Ub h1.2 (xp.2 h.1.2))⟩,q h.2⟩
theorem ak8 {d db:Int} {l l':LB} (h:F2 (oN d db) l l'):ba l->eA l->eA l':=by
 induction h with
 |nil=>simp
 |cons h1 _ j=>
  rw [ba,oh,eA,eA,G3,G3]
  intro h g
  exact ⟨⟨GY g.1.1 h1.1,zu.1 (Uc h1.2 (xp.2 h.1.2) (zu.2 g.1.2))⟩,j h.2 g.2⟩
theorem ak5 {d db kd q j:Int} (h1:24<=q) (h2:24<=j) {l l':LB} (h:F2 (oN d db) l l'):ba l->ck false (-1) q kd l=true->ck false (-1) j kd l'=true:=by
 induction h with
 |nil=>exact fun _ h=>h
 | @cons a b _ _ x _ z=>
  rw [ba,oh,ck,ck,qC,qC]
  intro h g
  refine ⟨?_,z h.2 g.2⟩
  cases a;cases b
  have g1:=g.1
  rw [jT] at g1 ⊢
  exact ak_ h1 h2 x.2 (xp.2 h.1.2) g1
theorem ak7 {d db kd q j:Int} (h1:24<=q) (h2:24<=j) {l l':LB} (h:F2 (oN d db) l l'):ba l->l.all (bX kd q)=true->l'.all (bX kd j)=true:=by
 induction h with
 |nil=>simp
 | @cons a b _ _ x _ z=>
  rw [ba,oh,EZ,EZ,qC,qC]
  intro h g
  refine ⟨?_,z h.2 g.2⟩
  have g1:=g.1
  unfold bX at g1 ⊢
  rw [qC,qC,decide_eq_true_eq] at g1 ⊢
  rw [x.2.len]
  exact ⟨g1.1,QF x.1 h.1.1.1 g1.2.1,Av h2⟩
theorem T_ {d db:Int} {l l':LB} (h:F2 (oN d db) l l'):F2 (fun b j:Br Tm=>F2 Up b.c j.c) l l':=h.imp fun _ _ h=>h.2
theorem uP {vb db:Int} (T:0<=vb) (O:vb<=1000000000) (t:Tm): ∀v d t',uA vb db v d t= .ok t'->Up t t':=by
 induction t using gq with
 |h kd n nm r W sys E F=>
  intro v d t' h
  rw [uA] at h
  split at h
  ·cases h
  next hv=>
  obtain ⟨r',Y,h⟩:=i8 h
  obtain ⟨I,hk,h⟩:=i8 h
  obtain ⟨q,hs,h⟩:=i8 h
  injection h with h;subst h
  have B:F2 Up W I:=ago (fun x J v d L=>E x J v d L) hk
  have fs:F2 (oN d db) sys q:=agv (fun b hb x J v d L=>F b hb x J v d L) hs
  refine ⟨?_, ?_,rfl,fun z=> ?_⟩
  ·grind [am,Ua,ala,T_]
  ·grind [au,Ud,alb,T_]
  ·obtain ⟨o1,o2,o3,o4,o5,o6,o7⟩:=z.node
   have j:=z
   rw [p9] at j
   obtain ⟨_,ok,os⟩:=j
   have A:=QG Y o4 o5
   have M:=o2
   unfold aG at M
   refine ⟨?_, ?_, ?_⟩
   ·rw [p9]
    refine ⟨⟨o1, ?_,o3,A.1,A.2,by rw [B.len];exact o6,by rw [fs.len];exact o7⟩,Ub B ok,ak6 fs os⟩
    grind [aG]
   ·grind [q7,GY,Uc,ak8,Bt]
   ·intro dd ad h1 h2
    rw [rP,rP]
    simp only [Bool.false_and,ub,Bool.true_and,qC]
    rintro ⟨a,b,c⟩
    refine ⟨?_,ak9 h1 h2 B ok b,ak5 h1 h2 fs os c⟩
    unfold cL at a ⊢
    simp only [qC,decide_eq_true_eq,B.len,fs.len] at a ⊢
    grind [iS,QH,Av,QF,ak7]
theorem aed {kd:Int} {n:Nat} (h:ct kd=n):0<=kd:=by
 grind [ct]
theorem ZA {bd:Bool} (t:Tm): ∀ {vars px:Int},p9 t->rP bd vars px t=true->q7 t:=by
 induction t using gq with
 |h kd n T r W sys I J=>
  intro vars px A h
  rw [rP,qC,qC,qC] at h
  obtain ⟨_,a,b,c⟩:=h
  obtain ⟨Y,o2,o3,M,o5,o6,o7⟩:=A.node
  have z:=A
  rw [p9] at z
  obtain ⟨_,ok,os⟩:=z
  have B: ∀ {l:LT} {i:Nat},(∀x∈l,∀ {vars px:Int},p9 x->rP bd vars px x=true->q7 x)->aZ l->bO bd vars px kd i l=true->dQ l:=by
   intro l
   induction l<;>grind [dQ,bO,aZ]
  rw [wH,zf] at c
  unfold cL at a
  simp only [qC,decide_eq_true_eq] at a
  obtain ⟨⟨a1,a2,a3,a4⟩,a5⟩:=a
  have O: ∀ {l:LC},l.length=0->RF l:=fun h=>by
   grind [rA]
  rw [q7]
  have j:(sys=[]\/sys.all (bX kd px)=true)/\RF r/\(kd=1->r=[]):=by
   have q:Ah kd=0->sys=[]:=fun h=>L3.1 (a4 h)
   by_cases c1:kd=1
   ·rw [if_pos c1] at a5
    simp only [qC,decide_eq_true_eq] at a5
    exact ⟨.inl (q (by subst c1;decide)),O a5.1,fun _=>L3.1 a5.1⟩
   ·rw [if_neg c1] at a5
    by_cases c2:kd=2
    ·rw [if_pos c2] at a5
     simp only [qC,decide_eq_true_eq] at a5
     exact ⟨.inl (q (by subst c2;decide)),O a5.1,fun h=>absurd h c1⟩
    ·rw [if_neg c2] at a5
     by_cases c3:kd=13\/kd=21\/kd=26
     ·rw [if_pos c3,qC] at a5
      exact ⟨.inl (q (by rcases c3 with rfl|rfl|rfl<;>decide)),(M9 M).1 a5.1,fun h=>absurd h c1⟩
     ·rw [if_neg c3] at a5
      by_cases c4:kd=14
      ·rw [if_pos c4,qC] at a5
       unfold cV at a5
       rw [qC] at a5
       exact ⟨.inl (q (by subst c4;decide)),(M9 M).1 a5.1.1,fun h=>absurd h c1⟩
      grind
  refine ⟨⟨j.2.1,j.2.2,aed a1⟩,B (fun x F=>I x F) ok b, ?_⟩
  rw [H3]
  intro br E
  have hc:=c br E
  rw [zf] at hc
  have L:=A.br E
  refine ⟨?_,fun x F=>J br E x F (L.2 x F) (hc x F)⟩
  rcases j.1 with h|h<;>grind [bX,cV,M9]
theorem Rz {vb db:Int} (t:Tm): ∀ {v d e},uA vb db v d t= .error e->0<e/\e<=1000:=by
 induction t using gq with
 |h kd n J r L sys E F=>
  intro v d e h
  rw [uA] at h
  split at h
  ·grind
  rcases be h with h|⟨_,_,h⟩
  ·exact Bq h
  have q: ∀ {l:LT} {i:Nat},(∀x∈l,∀ {v d e},uA vb db v d x= .error e->0<e/\e<=1000)->dm vb db v d kd i l= .error e->0<e/\e<=1000:=by
   intro l
   induction l with
   |nil=>grind [dm]
   |cons t l z=>
    intro i hl h
    rw [dm] at h
    rcases be h with h|⟨_,_,h⟩
    ·exact hl t (by simp) h
    grind [be]
  have j: ∀ {l:LT},(∀x∈l,∀ {v d e},uA vb db v d x= .error e->0<e/\e<=1000)-> ∀ {e},FK vb db v d kd l= .error e->0<e/\e<=1000:=by
   intro l
   induction l with
   |nil=>grind [FK]
   |cons t l z=>
    intro hl e h
    rw [FK] at h
    rcases be h with h|⟨_,_,h⟩
    ·grind
    ·rcases be h with h|⟨_,_,h⟩
     ·exact z (fun x I=>hl x (by simp [I])) h
     simp_all
  have B: ∀ {l:LB},(∀b∈l,∀x∈b.c,∀ {v d e},uA vb db v d x= .error e->0<e/\e<=1000)->DQ vb db v d kd l= .error e->0<e/\e<=1000:=by
   intro l
   induction l with
   |nil=>grind [DQ]
   |cons b l z=>
    intro hl h
    rw [DQ] at h
    rcases be h with h|⟨_,_,h⟩
    ·cases b with
     |mk f A=>
      rw [n8] at h
      rcases be h with h|⟨_,_,h⟩
      ·exact Bq h
      ·rcases be h with h|⟨_,_,h⟩
       ·exact j (hl (Br.mk f A) (by simp)) h
       ·cases h
    grind [be]
  grind [be]
abbrev dC:=Int->LC->Except Int (LC)
mutual
def w5 (fo fa:dC) (d:Int):Tm->Except Int Tm
 | .mk kd n q r x sys=>bE (if kd=14 then fa d r else fo d r) fun z=>bE (aig fo fa d kd 0 x) fun j=>bE (vn fo fa d kd sys) fun h=> .ok (.mk kd n q z j h)
def aig (fo fa:dC) (d kd:Int) (i:Nat):LT->Except Int (LT)
 |[]=> .ok []
 |t::l=>bE (w5 fo fa (d+bJ kd i) t) fun h=>bE (aig fo fa d kd (i+1) l) fun j=> .ok (h::j)
def vn (fo fa:dC) (d kd:Int):LB->Except Int (LB)
 |[]=> .ok []
 |b::l=>bE (L6 fo fa d kd b) fun o=>bE (vn fo fa d kd l) fun h=> .ok (o++h)
def L6 (fo fa:dC) (d kd:Int):Br Tm->Except Int (LB)
 | .mk f q=>bE (fa d f) fun j=>if j.length=0 then .ok [] else bE (xY fo fa d kd q) fun h=> .ok [.mk j h]
def xY (fo fa:dC) (d kd:Int):LT->Except Int (LT)
 |[]=> .ok []
 |t::l=>bE (w5 fo fa (d+av kd) t) fun h=>bE (xY fo fa d kd l) fun j=> .ok (h::j)
end
theorem alf {fo fa:dC} {d kd:Int} {R:Tm->Tm->Prop}: ∀ {l:LT} {i:Nat} {l':LT},(∀x∈l,∀d j,w5 fo fa d x= .ok j->R x j)->aig fo fa d kd i l= .ok l'->F2 R l l':=by
 intro l
 induction l with
 |nil=>intro i l' _ h;rw [aig] at h;injection h with h;subst h;exact .nil
 |cons t l z=>
  intro i l' q h
  rw [aig] at h
  obtain ⟨B,h1,h⟩:=i8 h
  obtain ⟨m,h2,h⟩:=i8 h
  injection h with h;subst h
  exact .cons (q t (by simp) _ _ h1) (z (fun x A=>q x (by simp [A])) h2)
theorem alh {fo fa:dC} {d kd:Int} {R:Tm->Tm->Prop}: ∀ {l:LT} {l':LT},(∀x∈l,∀d j,w5 fo fa d x= .ok j->R x j)->xY fo fa d kd l= .ok l'->F2 R l l':=by
 intro l
 induction l with
 |nil=>intro l' _ h;rw [xY] at h;injection h with h;subst h;exact .nil
 |cons t l z=>
  intro l' q h
  rw [xY] at h
  obtain ⟨B,h1,h⟩:=i8 h
  obtain ⟨m,h2,h⟩:=i8 h
  injection h with h;subst h
  exact .cons (q t (by simp) _ _ h1) (z (fun x A=>q x (by simp [A])) h2)
def Wk (x h:Tm):Prop:=am h<=am x/\au h<=au x/\h.k=x.k/\(p9 x->q7 x->p9 h/\q7 h)
theorem Un {l l':LT} (h:F2 Wk l l'):aH l'<=aH l:=by
 induction h with
 |nil=>simp
 |cons h1 _ j=>rw [aH,aH];have:=h1.1;omega
theorem Uq {l l':LT} (h:F2 Wk l l'):ay l'<=ay l:=by
 induction h with
 |nil=>simp
 |cons h1 _ j=>rw [ay,ay];have:=h1.2.1;omega
theorem Uo {l l':LT} (h:F2 Wk l l'):aZ l->dQ l->aZ l'/\dQ l':=by
 induction h with
 |nil=>grind
 |cons h1 _ j=>
  rw [aZ,aZ,dQ,dQ]
  intro h g
  have a:=h1.2.2.2 h.1 g.1
  grind
theorem alk {fo fa:dC} {d kd:Int} (hfa: ∀d f g,RF f->fa d f= .ok g->RF g): ∀ {l l':LB},(∀b∈l,∀x∈b.c,∀d A,w5 fo fa d x= .ok A->Wk x A)->vn fo fa d kd l= .ok l'->
  aO l'<=aO l/\aI l'<=aI l/\l'.length<=l.length/\(ba l->eA l->ba l'/\eA l'):=by
 intro l
 induction l with
 |nil=>grind [vn]
 |cons b l F=>
  intro l' B h
  rw [vn] at h
  obtain ⟨o,h1,h⟩:=i8 h
  obtain ⟨m,h2,h⟩:=i8 h
  injection h with h;subst h
  obtain ⟨i1,i2,i3,i4⟩:=F (fun b hb=>B b (by simp [hb])) h2
  cases b with
  |mk f E=>
   rw [L6] at h1
   obtain ⟨z,I,h1⟩:=i8 h1
   split at h1
   ·grind [aO,aI,ba,eA]
   ·obtain ⟨j,J,h1⟩:=i8 h1
    injection h1 with h1;subst h1
    have f2:F2 Wk E j:=alh (B ⟨f,E⟩ (by simp)) J
    have hd:=Un f2
    have hs:=Uq f2
    refine ⟨?_, ?_, ?_,fun ho q=> ?_⟩
    ·grind [aO,Fy]
    ·grind [aI,Ho]
    ·grind
    ·rw [ba,fc] at ho;rw [eA,mZ] at q
     have a:=Uo f2 ho.1.2 q.1.2
     have b:=i4 ho.2 q.2
     have c:=hfa d f z q.1.1 I
     show ba (Br.mk z j::m)/\eA (Br.mk z j::m)
     rw [ba,fc,eA,mZ]
     exact ⟨⟨⟨⟨c.2,by have:=c.len;omega,by rw [f2.len];simp_all⟩,a.1⟩,b.1⟩,⟨c,a.2⟩,b.2⟩
theorem Uj {fo fa:dC} (hfo: ∀d f g,RF f->fo d f= .ok g->RF g) (hfa: ∀d f g,RF f->fa d f= .ok g->RF g) (h0: ∀d,fo d []= .ok []) (t:Tm): ∀d t',w5 fo fa d t= .ok t'->Wk t t':=by
 induction t using gq with
 |h kd n nm r J sys B E=>
  intro d t' h
  rw [w5] at h
  obtain ⟨L,hr,h⟩:=i8 h
  obtain ⟨F,hk,h⟩:=i8 h
  obtain ⟨I,hs,h⟩:=i8 h
  injection h with h;subst h
  have A:F2 Wk J F:=alf B hk
  obtain ⟨s1,s2,s3,M⟩:=alk hfa E hs
  refine ⟨?_, ?_,rfl,fun q x=> ?_⟩
  ·rw [am,am];have:=Un A;omega
  ·rw [au,au];have:=Uq A;omega
  ·rw [p9] at q;rw [q7] at x
   obtain ⟨⟨O,T,W,o4,o5,Y,o7⟩,ok,os⟩:=q
   obtain ⟨⟨a,b,z⟩,c,e⟩:=x
   have hk:=Uo A ok c
   have hs:=M os e
   have j:RF L:=by
    grind
   rw [p9,q7]
   refine ⟨⟨⟨O,T,W,j.2,by have:=j.len;omega,by rw [A.len];exact Y,by omega⟩,hk.1,hs.1⟩,⟨j,fun h1=> ?_,z⟩,hk.2,hs.2⟩
   grind
section
variable {fo fa:dC} {G:Int->LC->LC}
def FD (f:dC) (G:Int->LC->LC):dC:=fun d l=>bE (f d l) fun m=> .ok (G d m)
def j0 (G:Int->LC->LC):dC:=fun d l=> .ok (G d l)
theorem B5 (t:Tm): ∀d,∃t',w5 (j0 G) (j0 G) d t= .ok t':=by
 induction t using gq with
 |h kd n L r z sys A B=>
  intro d
  have hk: ∀ {l:LT} {i:Nat},(∀x∈l,∀d,∃t',w5 (j0 G) (j0 G) d x= .ok t')-> ∃j,aig (j0 G) (j0 G) d kd i l= .ok j:=by
   intro l
   induction l with
   |nil=>simp_all [aig]
   |cons t l q=>
    intro i h
    obtain ⟨t',e⟩:=h t (by simp) (d+bJ kd i)
    obtain ⟨j,e'⟩:=q (i:=i+1) fun x E=>h x (by simp [E])
    grind [aig,aD]
  have J: ∀ {l:LT},(∀x∈l,∀d,∃t',w5 (j0 G) (j0 G) d x= .ok t')-> ∃j,xY (j0 G) (j0 G) d kd l= .ok j:=by
   intro l
   induction l with
   |nil=>simp_all [xY]
   |cons t l q=>
    intro h
    obtain ⟨t',e⟩:=h t (by simp) (d+av kd)
    obtain ⟨j,e'⟩:=q fun x E=>h x (by simp [E])
    grind [xY,aD]
  have hs: ∀ {l:LB},(∀b∈l,∀x∈b.c,∀d,∃t',w5 (j0 G) (j0 G) d x= .ok t')-> ∃j,vn (j0 G) (j0 G) d kd l= .ok j:=by
   intro l
   induction l with
   |nil=>simp_all [vn]
   |cons b l q=>
    intro h
    obtain ⟨j,e'⟩:=q fun b hb=>h b (by simp [hb])
    cases b with
    |mk f z=>
     obtain ⟨F,e⟩:=J (h ⟨f,z⟩ (by simp))
     have: ∃o,L6 (j0 G) (j0 G) d kd (.mk f z)= .ok o:=by
      grind [L6,j0,aD]
     grind [vn,aD]
  obtain ⟨F,M⟩:=hk (i:=0) A
  obtain ⟨I,es⟩:=hs B
  simp_all [j0,w5,aD]
theorem alg (d kd:Int): ∀ (l:LT) (i:Nat),∃l',aig (j0 G) (j0 G) d kd i l= .ok l':=by
 intro l
 induction l with
 |nil=>simp_all [aig]
 |cons t l h=>
  intro i
  obtain ⟨j,e⟩:=B5 (G:=G) t (d+bJ kd i)
  obtain ⟨l',e'⟩:=h (i+1)
  grind [aig,aD]
theorem Ui (d kd:Int): ∀ (l:LT),∃l',xY (j0 G) (j0 G) d kd l= .ok l':=by
 intro l
 induction l with
 |nil=>simp_all [xY]
 |cons t l h=>
  obtain ⟨j,e⟩:=B5 (G:=G) t (d+av kd)
  grind [xY,aD]
theorem ale (d kd:Int) (b:Br Tm): ∃o,L6 (j0 G) (j0 G) d kd b= .ok o:=by
 cases b with
 |mk f h=>
  obtain ⟨j,e⟩:=Ui (G:=G) d kd h
  rw [L6,j0,aD]
  split<;>simp_all [aD]
theorem alj (d kd:Int): ∀ (l:LB),∃l',vn (j0 G) (j0 G) d kd l= .ok l':=by
 intro l
 induction l with
 |nil=>simp_all [vn]
 |cons b l h=>
  obtain ⟨l',e'⟩:=h
  obtain ⟨o,e⟩:=ale (G:=G) d kd b
  grind [vn,aD]
theorem ali (d kd:Int): ∀ (a b:LB),vn fo fa d kd (a++b)=bE (vn fo fa d kd a) fun a'=>bE (vn fo fa d kd b) fun h=> .ok (a'++h):=by
 intro a
 induction a with
 |nil=>intro b;rw [An,vn,aD];cases vn fo fa d kd b<;>rfl
 |cons x a j=>
  intro b
  rw [List.cons_append,vn,vn,j]
  cases L6 fo fa d kd x with
  |error e=>rfl
  |ok o=>
   rw [aD,aD]
   cases vn fo fa d kd a with
   |error e=>rfl
   |ok a'=>
    rw [aD,aD]
    cases vn fo fa d kd b with
    |error e=>rfl
    |ok h=>grind [aD]
theorem alm (hfa: ∀d f g,RF f->fa d f= .ok g->RF g) (hG: ∀d f,RF f->((G d f).length=0↔f.length=0)) (t:Tm): ∀d,q7 t->bE (w5 fo fa d t) (w5 (j0 G) (j0 G) d)=w5 (FD fo G) (FD fa G) d t:=by
 induction t using gq with
 |h kd n nm r ks sys F I=>
  intro d q
  rw [q7] at q
  obtain ⟨_,J,L⟩:=q
  have hk: ∀ {l:LT} {i:Nat},(∀x∈l,∀d,q7 x->bE (w5 fo fa d x) (w5 (j0 G) (j0 G) d)=w5 (FD fo G) (FD fa G) d x)->dQ l->bE (aig fo fa d kd i l) (aig (j0 G) (j0 G) d kd i)=aig (FD fo G) (FD fa G) d kd i l:=by
   intro l
   induction l with
   |nil=>grind [aig,aD]
   |cons t l A=>
    intro i h j
    rw [dQ] at j
    have h1:=h t (by simp) (d+bJ kd i) j.1
    have h2:=A (i:=i+1) (fun x M=>h x (by simp [M])) j.2
    rw [aig,aig,<-h1,<-h2]
    cases w5 fo fa (d+bJ kd i) t with
    |error e=>rfl
    |ok O=>
     rw [aD,aD]
     obtain ⟨T,e⟩:=B5 (G:=G) O (d+bJ kd i)
     rw [e,aD]
     cases aig fo fa d kd (i+1) l with
     |error e=>rfl
     |ok B=>
      grind [aD,aig]
  have hm: ∀ {l:LT},(∀x∈l,∀d,q7 x->bE (w5 fo fa d x) (w5 (j0 G) (j0 G) d)=w5 (FD fo G) (FD fa G) d x)->dQ l->bE (xY fo fa d kd l) (xY (j0 G) (j0 G) d kd)=xY (FD fo G) (FD fa G) d kd l:=by
   intro l
   induction l with
   |nil=>grind [xY,aD]
   |cons t l A=>
    intro h j
    rw [dQ] at j
    have h1:=h t (by simp) (d+av kd) j.1
    have h2:=A (fun x M=>h x (by simp [M])) j.2
    rw [xY,xY,<-h1,<-h2]
    cases w5 fo fa (d+av kd) t with
    |error e=>rfl
    |ok O=>
     rw [aD,aD]
     obtain ⟨T,e⟩:=B5 (G:=G) O (d+av kd)
     rw [e,aD]
     cases xY fo fa d kd l with
     |error e=>rfl
     |ok B=>
      grind [aD,xY]
  have hb: ∀ {b:Br Tm},(∀x∈b.c,∀d,q7 x->bE (w5 fo fa d x) (w5 (j0 G) (j0 G) d)=w5 (FD fo G) (FD fa G) d x)->mZ b->bE (L6 fo fa d kd b) (vn (j0 G) (j0 G) d kd)=L6 (FD fo G) (FD fa G) d kd b:=by
   intro b h j
   cases b with
   |mk f z=>
    rw [mZ] at j
    have h2:=hm h j.2
    rw [L6,L6]
    show _=bE (bE (fa d f) fun m=> .ok (G d m)) _
    cases hf:fa d f with
    |error e=>rfl
    |ok E=>
     rw [aD,aD,aD]
     have Y:=hG d E (hfa d f E j.1 hf)
     by_cases W:E.length=0
     ·grind [aD,vn]
     ·rw [if_neg W,if_neg (fun h=>W (Y.1 h)),<-h2]
      cases xY fo fa d kd z with
      |error e=>rfl
      |ok B=>
       rw [aD,aD,aD,vn,L6]
       show bE (bE (.ok (G d E)) _) _=_
       rw [aD,if_neg (fun h=>W (Y.1 h))]
       obtain ⟨ax,e⟩:=Ui (G:=G) d kd B
       grind [aD,vn]
  have hs: ∀ {l:LB},(∀b∈l,∀x∈b.c,∀d,q7 x->bE (w5 fo fa d x) (w5 (j0 G) (j0 G) d)=w5 (FD fo G) (FD fa G) d x)->eA l->bE (vn fo fa d kd l) (vn (j0 G) (j0 G) d kd)=vn (FD fo G) (FD fa G) d kd l:=by
   intro l
   induction l with
   |nil=>grind [vn,aD]
   |cons b l A=>
    intro h j
    rw [eA] at j
    have h1:=hb (h b (by simp)) j.1
    have h2:=A (fun b hb=>h b (by simp [hb])) j.2
    rw [vn,vn,<-h1,<-h2]
    cases L6 fo fa d kd b with
    |error e=>rfl
    |ok o=>
     rw [aD,aD]
     obtain ⟨o',e⟩:=alj (G:=G) d kd o
     rw [e,aD]
     cases vn fo fa d kd l with
     |error e=>rfl
     |ok B=>
      grind [aD,ali]
  rw [w5,w5,<-hk (i:=0) F J,<-hs I L]
  have qR:(if kd=14 then FD fa G d r else FD fo G d r)=bE (if kd=14 then fa d r else fo d r) fun m=> .ok (G d m):=by split<;>rfl
  rw [qR]
  cases (if kd=14 then fa d r else fo d r) with
  |error e=>rfl
  |ok r'=>
   rw [aD,aD,aD]
   cases aig fo fa d kd 0 ks with
   |error e=>rfl
   |ok z=>
    rw [aD,aD]
    obtain ⟨ad,ek⟩:=alg (G:=G) d kd z 0
    rw [ek,aD]
    cases vn fo fa d kd sys with
    |error e=>rfl
    |ok ao=>
     grind [aD,w5,j0]
end
theorem Ly (kd:Int):(kd<0\/kd>28)\/(∃n:Nat,n<29/\kd=n):=by
 by_cases h:kd<0\/kd>28
 ·omega
 ·exact .inr ⟨kd.toNat,by omega,by omega⟩
theorem aiR (kd:Int) (I:Int->OS S):zA k kd I=I (ct kd):=by
 simp only [zA]
 rcases Ly kd with h|⟨n,hn,rfl⟩
 ·simp only [cH,beq_iff_eq]
  unfold ct
  rw [if_pos h]
  repeat rw [if_neg (by omega)]
 ·unfold ct
  rw [if_neg (by omega),HV]
  match n,hn with
  |0,_=>rfl
  |1,_=>rfl
  |2,_=>rfl
  |3,_=>rfl
  |4,_=>rfl
  |5,_=>rfl
  |6,_=>rfl
  |7,_=>rfl
  |8,_=>rfl
  |9,_=>rfl
  |10,_=>rfl
  |11,_=>rfl
  |12,_=>rfl
  |13,_=>rfl
  |14,_=>rfl
  |15,_=>rfl
  |16,_=>rfl
  |17,_=>rfl
  |18,_=>rfl
  |19,_=>rfl
  |20,_=>rfl
  |21,_=>rfl
  |22,_=>rfl
  |23,_=>rfl
  |24,_=>rfl
  |25,_=>rfl
  |26,_=>rfl
  |27,_=>rfl
  |28,_=>rfl
  |n+29,h=>omega
theorem jE (kd i:Int) (I:Int×Int->OS S):gI k kd i I=I (tZ kd i,bJ kd i):=by
 simp only [gI,cH,beq_iff_eq]
 grind [tZ,bJ]
theorem Q8 (kd:Int) (I:Int->OS S):lJ k kd I=I (Ah kd):=by
 grind [lJ,cH,Ah]
theorem Jq (s t:BA):(s==t)=decide (s=t):=by
 obtain ⟨a⟩:=s;obtain ⟨b⟩:=t
 show (a==b)=_
 grind
theorem FO (s:BA):(s==qw)=decide (s.size=0):=by
 simp_all [Jq]
theorem rN (s:BA):(s.size:Int)=(s.data.toList.length:Int):=by
 rfl
def js (p:List UInt8) (r:List UInt8):Bool:=match p with
 |[]=>u5 r
 |_::_=>r.all fun d=>kP d||pG d
theorem NI (p:List UInt8) (x:UInt8) (r:List UInt8):js p (x::r)=((kP x||(decide (p≠[])&&pG x))&&js (p++[x]) r):=by
 cases p<;>grind [js,u5]
theorem NJ {p:List UInt8}:js p []=decide (p.length≠0):=by
 cases p with
 |nil=>rfl
 |cons c l=>rfl
theorem afb (hk:Fu k) (I:Bool->OS S) {s:BA} (hs:s.size<2147483648):
  ∀ (r p:List UInt8) (m:Nat),s.data.toList=p++r->r.length<m->n7 k I s m (p.length:Int)=I (js p r):=by
 obtain ⟨q,rfl⟩: ∃q,k=q+1:=⟨k-1,by omega⟩
 have z:s.data.toList.length<2147483648:=by simp_all
 intro r
 induction r with
 |nil=>
  grind [qI,n7,tv,rN,n3,FO,NJ]
 |cons x r A=>
  intro p m h B
  obtain ⟨m,rfl,j⟩:=qI B
  obtain ⟨E,F,J,L⟩:=sX h (by omega)
  have M:=A (p++[x]) m L j
  rw [NI]
  simp only [n7,tv,rN,E,ae,F,rf,aY,Aq,Dk,J,M]
  have hl: ∀b:Bool,b=kP x->ab (!b) (ab (((p.length:Nat):Int)==0) (I false) (if ((x.toNat:Nat):Int)<48 then I false else if ((x.toNat:Nat):Int)>57 then I false else I (js (p++[x]) r))) (I (js (p++[x]) r))=I ((kP x||(decide (p≠[])&&pG x))&&js (p++[x]) r):=by
   grind [cH,List.length_pos_iff,pG]
  grind [kP]
theorem ajo (hk:Fu k) {s:BA} (hs:s.size<2147483648) (I:Bool->OS S):zC k s I=I (u5 s.data.toList):=by
 simp only [zC,IY]
 have:=afb hk I hs s.data.toList [] k rfl (by grind [rN])
 exact this
theorem qY (n:Nat):(((n:Nat):Int)==0)=decide (n=0):=by grind
theorem aff (hk:Fu k) (I:Bool->OS S) {t:Tm} {px:Int} (hd:0<=px) (j:px<9223372036854775808) (hs: ∀b∈t.s,aq b.f/\b.f.length<1073741824) (hlen:t.s.length<1073741824):
  ∀ (r p:LB) (m:Nat),t.s=p++r->r.length<m->kO k I t px m (p.length:Int)=I (r.all (bX t.k px)&&decide (t.r.length=0)):=by
 intro r
 induction r with
 |nil=>
  grind [qI,kO,yl,n3,qY]
 |cons x r A=>
  intro p m h B
  obtain ⟨m,rfl,q⟩:=qI B
  obtain ⟨E,F,J,L⟩:=sX h (by omega)
  have z:=hs x (by grind)
  have hb:((x.c.length:Int)==Ah t.k)=decide ((x.c.length:Int)=Ah t.k):=by rfl
  simp only [kO,yl,E,ae,F,rf,ag hk,Q8,Hb hk z.1 (show x.f.length<2147483648 by omega),RZ hk z.1 (show x.f.length<4294967296 by omega) hd j,J,A (p++[x]) m L q,EZ,hb]
  grind [bX,decide,Int,cV,ae,n3]
theorem aj4 {S:Type} (b c:Bool) (I:Bool->OS S):ab b (I c) (I false)=I (b&&c):=by
 cases b<;>rfl
def om (vars px:Int) (t:Tm):Bool:=
 if t.k=1 then decide (t.r.length=0)&&(decide (0<=t.n)&&decide (vars<0\/t.n<vars))
   else if t.k=2 then decide (t.r.length=0)&&u5 t.name.data.toList
   else if t.k=13\/t.k=21\/t.k=26 then xP t.r&&dg t.r px
   else if t.k=14 then cV t.r&&dg t.r px
   else t.s.all (bX t.k px)&&decide (t.r.length=0)
theorem NY (vars px:Int) (t:Tm):cL vars px t=((decide (ct t.k=t.c.length)&&(decide (t.k=1\/t.n=0)&&(decide (t.k=2\/t.name.size=0)&&decide (Ah t.k=0->t.s.length=0))))&&om vars px t):=by
 cases t;rfl
def Zm (t:Tm):Prop:=aG t.k/\aG t.n/\t.name.size<1073741824/\aq t.r/\t.r.length<1073741824/\t.c.length<1073741824/\t.s.length<1073741824
theorem p9.no {t:Tm} (h:p9 t):Zm t:=by cases t;exact h.node
theorem p9.ki {t x:Tm} (h:p9 t) (j:x∈t.c):p9 x:=by cases t;exact h.bD j
theorem p9.bi {t:Tm} {b:Br Tm} (h:p9 t) (hb:b∈t.s):(aq b.f/\b.f.length<1073741824/\b.c.length<1073741824)/\ ∀t∈b.c,p9 t:=by cases t;exact h.br hb
theorem aju (hk:Fu k) {t:Tm} (A:p9 t) {vars px:Int} (hd:0<=px) (x:px<9223372036854775808) (I:Bool->OS S):Ar k I t vars px k=I (om vars px t):=by
 obtain ⟨F,J,L,z,M,O,B⟩:=A.no
 have hb:=fun b hb=>(A.bi (b:=b) hb).1
 obtain ⟨q,E⟩: ∃q,k=q+1:=⟨k-1,by omega⟩
 have: ∀j,j=q+1->Ar k I t vars px j=tw k I t vars px (fun v109=>kO k I t px k v109):=by rintro j rfl;rfl
 rw [this k E]
 have hl:=aff hk I hd x (fun b h=>⟨(hb b h).1,(hb b h).2.1⟩) B t.s [] k rfl (by omega)
 have hl:kO k I t px k 0=_:=hl
 simp only [tw,ag hk,ajo hk (show t.name.size<2147483648 by omega),rH hk z (show t.r.length<2147483648 by omega),Hb hk z (show t.r.length<2147483648 by omega),RZ hk z (show t.r.length<4294967296 by omega) hd x,hl,qY,aj4]
 grind [cH,om]
theorem ajt (hk:Fu k) {t:Tm} (j:p9 t) {vars px:Int} (hd:0<=px) (h:px<9223372036854775808) (I:Bool->OS S):uj k t vars px I=I (cL vars px t):=by
 have q:(ct t.k==(t.c.length:Int))=decide (ct t.k=t.c.length):=by rfl
 have hp:(Ah t.k==0)=decide (Ah t.k=0):=bG _
 simp only [uj,IZ,ag hk,aiR,Q8,aju hk j hd h,FO,q,hp,bG,NY]
 have x:ab (decide (Ah t.k=0)) (ab (decide (((t.s.length:Nat):Int)>0)) (I false) (I (om vars px t))) (I (om vars px t))=I (decide (Ah t.k=0->t.s.length=0)&&om vars px t):=by
  rw [aY,aY]
  by_cases h1:Ah t.k=0
  ·rw [if_pos h1]
   by_cases h2:t.s.length=0<;>grind
  grind
 grind [ae,n3,decide_eq_false]
abbrev Fd (k n:Nat):Prop:=4294967296+n<=k
theorem Fd.fu {n:Nat} (h:Fd k n):Fu k:=by omega
theorem Fd.pos {n:Nat} (h:Fd k n): ∃q,k=q+1/\ ∀j,j+1<=n->Fd q j:=⟨k-1,by omega,fun j hj=>by omega⟩
theorem Fd.pos' {n:Nat} (h:Fd k n) (hn:1<=n): ∃q,k=q+1/\Fu q/\ ∀j,j+1<=n->Fd q j:=⟨k-1,by omega,by omega,fun j hj=>by omega⟩
theorem HX (t:Tm):1<=am t:=by cases t;rw [am];omega
theorem pF (t:Tm):am t=max (aH t.c) (aO t.s)+1:=by cases t;rfl
theorem rM (t:Tm):au t=1+ay t.c+aI t.s:=by cases t;rfl
theorem bY {t x:Tm} (h:x∈t.c):am x+1<=am t:=by rw [pF t];have:=D0 h;omega
theorem b8 {t:Tm} {b:Br Tm} {x:Tm} (hb:b∈t.s) (h:x∈b.c):am x+1<=am t:=by rw [pF t];have:=D0 h;have:=JP hb;omega
theorem c7 {Q:Tm->Prop} (h: ∀t,(∀x∈t.c,Q x)->(∀b∈t.s,∀x∈b.c,Q x)->Q t) (t:Tm):Q t:=gq (fun kd n j r q sys h1 h2=>h (.mk kd n j r q sys) h1 h2) t
theorem aDj {α:Type} (b c:Bool) (x y:α):ab (!b) y (if c then x else y)=if b&&c then x else y:=by cases b<;>cases c<;>rfl
theorem kY {S:Type} (b c:Bool) (I:Bool->OS S):ab (!b) (I false) (I c)=I (b&&c):=by cases b<;>rfl
theorem xi {n:Int} (h1: -9223372036854775808<=n) (h2:n<9223372036854775808):p5 .i64 n=n:=alX h1 h2
section
variable {hd:Tm->Int->(Bool->OS S)->OS S} {c0:Int} {t:Tm} {Q:Tm->Bool}
theorem aeL (hk:Fu k) (I:Bool->OS S) (j:Int->Int->OS S) (hc: -9223372036854775807<=c0) (z:c0<9223372036854775808) {v more:Int} {x:Br Tm} (A: ∀y∈x.c,∀g,hd y (c0-1) g=g (Q y)) (hl:x.c.length<1073741824):
  ∀ (r p:LT) (m:Nat),x.c=p++r->r.length<m->WX hd k I j c0 t v x more m (p.length:Int)=if r.all Q then j (p5 .i64 (v+1)) more else I false:=by
 intro r
 induction r with
 |nil=>
  grind [qI,WX,yi,n3]
 |cons y r B=>
  intro p m h E
  obtain ⟨m,rfl,q⟩:=qI E
  obtain ⟨F,J,L,M⟩:=sX h (by omega)
  have O:=A y (by grind)
  simp only [WX,yi,F,ae,J,rf,ag hk,uk,ar,xi (show-9223372036854775808<=c0-1 by omega) (by omega),O,L,B (p++[y]) m M q,aDj]
  rfl
theorem aeK (hk:Fu k) (I:Bool->OS S) (hc: -9223372036854775807<=c0) (j:c0<9223372036854775808) {more:Int} (E: ∀b∈t.s,∀y∈b.c,∀g,hd y (c0-1) g=g (Q y)) (hl:t.s.length<1073741824) (q: ∀b∈t.s,b.c.length<1073741824):
  ∀ (r p:LB) (m:Nat),t.s=p++r->r.length<m->jp hd k I c0 t m (p.length:Int) more=I (r.all fun b=>b.c.all Q):=by
 intro r
 induction r with
 |nil=>
  grind [qI,jp,tp,n3]
 |cons x r F=>
  intro p m h J
  obtain ⟨m,rfl,z⟩:=qI J
  obtain ⟨L,M,O,T⟩:=sX h (by omega)
  have B:x∈t.s:=by grind
  have A:=q x B
  have:=aeL (t:=t) hk I (jp hd k I c0 t m) (v:=(p.length:Int)) (more:=more) hc j (E x B) A x.c [] k rfl (by omega)
  simp only [jp,tp,L,ae,M,rf,EZ]
  refine qy this ?_
  rw [O,F (p++[x]) m T z]
  cases x.c.all Q<;>rfl
theorem aeJ (hk:Fu k) (I:Bool->OS S) (hc: -9223372036854775807<=c0) (q:c0<9223372036854775808) (B: ∀y∈t.c,∀g,hd y (c0-1) g=g (Q y)) (x: ∀b∈t.s,∀y∈b.c,∀g,hd y (c0-1) g=g (Q y)) (A:p9 t):
  ∀ (r p:LT) (m:Nat),t.c=p++r->r.length<m->qS hd k I c0 t m (p.length:Int)=I (r.all Q&&t.s.all fun b=>b.c.all Q):=by
 obtain ⟨W,Y,o3,o4,o5,o6,E⟩:=A.no
 intro r
 induction r with
 |nil=>
  intro p m h z
  obtain ⟨m,rfl,j⟩:=qI z
  have hs: ∀more:Int,jp hd k I c0 t k 0 more=_:=fun more=>aeK hk I hc q (more:=more) x E (fun b hb=>(A.bi hb).1.2.2) t.s [] k rfl (by omega)
  simp only [qS,tn,zt h,n3,hs]
  cases (t.k==15)<;>rfl
 |cons y r F=>
  intro p m h z
  obtain ⟨m,rfl,j⟩:=qI z
  obtain ⟨J,L,M,O⟩:=sX h (by omega)
  have T:=B y (by grind)
  simp only [qS,tn,J,ae,L,rf,ag hk,jE,uk,ar,xi (show-9223372036854775808<=c0-1 by omega) (by omega),T,M,F (p++[y]) m O j,kY,EZ,Bool.and_assoc]
end
theorem JN {n:Int} (hn:0<=n): ∀ {l:LT},(l.all fun x=>decide ((am x:Int)<=n))=decide ((aH l:Int)<=n):=by
 intro l
 induction l<;>grind [aH]
theorem aah {n:Int} (hn:0<=n): ∀ {l:LB},(l.all fun b=>b.c.all fun x=>decide ((am x:Int)<=n))=decide ((aO l:Int)<=n):=by
 intro l
 induction l with
 |nil=>rw [aO];simp [hn]
 |cons b l h=>rw [EZ,h,JN hn,aO,pD,Bool.eq_iff_iff];grind
theorem ajY (t:Tm):p9 t-> ∀ {k:Nat} {left:Int} (I:Bool->OS S),Fd k (am t)-> -4611686018427387904<=left->left<4611686018427387904->jf k t left I=I (decide ((am t:Int)<=left)):=by
 induction t using c7 with
 |h t z A=>
  intro x k left I hk h1 h2
  obtain ⟨q,rfl,E,hf⟩:=hk.pos' (HX t)
  simp only [jf,TV,aY,ar,ag E]
  by_cases F:left>0
  ·rw [if_pos F]
   have J: ∀y∈t.c,∀g:Bool->OS S,jf q y (left-1) g=g (decide ((am y:Int)<=left-1)):=fun y j g=>z y j (x.ki j) g (hf _ (bY j)) (by omega) (by omega)
   have B: ∀b∈t.s,∀y∈b.c,∀g:Bool->OS S,jf q y (left-1) g=g (decide ((am y:Int)<=left-1)):=fun b hb y j g=>A b hb y j ((x.bi hb).2 y j) g (hf _ (b8 hb j)) (by omega) (by omega)
   have:=aeJ (Q:=fun y=>decide ((am y:Int)<=left-1)) E I (by omega) (by omega) J B x t.c [] q rfl (by have:=x.no.2.2.2.2.2.1;omega)
   simp only [DX,IV]
   refine qy this ?_
   rw [JN (by omega),aah (by omega),pF]
   congr 1
   rw [Bool.eq_iff_iff];simp;omega
  grind [HX]
section
variable {hd:Tm->Int->(Bool×Int->OS S)->OS S} {t:Tm}
def rT (hd:Tm->Int->(Bool×Int->OS S)->OS S) (k:Nat) (y:Tm):Prop:= ∀ (c:Int) (g:Bool×Int->OS S),0<=c->c<4611686018427387904->
 ∃v,pB hd k y c g=g (decide ((au y:Int)<=c),v)/\((au y:Int)<=c->v=c-au y)
theorem aeI (hk:Fu k) (I:Bool×Int->OS S) (j:Int->Int->Int->OS S) {v more:Int} {x:Br Tm} (z: ∀y∈x.c,rT hd k y) (hl:x.c.length<1073741824):
  ∀ (r p:LT) (m:Nat) (c:Int),0<=c->c<4611686018427387904->x.c=p++r->r.length<m->
  ((ay r:Int)<=c->kL hd k I j t v x more m c (p.length:Int)=j (c-ay r) (p5 .i64 (v+1)) more)/\(¬ (ay r:Int)<=c-> ∃w,kL hd k I j t v x more m c (p.length:Int)=I (false,w)):=by
 intro r
 induction r with
 |nil=>
  grind [qI,kL,yg,n3,ay]
 |cons y r W=>
  intro p m c A h1 h B
  obtain ⟨m,rfl,E⟩:=qI B
  obtain ⟨F,J,L,Y⟩:=sX h (by omega)
  have M:=z y (by grind)
  obtain ⟨w,O,T⟩:=M c (fun r1=>(fun q:Bool×Int=>ab (!q.1) (I (false,q.2)) (kL hd k I j t v x more m q.2 (((p++[y]).length:Nat):Int))) (r1.1,r1.2)) A h1
  simp only [kL,yg,F,ae,J,rf,ag hk,ul,ar,L,ay]
  rw [O]
  by_cases hs:(au y:Int)<=c
  ·grind [n3]
  grind [ae]
theorem aeH (hk:Fu k) (I:Bool×Int->OS S) {more:Int} (B: ∀b∈t.s,∀y∈b.c,rT hd k y) (hl:t.s.length<1073741824) (j: ∀b∈t.s,b.c.length<1073741824):
  ∀ (r p:LB) (m:Nat) (c:Int),0<=c->c<4611686018427387904->t.s=p++r->r.length<m->
  ((aI r:Int)<=c->NA hd k I t m c (p.length:Int) more=I (true,c-aI r))/\(¬ (aI r:Int)<=c-> ∃w,NA hd k I t m c (p.length:Int) more=I (false,w)):=by
 intro r
 induction r with
 |nil=>
  grind [qI,NA,tj,n3,aI]
 |cons x r E=>
  intro p m c F h1 h J
  obtain ⟨m,rfl,q⟩:=qI J
  obtain ⟨L,M,O,T⟩:=sX h (by omega)
  have A:x∈t.s:=by grind
  have z:=j x A
  have:=aeI (t:=t) hk I (NA hd k I t m) (v:=(p.length:Int)) (more:=more) (B x A) z x.c [] k c F h1 rfl (by omega)
  simp only [NA,tj,L,ae,M,rf,aI,kZ]
  obtain ⟨t1,t2⟩:=this
  rw [show (((([]:LT).length:Nat):Int))=0 from rfl] at t1 t2
  by_cases hs:(ay x.c:Int)<=c
  ·obtain ⟨i1,i2⟩:=E (p++[x]) m (c-ay x.c) (by omega) (by omega) T q
   rw [t1 hs,O]
   refine ⟨fun h=> ?_,fun h=>i2 (by omega)⟩
   rw [i1 (by omega),show c-(ay x.c:Int)-(aI r:Int)=c-((ay x.c+aI r:Nat):Int) by omega]
  ·exact ⟨fun h=>absurd (by omega) hs,fun _=>t2 hs⟩
theorem aeG (hk:Fu k) (I:Bool×Int->OS S) (J: ∀y∈t.c,rT hd k y) (q: ∀b∈t.s,∀y∈b.c,rT hd k y) (F:p9 t):
  ∀ (r p:LT) (m:Nat) (c:Int),0<=c->c<4611686018427387904->t.c=p++r->r.length<m->
  ∃w,nY hd k I t m c (p.length:Int)=I (decide (((ay r+aI t.s:Nat):Int)<=c),w)/\(((ay r+aI t.s:Nat):Int)<=c->w=c-((ay r+aI t.s:Nat):Int)):=by
 obtain ⟨o1,o2,o3,o4,o5,o6,L⟩:=F.no
 intro r
 induction r with
 |nil=>
  intro p m c x h1 h z
  obtain ⟨m,rfl,j⟩:=qI z
  have hs: ∀more:Int,_:=fun more=>aeH hk I (more:=more) q L (fun b hb=>(F.bi hb).1.2.2) t.s [] k c x h1 rfl (by omega)
  have key: ∀more:Int,∃w,NA hd k I t k c 0 more=I (decide (((aI t.s:Nat):Int)<=c),w)/\(((aI t.s:Nat):Int)<=c->w=c-((aI t.s:Nat):Int)):=fun more=>by
   by_cases hc:(aI t.s:Int)<=c
   ·simp_all
   ·obtain ⟨w,e⟩:=(hs more).2 hc
    grind
  have A:ay []+aI t.s=aI t.s:=by rw [ay,FF]
  rw [A]
  simp only [nY,ti,zt h,n3]
  cases (t.k==15) with
  |true=>exact key 1
  |false=>exact key 0
 |cons y r M=>
  intro p m c x h1 h z
  obtain ⟨m,rfl,j⟩:=qI z
  obtain ⟨O,T,W,Y⟩:=sX h (by omega)
  have hy:=J y (by grind)
  obtain ⟨w,hw,B⟩:=hy c (fun r1=>(fun E:Bool×Int=>ab (!E.1) (I (false,E.2)) (nY hd k I t m E.2 (((p++[y]).length:Nat):Int))) (r1.1,r1.2)) x h1
  have A:ay (y::r)+aI t.s=au y+ay r+aI t.s:=by rw [ay]
  rw [A]
  simp only [nY,ti,O,ae,T,rf,ag hk,jE,ul,ar,W]
  rw [hw]
  by_cases hs:(au y:Int)<=c
  ·have:=B hs
   subst this
   obtain ⟨u,i1,i2⟩:=M (p++[y]) m (c-au y) (by omega) (by omega) Y j
   grind [n3]
  grind [ae,decide_eq_false]
end
theorem ai5 (t:Tm):p9 t-> ∀ {k:Nat} (c:Int) (I:Bool×Int->OS S),Fd k (am t)->0<=c->c<4611686018427387904->
  ∃w,Mx k t c I=I (decide ((au t:Int)-1<=c),w)/\((au t:Int)-1<=c->w=c-((au t:Int)-1)):=by
 induction t using c7 with
 |h t A B=>
  intro z k c I hk h1 h2
  obtain ⟨q,rfl,F,hf⟩:=hk.pos' (HX t)
  have x: ∀y,(∀ {k:Nat} (c:Int) (I:Bool×Int->OS S),Fd k (am y)->0<=c->c<4611686018427387904-> ∃w,Mx k y c I=I (decide ((au y:Int)-1<=c),w)/\((au y:Int)-1<=c->w=c-((au y:Int)-1)))->
    Fd q (am y)->rT (S:=S) (Mx q) q y:=by
   intro y j E c g J h1
   simp only [pB,ar,xi (show-9223372036854775808<=c-1 by omega) (by omega),aY]
   have:=mB y
   by_cases hc:c-1>=0
   ·rw [if_pos hc]
    obtain ⟨w,e,e'⟩:=j (c-1) (fun r1=>g (r1.1,r1.2)) E (by omega) (by omega)
    grind
   ·rw [if_neg hc]
    exact ⟨c-1,by grind,fun h=>by omega⟩
  obtain ⟨w,e,e'⟩:=aeG F I (fun y j=>x y (fun c I=>A y j (z.ki j) c I) (hf _ (bY j))) (fun b hb y j=>x y (fun c I=>B b hb y j ((z.bi hb).2 y j) c I) (hf _ (b8 hb j))) z t.c [] q c h1 h2 rfl (by have:=z.no.2.2.2.2.2.1;omega)
  grind [Mx,IT,rM]
theorem aj0 {t:Tm} (h:p9 t) (hk:Fd k (am t)) {p6:Int} (j:0<p6) (h1:p6<4611686018427387904) (I:Bool->OS S):zE k t p6 I=I (decide ((au t:Int)<=p6)):=by
 simp only [zE,ag hk.fu,pB,ar,xi (show-9223372036854775808<=p6-1 by omega) (by omega),aY]
 rw [if_pos (by omega)]
 obtain ⟨w,e,_⟩:=ai5 t h (p6-1) (fun r1=>I (r1.1,r1.2).1) hk (by omega) (by omega)
 grind
def VW (vars px:Int) (n:Nat):Prop:= -9223372036854775808<=vars/\vars<9223372036854775808/\0<=px/\px+n<4611686018427387904
section
variable {hd:Tm->Int->Int->Bool->(Bool->OS S)->OS S} {vars px:Int} {bd:Bool} {t:Tm}
theorem Rc (hv:VW vars px 1) {v d:Int} (h1:0<=v/\v<=1) (h2:0<=d/\d<=1) (y:Tm) (g:Bool->OS S):uh hd k y v d vars px bd g=hd y (p5 .i64 (cQ vars v)) (px+d) bd g:=by
 obtain ⟨v1,v2,v3,v4⟩:=hv
 simp only [uh,ar,aY,xi (show-9223372036854775808<=px+d by omega) (by omega)]
 unfold cQ
 split
 ·rw [xm]
 ·rfl
theorem aeF (hk:Fu k) (I:Bool->OS S) (j:Int->Int->OS S) (hv:VW vars px 1) {v more:Int} {x:Br Tm} (q:more=av t.k) (A: ∀y∈x.c,∀g,hd y vars (px+more) bd g=g (rP bd vars (px+more) y)) (hl:x.c.length<1073741824):
  ∀ (r p:LT) (m:Nat),x.c=p++r->r.length<m->mi hd k I j vars px bd t v x more m (p.length:Int)=if ca bd vars px t.k r then j (p5 .i64 (v+1)) more else I false:=by
 subst q
 intro r
 induction r with
 |nil=>
  intro p m h q
  obtain ⟨m,rfl,z⟩:=qI q
  simp only [mi,yh,zt h,n3];rfl
 |cons y r B=>
  intro p m h q
  obtain ⟨m,rfl,z⟩:=qI q
  obtain ⟨E,F,J,L⟩:=sX h (by omega)
  have M:=A y (by grind)
  have O:p5 .i64 (cQ vars 0)=vars:=by rw [show cQ vars 0=vars by grind [cQ]];exact xi hv.1 hv.2.1
  simp only [mi,yh,E,ae,F,rf,ag hk,ar,Rc hv (show (0:Int)<=0/\(0:Int)<=1 by omega) (IB t.k),O,M,J,B (p++[y]) m L z,aDj]
  rw [ca]
theorem aeE (hk:Fu k) (I:Bool->OS S) (hv:VW vars px 1) {more:Int} (E:more=av t.k) (F: ∀b∈t.s,∀y∈b.c,∀g,hd y vars (px+more) bd g=g (rP bd vars (px+more) y)) (hl:t.s.length<1073741824) (j: ∀b∈t.s,b.c.length<1073741824):
  ∀ (r p:LB) (m:Nat),t.s=p++r->r.length<m->iC hd k I vars px bd t m (p.length:Int) more=I (ck bd vars px t.k r):=by
 intro r
 induction r with
 |nil=>
  grind [qI,iC,tl,n3,ck]
 |cons x r J=>
  intro p m h q
  obtain ⟨m,rfl,z⟩:=qI q
  obtain ⟨L,M,O,T⟩:=sX h (by omega)
  have B:x∈t.s:=by grind
  have A:=j x B
  have:=aeF (t:=t) (bd:=bd) hk I (iC hd k I vars px bd t m) hv (v:=(p.length:Int)) E (F x B) A x.c [] k rfl (by omega)
  have this:mi hd k I (iC hd k I vars px bd t m) vars px bd t (p.length:Int) x more k 0=_:=this
  simp only [iC,tl,L,ae,M,rf,this,O,J (p++[x]) m T z]
  have W:ck bd vars px t.k (x::r)=(ca bd vars px t.k x.c&&ck bd vars px t.k r):=by cases x;rfl
  grind
theorem aeD (hk:Fu k) (I:Bool->OS S) (hv:VW vars px 1) (E: ∀y∈t.c,∀v d,0<=v/\v<=1->0<=d/\d<=1-> ∀g,hd y (p5 .i64 (cQ vars v)) (px+d) bd g=g (rP bd (cQ vars v) (px+d) y)) (q: ∀b∈t.s,∀y∈b.c,∀g,hd y vars (px+av t.k) bd g=g (rP bd vars (px+av t.k) y)) (z:p9 t):
  ∀ (r p:LT) (m:Nat),t.c=p++r->r.length<m->nZ hd k I vars px bd t m (p.length:Int)=I (bO bd vars px t.k p.length r&&ck bd vars px t.k t.s):=by
 obtain ⟨Y,o2,o3,o4,o5,o6,F⟩:=z.no
 intro r
 induction r with
 |nil=>
  intro p m h x
  obtain ⟨m,rfl,j⟩:=qI x
  have hs:iC hd k I vars px bd t k 0 (av t.k)=_:=aeE hk I hv rfl q F (fun b hb=>(z.bi hb).1.2.2) t.s [] k rfl (by omega)
  grind [nZ,tk,bO,av,cH]
 |cons y r J=>
  intro p m h x
  obtain ⟨m,rfl,j⟩:=qI x
  obtain ⟨L,M,O,T⟩:=sX h (by omega)
  have A:=g7 t.k p.length
  have B:=gr t.k p.length
  have W:=E y (by grind) (tZ t.k p.length) (bJ t.k p.length) A B
  simp only [nZ,tk,L,ae,M,rf,ag hk,jE,ar,Rc hv A B,W,O,J (p++[y]) m T j,kY]
  grind [bO]
end
theorem wI (bd:Bool) (vars px:Int) (t:Tm):rP bd vars px t=(!(bd&&decide (px>24))&&(cL vars px t&&(bO bd vars px t.k 0 t.c&&ck bd vars px t.k t.s))):=by cases t;rfl
theorem Uf {vars v:Int} (h:0<=v/\v<=1):vars<=cQ vars v/\cQ vars v<=vars+1:=by grind [cQ]
theorem Zv {bd:Bool} (t:Tm):p9 t-> ∀ {V W D:Int},W<0->9223372036854775808<=V->rP bd W D t=rP bd V D t:=by
 induction t using gq with
 |h kd n F r I sys A B=>
  intro j V W D J L
  have ho:=j
  rw [p9] at j
  obtain ⟨Y,M,o3,o4,o5,o6,o7⟩:=j.1
  have hk: ∀ {l:LT} {i:Nat},(∀x∈l,p9 x-> ∀ {V W D:Int},W<0->9223372036854775808<=V->rP bd W D x=rP bd V D x)->aZ l->bO bd W D kd i l=bO bd V D kd i l:=by
   intro l
   induction l with
   |nil=>intro i _ _;rw [bO,bO]
   |cons t l q=>
    intro i h hl
    rw [aZ] at hl
    have hb:=g7 kd i
    rw [bO,bO,q (fun x E=>h x (by simp [E])) hl.2,h t (by simp) hl.1 (W:=cQ W (tZ kd i)) (V:=cQ V (tZ kd i)) (by unfold cQ;split<;>omega) (by unfold cQ;split<;>omega)]
  have O: ∀ {l:LT},(∀x∈l,p9 x-> ∀ {V W D:Int},W<0->9223372036854775808<=V->rP bd W D x=rP bd V D x)->aZ l->ca bd W D kd l=ca bd V D kd l:=by
   intro l
   induction l with
   |nil=>intro _ _;rw [ca,ca]
   |cons t l q=>
    intro h hl
    rw [aZ] at hl
    rw [ca,ca,q (fun x E=>h x (by simp [E])) hl.2,h t (by simp) hl.1 J L]
  have hs: ∀ {l:LB},(∀b∈l,∀x∈b.c,p9 x-> ∀ {V W D:Int},W<0->9223372036854775808<=V->rP bd W D x=rP bd V D x)->ba l->ck bd W D kd l=ck bd V D kd l:=by
   intro l
   induction l with
   |nil=>intro _ _;rw [ck,ck]
   |cons b l q=>
    intro h hl
    obtain ⟨f,z⟩:=b
    rw [ba,fc] at hl
    rw [ck,ck,jT,jT,q (fun b hb=>h b (by simp [hb])) hl.2,O (l:=z) (h ⟨f,z⟩ (by simp)) hl.1.2]
  have T:cL W D (.mk kd n F r I sys)=cL V D (.mk kd n F r I sys):=by
   unfold cL
   have:decide (W<0\/n<W)=decide (V<0\/n<V):=by
    have hn:n<9223372036854775808:=by unfold aG at M;omega
    rw [decide_eq_true (.inl J),decide_eq_true (.inr (by omega))]
   dsimp only
   rw [this]
  rw [rP,rP,T,hk A j.2.1,hs B j.2.2]
theorem aC5 (t:Tm):p9 t-> ∀ {k:Nat} {vars px:Int} {bd:Bool} (I:Bool->OS S),Fd k (am t)->VW vars px (am t)->ic k t vars px bd I=I (rP bd vars px t):=by
 induction t using c7 with
 |h t z B=>
  intro x k vars px bd I hk hv
  obtain ⟨q,rfl,E,hf⟩:=hk.pos' (HX t)
  have hp:=HX t
  have F:=hv
  unfold VW at F
  have J:VW vars px 1:=by unfold VW;omega
  have W:=IB t.k
  have O: ∀y∈t.c,∀v d,0<=v/\v<=1->0<=d/\d<=1-> ∀g:Bool->OS S,ic q y (p5 .i64 (cQ vars v)) (px+d) bd g=g (rP bd (cQ vars v) (px+d) y):=fun y j v d h1 h2 g=>by
   have hd:=bY j
   have T:=Uf (vars:=vars) h1
   by_cases L:cQ vars v<9223372036854775808
   ·rw [xi (by omega) L]
    exact z y j (x.ki j) g (hf _ (bY j)) (by unfold VW;omega)
   ·have e:cQ vars v=9223372036854775808:=by omega
    rw [e,show p5 .i64 9223372036854775808= -9223372036854775808 from by decide,z y j (x.ki j) g (hf _ (bY j)) (by unfold VW;omega),Zv y (x.ki j) (by omega) (BF _)]
  have M: ∀b∈t.s,∀y∈b.c,∀g:Bool->OS S,ic q y vars (px+av t.k) bd g=g (rP bd vars (px+av t.k) y):=fun b hb y j g=>B b hb y j ((x.bi hb).2 y j) g (hf _ (b8 hb j)) (by
   have:=b8 hb j;unfold VW;omega)
  have:=aeD (bd:=bd) E I J O M x t.c [] q rfl (by have:=x.no.2.2.2.2.2.1;omega)
  have this:nZ (ic q) q I vars px bd t q 0=_:=this
  simp only [ic,TT,ar,ag E,ajt E x (show 0<=px by omega) (show px<9223372036854775808 by omega),zB,IU,this]
  rw [wI]
  cases bd with
  |true=>
   rw [ae,aY,Bool.true_and]
   by_cases A:px>24
   ·grind
   ·rw [if_neg A,decide_eq_false A]
    cases cL vars px t<;>rfl
  |false=>
   rw [n3]
   cases cL vars px t<;>rfl
def VD (vars px:Int) (n:Nat):Prop:= -4611686018427387904<=vars/\vars+n<4611686018427387904/\0<=px/\px+n<4611686018427387904
theorem ai1 (t:Tm) (h:p9 t) {k:Nat} {vars px:Int} {bd:Bool} (I:Bool->OS S) (hk:Fd k (am t)) (hv:VD vars px (am t)):ic k t vars px bd I=I (rP bd vars px t):=
 aC5 t h I hk (by obtain ⟨v1,v2,v3,v4⟩:=hv;exact ⟨by omega,by omega,v3,v4⟩)
theorem ajZ {t:Tm} (h:p9 t) (hk:Fd k (am t)) (I:Int->OS S):zD k t I=I (if am t>200 then 62 else if au t>20000 then 221 else 0):=by
 simp only [zD,ar,ajY t h _ hk (show (-4611686018427387904:Int)<=200 by omega) (show (200:Int)<4611686018427387904 by omega),ag hk.fu,aj0 h hk (show (0:Int)<20000 by omega) (show (20000:Int)<4611686018427387904 by omega)]
 by_cases h1:am t>200
 ·rw [if_pos h1,decide_eq_false (by omega)];rfl
 ·rw [if_neg h1,decide_eq_true (by omega),xJ,n3]
  by_cases h2:au t>20000
  ·rw [if_pos h2,decide_eq_false (by omega)];rfl
  ·rw [if_neg h2,decide_eq_true (by omega)];rfl
theorem E9 {t:Tm} (h:p9 t) (hk:Fd k (am t)) (j:am t<1099511627776) (I:Int->OS S):HN k t I=I (bw t):=by
 simp only [HN,ar,ag hk.fu,ajZ h hk,ai1 t h _ hk (show VD (-1) 24 (am t) by unfold VD;omega),bG]
 unfold bw
 by_cases h1:am t>200
 ·rw [if_pos h1,if_pos h1];rfl
 ·rw [if_neg h1,if_neg h1]
  by_cases h2:au t>20000
  ·rw [if_pos h2,if_pos h2];rfl
  ·rw [if_neg h2,if_neg h2,decide_eq_true rfl,xJ,n3]
   cases rP false (-1) 24 t<;>rfl
theorem JO: ∀ {l:LT},(∀x∈l,am x<=au x)->aH l<=ay l:=by
 intro l
 induction l<;>grind [aH,ay]
theorem aai: ∀ {l:LB},(∀b∈l,∀x∈b.c,am x<=au x)->aO l<=aI l:=by
 intro l
 induction l<;>grind [aO,aI,pD,kZ,JO]
theorem zG (t:Tm):am t<=au t:=by
 induction t using c7<;>grind [pF,rM,JO,aai]
section
variable {hd:Tm->(Int->OS S)->OS S} {t:Tm}
end
section
variable {hd:Tm->(Int->OS S)->OS S} {t:Tm}
end
section
variable {hd:Tm->Int->Int->Bool->(Bool->OS S)->OS S} {vars px:Int} {bd:Bool} {t:Tm}
end
theorem Fk (d:Int) (l:LC) (h:l.length=0):dg l d=true:=by
 grind [dg,sY,D7,jJ]
theorem af2 (hk:Fu k) (I:Bool->OS S) {l:LC} (hlen:l.length<2147483648):
  ∀ (r p:LC) (m:Nat),l=p++r->r.length<m->G1 k I l l m (p.length:Int)=I true:=by
 intro r
 induction r with
 |nil=>
  grind [qI,G1,oT,n3]
 |cons x r z=>
  intro p m h j
  obtain ⟨m,rfl,q⟩:=qI j
  obtain ⟨A,B,E,F⟩:=sX h (by omega)
  grind [G1,oT,ae,n3]
theorem RT (hk:Fu k) {l:LC} (hlen:l.length<2147483648) (I:Bool->OS S):jY k l l I=I true:=by
 simp only [jY,BV,beq_self_eq_true,xJ,n3]
 exact af2 hk I hlen l [] k rfl (by omega)
section
variable {hd:Tm->Tm->(Bool->OS S)->OS S}
theorem ae6 (hk:Fu k) (I:Bool->OS S) {l:LT} (hlen:l.length<2147483648) (z: ∀y∈l,∀g,hd y y g=g true):
  ∀ (r p:LT) (m:Nat),l=p++r->r.length<m->qH hd k I l l m (p.length:Int)=I true:=by
 intro r
 induction r with
 |nil=>
  grind [qI,qH,xQ,n3]
 |cons x r A=>
  intro p m h j
  obtain ⟨m,rfl,q⟩:=qI j
  obtain ⟨B,E,F,J⟩:=sX h (by omega)
  grind [qH,xQ,ae,ar,n3]
theorem Rs (hk:Fu k) (I:Bool->OS S) {l:LT} (hlen:l.length<2147483648) (h: ∀y∈l,∀g,hd y y g=g true):tX hd k l l I=I true:=by
 simp only [tX,It,beq_self_eq_true,xJ,n3]
 exact ae6 hk I hlen h l [] k rfl (by omega)
theorem afs (hk:Fu k) (I:Bool->OS S) {t:Tm} (q:p9 t) (A: ∀b∈t.s,∀y∈b.c,∀g,hd y y g=g true):
  ∀ (r p:LB) (m:Nat),t.s=p++r->r.length<m->gn hd k I t t m (p.length:Int)=I true:=by
 obtain ⟨O,T,W,Y,o5,o6,o7⟩:=q.no
 intro r
 induction r with
 |nil=>
  grind [qI,gn,xO,n3]
 |cons x r B=>
  intro p m h E
  obtain ⟨m,rfl,j⟩:=qI E
  obtain ⟨F,J,L,M⟩:=sX h (by omega)
  have z:x∈t.s:=by grind
  have hb:=(q.bi z).1
  simp only [gn,xO,F,ae,J,rf,ag hk,RT hk (show x.f.length<2147483648 by omega),Rs hk _ (show x.c.length<2147483648 by omega) (A x z),L,B (p++[x]) m M j,xJ,n3]
end
theorem RQ (t:Tm):p9 t-> ∀ {k:Nat} (I:Bool->OS S),Fd k (am t)->d8 k t t I=I true:=by
 induction t using c7 with
 |h t z A=>
  intro x k I hk
  obtain ⟨q,rfl,E,hf⟩:=hk.pos' (HX t)
  obtain ⟨F,J,L,M,O,T,W⟩:=x.no
  have Y: ∀y∈t.c,∀g:Bool->OS S,d8 q y y g=g true:=fun y j g=>z y j (x.ki j) g (hf _ (bY j))
  have B: ∀b∈t.s,∀y∈b.c,∀g:Bool->OS S,d8 q y y g=g true:=fun b hb y j g=>A b hb y j ((x.bi hb).2 y j) g (hf _ (b8 hb j))
  have:=afs E I x B t.s [] q rfl (by omega)
  grind [d8,Jq,Ir,n3,ag,RT,Rs]
section
variable {hd:Tm->Int->(Int->OS S)->OS S} {t:Tm}
end
def pE {α:Type}:Except Int α->sH Int α
 | .ok a=> .ok a
 | .error e=> .gF e
def eE {α β:Type} (x:Except Int α) (f:α->β) (g:Int->β):β:=match x with
 | .ok a=>f a
 | .error e=>g e
theorem ij {α β:Type} (x:Except Int α) (f:α->β) (g:Int->β):sH.elim (pE x) f g=eE x f g:=by cases x<;>rfl
theorem AS {α β γ:Type} (x:Except Int α) (f:α->Except Int β) (u:β->γ) (w:Int->γ):eE (bE x f) u w=eE x (fun a=>eE (f a) u w) w:=by cases x<;>rfl
theorem aP {α β:Type} (a:α) (f:α->β) (g:Int->β):eE (.ok a) f g=f a:=rfl
theorem Qx {α:Type} (x:Except Int α) (I:sH Int α->OS S):I (pE x)=eE x (fun a=>I (.ok a)) fun e=>I (.gF e):=by cases x<;>rfl
def pX:Tm:= .mk 0 0 qw [] [] []
def tE:Except Int Tm->Tm×Int
 | .ok t=>(t,0)
 | .error e=>(pX,e)
theorem Hg {α β:Type} {x:Except Int α} {f j:α->β} {g g':Int->β} (h: ∀a,x= .ok a->f a=j a) (h': ∀e,x= .error e->g e=g' e):eE x f g=eE x j g':=by
 cases x with
 |ok a=>exact h a rfl
 |error e=>exact h' e rfl
theorem Ru (hk:Fu k) {a b d:Int} {f:LC} (hf:aq f) (hl:f.length<1073741824) (hd:aG d) (hb:aG b) (I:sH Int (LC)->OS S):tN k a b f d I=I (pE (Dc d b f)):=by
 simp only [tN,ag hk,vX hk hf hl hd hb,bG,aY,J5 (show 0+f.length<=1099511627776 by omega)]
 unfold Dc
 by_cases h:b=0
 ·rw [if_pos h,if_pos (.inl h)];rfl
 ·rw [if_neg h]
  by_cases h1:d>=24
  ·rw [if_pos h1,if_pos (.inr h1)];rfl
  ·rw [if_neg h1,if_neg (show ¬ (b=0\/d>=24) by omega)]
   by_cases h2:(ua f d b).2=0
   ·rw [decide_eq_true h2,jF h2];rfl
   ·rw [decide_eq_false h2,iO h2];rfl
section
variable {hd:Int->Int->Tm->Int->Int->(sH Int Tm->OS S)->OS S} {vb db v d:Int} {t:Tm}
theorem ae5 (hk:Fu k) (I:sH Int Tm->OS S) (j:LB->Int->Int->OS S) {Dd r2:LC} {b1 xM:Int} {ks:LT} {o:LB} {x:Br Tm} {more:Int} (q:more=av t.k)
  (A:0<=d/\d<4611686018427387904) (B: ∀y∈x.c,∀g,hd vb db y v (d+more) g=g (pE (uA vb db v (d+more) y))) (hl:x.c.length<1073741824) (ho:o.length<1073741824):
  ∀ (r p:LT) (m:Nat) (acc:LT),x.c=p++r->r.length<m->acc.length=p.length->
  l7 hd k I j Dd vb db t b1 r2 ks o x more v d xM m acc (p.length:Int)=eE (FK vb db v d t.k r) (fun l=>j (o++[⟨Dd,acc++l⟩]) more (p5 .i64 (xM+1))) fun e=>I (.gF e):=by
 subst q
 have E:=IB t.k
 intro r
 induction r with
 |nil=>
  grind [qI,l7,xe,n3,FK,aP,J5]
 |cons y r F=>
  intro p m acc h q ha
  obtain ⟨m,rfl,z⟩:=qI q
  obtain ⟨J,L,M,O⟩:=sX h (by omega)
  have T:p.length<x.c.length:=by grind
  have W:=B y (by grind)
  simp only [l7,xe,J,ae,L,rf,ar,xi (n:=d+av t.k) (by omega) (by omega),W,ij,FK,AS,aP]
  refine Hg (fun Y ad=> ?_) fun e _=>rfl
  rw [J5 (by grind),M,F (p++[y]) m (acc++[Y]) O z (by grind)]
  simp
theorem ae4 (hk:Fu k) (I:sH Int Tm->OS S) {r2:LC} {b1:Int} {ks:LT} {more:Int} (L:more=av t.k) (F:p9 t) (q:aG db) (z:0<=d/\d<4611686018427387904)
  (M: ∀b∈t.s,∀y∈b.c,∀g,hd vb db y v (d+more) g=g (pE (uA vb db v (d+more) y))):
  ∀ (r p:LB) (m:Nat) (o:LB),t.s=p++r->r.length<m->o.length=p.length->
  NC hd k I vb db t b1 r2 ks v d m o more (p.length:Int)=eE (DQ vb db v d t.k r) (fun l=>I (.ok (.mk t.k b1 t.name r2 ks (o++l)))) fun e=>I (.gF e):=by
 obtain ⟨o1,o2,o3,o4,o5,o6,o7⟩:=F.no
 intro r
 induction r with
 |nil=>
  grind [qI,NC,sA,n3,DQ,aP]
 |cons x r O=>
  intro p m o h A ho
  obtain ⟨m,rfl,B⟩:=qI A
  obtain ⟨T,W,Y,e4⟩:=sX h (by omega)
  have J:x∈t.s:=by grind
  have ad:p.length<t.s.length:=by grind
  have hb:=(F.bi J).1
  have qR:=Ru (S:=S) hk (a:=vb) hb.1 hb.2.1 (show aG d by unfold aG;omega) q
  have:=fun Dd=>ae5 hk I (NC hd k I vb db t b1 r2 ks v d m) (Dd:=Dd) (r2:=r2) (b1:=b1) (xM:=(p.length:Int)) (ks:=ks) (o:=o) L z (M x J) hb.2.2 (by omega) x.c [] k [] rfl (by omega) rfl
  have this: ∀Dd,l7 hd k I (NC hd k I vb db t b1 r2 ks v d m) Dd vb db t b1 r2 ks o x more v d (p.length:Int) k [] 0=_:=this
  have hB:n8 vb db v d t.k x=bE (Dc d db x.f) fun E=>bE (FK vb db v d t.k x.c) fun j=> .ok (.mk E j):=by cases x;rfl
  simp only [NC,sA,T,ae,W,rf,ag hk,qR,ij,this,DQ,hB,AS,aP,An,Y]
  refine Hg (fun E _=>Hg (fun j _=> ?_) fun e _=>rfl) fun e _=>rfl
  rw [O (p++[x]) m (o++[Br.mk E j]) e4 B (by grind)]
  simp
theorem ae3 (hk:Fu k) (I:sH Int Tm->OS S) {r2:LC} {b1:Int} (F:p9 t) (q:aG db) (x:0<=d/\d<4611686018427387904) (J:0<=v/\v<4611686018427387904)
  (L: ∀y∈t.c,∀a b,0<=a/\a<=1->0<=b/\b<=1-> ∀g,hd vb db y (v+a) (d+b) g=g (pE (uA vb db (v+a) (d+b) y))) (z: ∀b∈t.s,∀y∈b.c,∀g,hd vb db y v (d+av t.k) g=g (pE (uA vb db v (d+av t.k) y))):
  ∀ (r p:LT) (m:Nat) (acc:LT),t.c=p++r->r.length<m->acc.length=p.length->
  SA hd k I vb db t b1 r2 v d m acc (p.length:Int)=eE (dm vb db v d t.k p.length r) (fun l=>eE (DQ vb db v d t.k t.s) (fun s=>I (.ok (.mk t.k b1 t.name r2 (acc++l) s))) fun e=>I (.gF e)) fun e=>I (.gF e):=by
 obtain ⟨o1,o2,o3,o4,o5,o6,o7⟩:=F.no
 intro r
 induction r with
 |nil=>
  intro p m acc h A ha
  obtain ⟨m,rfl,j⟩:=qI A
  have hs:NC hd k I vb db t b1 r2 acc v d k [] (av t.k) 0=_:=ae4 hk I rfl F q x z t.s [] k [] rfl (by omega) rfl
  grind [SA,sz,dm,aP,cH,av]
 |cons y r M=>
  intro p m acc h A ha
  obtain ⟨m,rfl,j⟩:=qI A
  obtain ⟨O,T,W,Y⟩:=sX h (by omega)
  have ad:p.length<t.c.length:=by grind
  have B:=g7 t.k p.length
  have E:=gr t.k p.length
  have hy:=L y (by grind) (tZ t.k p.length) (bJ t.k p.length) B E
  simp only [SA,sz,O,ae,T,rf,ag hk,jE,ar,xi (n:=v+tZ t.k p.length) (by omega) (by omega),xi (n:=d+bJ t.k p.length) (by omega) (by omega),hy,ij,dm,AS,aP]
  refine Hg (fun t' ao=> ?_) fun e _=>rfl
  rw [J5 (by grind),W,M (p++[y]) m (acc++[t']) Y j (by grind),show (p++[y]).length=p.length+1 by simp]
  simp
end
theorem Fh (vb db v d:Int) (t:Tm):uA vb db v d t=if t.k=1/\t.n>=v/\t.n>1000000000-vb then .error 100 else bE (Dc d db t.r) fun q=>bE (dm vb db v d t.k 0 t.c) fun j=>bE (DQ vb db v d t.k t.s) fun h=> .ok (.mk t.k (if t.k=1/\t.n>=v then t.n+vb else t.n) t.name q j h):=by cases t;rfl
theorem q7.no {t:Tm} (h:q7 t):RF t.r/\(t.k=1->t.r=[])/\0<=t.k:=by cases t;rw [q7] at h;exact h.1
theorem q7.ki {t x:Tm} (h:q7 t) (j:x∈t.c):q7 x:=by cases t;rw [q7] at h;exact zu.1 h.2.1 x j
theorem q7.bi {t:Tm} {b:Br Tm} (h:q7 t) (hb:b∈t.s):RF b.f/\ ∀x∈b.c,q7 x:=by cases t;rw [q7] at h;exact H3.1 h.2.2 b hb
def VP (v d:Int) (n:Nat):Prop:=0<=v/\v+n<4611686018427387904/\0<=d/\d+n<4611686018427387904
theorem r9 {vb db:Int} (T:0<=vb/\vb<=1000000000) (A:aG db) (t:Tm):p9 t->q7 t-> ∀ {k:Nat} {v d:Int} (I:sH Int Tm->OS S),Fd k (am t)->VP v d (am t)->dk k vb db t v d I=I (pE (uA vb db v d t)):=by
 induction t using c7 with
 |h t E F=>
  intro B z k v d I hk hv
  obtain ⟨q,rfl,J,hf⟩:=hk.pos' (HX t)
  obtain ⟨L,W⟩: ∃L,q=L+1:=⟨q-1,by omega⟩
  have hp:=HX t
  unfold VP at hv
  obtain ⟨o1,Y,o3,o4,o5,o6,o7⟩:=B.no
  have ad:=IB t.k
  have hQ: ∀y∈t.c,∀a b,0<=a/\a<=1->0<=b/\b<=1-> ∀g:sH Int Tm->OS S,dk q vb db y (v+a) (d+b) g=g (pE (uA vb db (v+a) (d+b) y)):=fun y x a b h1 h2 g=>
   E y x (B.ki x) (z.ki x) g (hf _ (bY x)) (by have:=bY x;unfold VP;omega)
  have M: ∀b∈t.s,∀y∈b.c,∀g:sH Int Tm->OS S,dk q vb db y v (d+av t.k) g=g (pE (uA vb db v (d+av t.k) y)):=fun b hb y x g=>
   F b hb y x ((B.bi hb).2 y x) ((z.bi hb).2 y x) g (hf _ (b8 hb x)) (by have:=b8 hb x;unfold VP;omega)
  have h1:=fun r2 b1=>ae3 (r2:=r2) (b1:=b1) J I B A (show 0<=d/\d<4611686018427387904 by omega) (show 0<=v/\v<4611686018427387904 by omega) hQ M t.c [] q [] rfl (by omega) rfl
  have h0: ∀r2 b1,uJ (dk q) q I vb db t r2 v d q b1=SA (dk q) q I vb db t b1 r2 v d q [] 0:=by
   intro r2 b1
   have: ∀j,j=L+1->uJ (dk q) q I vb db t r2 v d j b1=SA (dk q) q I vb db t b1 r2 v d q [] 0:=by rintro j rfl;rfl
   grind
  have h2: ∀r2 b1,uJ (dk q) q I vb db t r2 v d q b1=_:=fun r2 b1=>(h0 r2 b1).trans (h1 r2 b1)
  have qR:=Ru (S:=S) J (a:=vb) o4 o5 (show aG d by unfold aG;omega) A
  simp only [dk,HY,ag J,qR,ij,h2,List.length_nil,An]
  rw [Qx _ I,Fh]
  unfold aG at Y
  by_cases hc:t.k=1
  ·have hr:=z.no.2.1 hc
   rw [hr,Bt,aP,hc,show ((1:Int)==1)=true from rfl,ae,aY]
   by_cases hn:t.n>=v
   ·rw [if_pos hn,xi (n:=1000000000-vb) (by omega) (by omega),aY]
    by_cases hb:t.n>1000000000-vb
    ·rw [if_pos hb,if_pos (show (1:Int)=1/\t.n>=v/\t.n>1000000000-vb from ⟨rfl,hn,hb⟩)];rfl
    grind [AS,xi,aP]
   grind [AS,aP]
  ·have O:(t.k==1)=false:=by grind
   rw [O,if_neg (show ¬ (t.k=1/\t.n>=v/\t.n>1000000000-vb) from fun h=>hc h.1)]
   simp_all [n3,AS,aP]
section
variable {hd:Tm->Int->Int->Int->Int->(Tm->OS S)->OS S} {vb db v d:Int} {t:Tm}
theorem wx {z:LC×Int} {α:Type} (f:LC->α) (g:Int->α):ab (!(z.2==0)) (g z.2) (f z.1)=eE (NF z) f g:=by
 rw [bG]
 unfold NF
 by_cases h:z.2=0
 ·rw [decide_eq_true h,if_pos h];rfl
 ·rw [decide_eq_false h,if_neg h];rfl
end
theorem Iz {t:Tm} (h:bw t=0):am t<=200/\au t<=20000/\rP false (-1) 24 t=true:=by
 grind [bw]
theorem pS {t:Tm} (h1:am t<=200) (h2:au t<=20000) (h:rP false (-1) 24 t=true):bw t=0:=by
 grind [bw]
theorem Et (t:Tm):0<=bw t/\bw t<=1000:=by
 grind [bw]
def Fm (t:Tm):Prop:=p9 t/\bw t=0
theorem Fm.ok {t:Tm} (h:Fm t):p9 t:=h.1
theorem Fm.rows {t:Tm} (h:Fm t):q7 t:=ZA t h.1 (Iz h.2).2.2
theorem Fm.dep {t:Tm} (h:Fm t):am t<=200:=(Iz h.2).1
theorem Fm.eO {t:Tm} (h:Fm t):au t<=20000:=(Iz h.2).2.1
theorem jr {vb db v d:Int} (j:0<=vb/\vb<=1000000000) {t t':Tm} (h:Fm t) (hl:uA vb db v d t= .ok t'):Fm t':=by
 obtain ⟨h1,h2,x,q⟩:=uP j.1 j.2 t v d t' hl
 obtain ⟨a,b,c⟩:=Iz h.2
 have:=q h.1
 exact ⟨this.1,pS (by omega) (by omega) (this.2.2 24 24 (by omega) (by omega) c)⟩
abbrev F3 (k:Nat):Prop:=4294968296<=k
theorem F3.fu (h:F3 k):Fu k:=by omega
theorem F3.fd (h:F3 k) {n:Nat} (hn:n<=1000):Fd k n:=by omega
theorem Fm.fd {t:Tm} (h:Fm t) (hk:F3 k):Fd k (am t):=hk.fd (by have:=h.dep;omega)
theorem Fm.vp {t:Tm} (h:Fm t) {v d:Int} (hv:0<=v/\v<=4611686018427380000) (hd:0<=d/\d<=4611686018427380000):VP v d (am t):=by have:=h.dep;unfold VP;omega
theorem ME (x:Except Int Tm) (I:Tm×Int->OS S):I (tE x)=eE x (fun t=>I (t,0)) fun e=>I (pX,e):=by cases x<;>rfl
theorem aeU (hk:Fu k) (I:Tm×Int->OS S) {c0 c2:Int} {c1:Tm} {ns:List Int} (hl:ns.length<1000) (hn: ∀x∈ns,0<=x):
  ∀ (r p:List Int) (m:Nat),ns=p++r->r.length<m->nC k I c0 c1 c2 ns m (p.length:Int)=yX k c0 c1 c2 fun j=>sH.elim j (fun j=>I (j,0)) fun A=>I (pX,A):=by
 intro r
 induction r with
 |nil=>
  intro p m h q
  obtain ⟨m,rfl,z⟩:=qI q
  simp only [nC,xa,zt h,n3,ag hk,ar];rfl
 |cons x r B=>
  intro p m h q
  obtain ⟨m,rfl,z⟩:=qI q
  obtain ⟨E,F,J,L⟩:=sX h (by omega)
  have M:=hn x (by grind)
  grind [nC,xa,aY]
theorem Rr (hk:F3 k) {t:Tm} (h:Fm t) {f b:Int} (hf:0<=f/\f<=24) (hb:0<=b/\b<9223372036854775808) (I:Tm×Int->OS S):lv k t f b I=I (tE (uA 0 b 0 f t)):=by
 have hl:=aeU hk.fu I (c0:=b) (c2:=f) (c1:=t) (ns:=[f,b]) (by simp) (by grind) [f,b] [] k rfl (by grind)
 have hl:nC k I b t f [f,b] k 0=_:=hl
 simp only [lv,ag hk.fu,ar,yZ,BQ,E9 h.ok (h.fd hk) (show am t<1099511627776 by have:=h.dep;omega),h.2,hl,yX]
 rw [show ((0:Int)==0)=true from rfl,xJ,n3,if_neg (by omega),r9 (by omega) (by unfold aG;omega) t h.ok h.rows _ (h.fd hk) (h.vp (by omega) (by omega)),ij,ME _ I]
 rfl
def J6 (vb db:Int) (t:Tm):Except Int Tm:=bE (uA vb 0 0 0 t) (uA 0 db 0 0)
theorem mD {vb db:Int} (j:0<=vb/\vb<=1000000000) {t t':Tm} (h:Fm t) (hl:J6 vb db t= .ok t'):Fm t':=by
 obtain ⟨a,h1,h2⟩:=i8 hl
 exact jr (by omega) (jr j h h1) h2
theorem zn {vb db:Int} {t:Tm} {e:Int} (h:J6 vb db t= .error e):0<e/\e<=1000:=by
 rcases be h with h|⟨a,_,h⟩
 ·exact Rz t h
 ·exact Rz a h
theorem aeV (hk:Fu k) (I:Tm×Int->OS S) {c0 c1:Int} {c2:Tm} {ns:List Int} (hl:ns.length<1000) (hn: ∀x∈ns,0<=x):
  ∀ (r p:List Int) (m:Nat),ns=p++r->r.length<m->nE k I c0 c1 c2 ns m (p.length:Int)=yW k c0 c1 c2 fun j=>sH.elim j (fun j=>I (j,0)) fun A=>I (pX,A):=by
 intro r
 induction r with
 |nil=>
  intro p m h q
  obtain ⟨m,rfl,z⟩:=qI q
  simp only [nE,xd,zt h,n3,ag hk,ar];rfl
 |cons x r B=>
  intro p m h q
  obtain ⟨m,rfl,z⟩:=qI q
  obtain ⟨E,F,J,L⟩:=sX h (by omega)
  have M:=hn x (by grind)
  grind [nE,xd,aY]
theorem He (hk:F3 k) {t:Tm} (h:Fm t) {vb db:Int} (q:0<=vb/\vb<=1000000) (x:0<=db/\db<9223372036854775808) (I:Tm×Int->OS S):lu k t vb db I=I (tE (J6 vb db t)):=by
 have hl:=aeV hk.fu I (c0:=db) (c1:=vb) (c2:=t) (ns:=[vb,db,1000000-vb]) (by simp) (by grind) [vb,db,1000000-vb] [] k rfl (by grind)
 have hl:nE k I db vb t [vb,db,1000000-vb] k 0=_:=hl
 simp only [lu,ag hk.fu,ar,xi (n:=1000000-vb) (by omega) (by omega),y7,BS,E9 h.ok (h.fd hk) (show am t<1099511627776 by have:=h.dep;omega),h.2,hl,yW]
 rw [show ((0:Int)==0)=true from rfl,xJ,n3,r9 (show 0<=vb/\vb<=1000000000 by omega) (show aG 0 by unfold aG;omega) t h.ok h.rows _ (h.fd hk) (h.vp (by omega) (by omega)),ij,ME _ I]
 unfold J6
 rw [AS]
 refine Hg (fun y z=> ?_) fun _ _=>rfl
 have j:=jr (show 0<=vb/\vb<=1000000000 by omega) h z
 rw [r9 (show (0:Int)<=0/\(0:Int)<=1000000000 by omega) (show aG db by unfold aG;omega) y j.ok j.rows _ (j.fd hk) (j.vp (by omega) (by omega)),ij]
 rfl
def uM (i:Int) (r:LC) (fa:Bool):dC:=fun d f=>if bP (ie f) (i+d) then bE (NF (ua r 0 d)) fun s=>NF (if fa then iG f (i+d) s else iH f (i+d) s) else .ok f
theorem D5 (f:LC):DR (ie f):=by
 have:=D6 f
 exact ⟨Int.natCast_nonneg _,by show ((fS f:Nat):Int)<_;omega⟩
theorem ahR {f r:LC} {i:Int} (j:aq r) (h:(iH f i r).2=0):RF (iH f i r).1:=by
 grind [iH,KG,N5,M9,rA]
theorem azH (f g:LC):EN (KZ f g).2:=bF _
theorem ES (f g:LC):EN (K0 f g).2:=bF _
theorem agF (f g:LC):EN (SK f g).2:=bF _
theorem NM (f:LC):EN (H7 f).2:=z8 fun h c=>azH _ _
theorem ahH (i:Int) (r:LC) (c:Cl):EN (d_ i r c).2:=by
 grind [d_,azH,uq]
theorem ahJ (i:Int) (r:LC) (c:Cl) (g:LC):EN (RA i r c g).2:=by
 grind [RA,azH,NM,uq]
theorem ahG (i:Int) (r h:LC) (c:Cl):EN (dY i r h c).2:=by
 grind [dY,ES,ahJ,ahH]
theorem ahQ (f:LC) (i:Int) (r:LC):EN (iH f i r).2:=by
 grind [iH,z8,ahG,lO]
theorem agW (f:LC):EN (No f).2:=by
 unfold No
 split
 ·exact bF _
 ·exact lO
theorem agX (f:LC):EN (RM f).2:=by
 unfold RM
 split
 ·split
  ·exact bF _
  ·exact NM _
 ·exact lO
theorem ahM {i:Int} {c:Cl} {h:LC} {q:LC×Int} (j:EN q.2):EN (MV i c h q).2:=by
 grind [MV,ES,agF]
theorem ahN (f:LC) (i:Int) (r:LC):EN (iG f i r).2:=by
 grind [iG,z8,K3,ahM,agW,agX,ES,lO]
theorem rB {i:Int} {r:LC} {fa:Bool} {d:Int} {f g:LC} (hf:RF f) (h:uM i r fa d f= .ok g):RF g:=by
 unfold uM at h
 split at h
 ·obtain ⟨s,h1,h⟩:=i8 h
  obtain ⟨j,rfl⟩:=rR h1
  have hs:=kQ j
  obtain ⟨h2,rfl⟩:=rR h
  cases fa with
  |true=>exact (ahO hf.2 hs.2 h2).1
  |false=>exact ahR hs.2 h2
 grind
theorem Bu {i:Int} {r:LC} {fa:Bool} {d:Int} {f:LC} {e:Int} (h:uM i r fa d f= .error e):0<e/\e<=1000:=by
 grind [uM,be,Km,q_,EN,ahN,ahQ]
theorem QI {i:Int} {r:LC} {fa:Bool} {d:Int}:uM i r fa d []= .ok []:=by
 grind [uM,bP,ie,HV,D7,jJ]
def Tg (i:Int) (r:LC) (fa:Bool) (d:Int) (f:LC):LC×Int:=if bP (ie f) (i+d) then if (ua r 0 d).2=0 then if fa then iG f (i+d) (ua r 0 d).1 else iH f (i+d) (ua r 0 d).1 else ([],(ua r 0 d).2) else (f,0)
theorem oJ (i:Int) (r:LC) (fa:Bool) (d:Int) (f:LC):NF (Tg i r fa d f)=uM i r fa d f:=by
 grind [Tg,uM,jF,aD,iO,lk]
section
variable {i d:Int} {r f:LC}
theorem RS (hk:Fu k) (hf:RF f) (j:RF r) (q:0<=i/\i<24) (hd:0<=d/\d<4611686018427387000) (I:LC×Int->OS S):tF k f d i r I=I (Tg i r true d f):=by
 have x:=hf.len;have z:=j.len
 simp only [tF,ag hk,xi (n:=i+d) (by omega) (by omega),Ha hk hf.2 (show f.length<4294967296 by omega),rF hk (D5 f),tD,J5 (show 0+f.length<=1099511627776 by omega),vX hk j.2 (show r.length<1073741824 by omega) (show aG 0 by unfold aG;omega) (show aG d by unfold aG;omega)]
 unfold Tg
 cases bP (ie f) (i+d) with
 |false=>rfl
 |true=>
  rw [xJ,n3,bG,if_pos rfl]
  by_cases h:(ua r 0 d).2=0
  ·have hs:=kQ h
   rw [decide_eq_true h,xJ,n3,aje hk hf.2 hs.2 hf.lt hs.lt,if_pos h,if_pos rfl]
  grind [ae]
theorem ajW (hk:Fu k) (hf:RF f) (j:RF r) (q:0<=i/\i<24) (hd:0<=d/\d<4611686018427387000) (I:LC×Int->OS S):yF k f d i r I=I (Tg i r false d f):=by
 have x:=hf.len;have z:=j.len
 simp only [yF,ag hk,xi (n:=i+d) (by omega) (by omega),Ha hk hf.2 (show f.length<4294967296 by omega),rF hk (D5 f),tD,J5 (show 0+f.length<=1099511627776 by omega),vX hk j.2 (show r.length<1073741824 by omega) (show aG 0 by unfold aG;omega) (show aG d by unfold aG;omega)]
 unfold Tg
 cases bP (ie f) (i+d) with
 |false=>rfl
 |true=>
  rw [xJ,n3,bG,if_pos rfl]
  by_cases h:(ua r 0 d).2=0
  ·have hs:=kQ h
   rw [decide_eq_true h,xJ,n3,ajb hk hf.2 hs.2 hf.lt hs.lt,if_pos h,if_neg (by decide)]
  grind [ae]
end
def jU (j:Int) (c:Cl):Cl:=⟨pI c.pos j,pI c.neg j⟩
def vj (j:Int) (f:LC):LC:=(bp (f.map (jU j))).1
theorem JR (s j:Int):0<=pI s j/\pI s j<16777216:=by
 have:=aam s.toNat j
 exact ⟨Int.natCast_nonneg _,by show ((j7 s.toNat j:Nat):Int)<_;omega⟩
theorem DA (j:Int) (c:Cl):RC (jU j c):=⟨JR _ _,JR _ _⟩
theorem DD (j:Int) (f:LC): ∀c∈f.map (jU j),RC c:=fun c hc=>by
 grind [DA]
theorem DC {j:Int} {f:LC} (hf:f.length<=64):bp (f.map (jU j))=(vj j f,0):=Prod.ext rfl (LH (DD j f) (by grind))
theorem h3 {j:Int} {f:LC} (hf:f.length<=64):RF (vj j f):=qX (fun c hc=>(DD j f c hc).ok) (by rw [DC hf])
theorem agO: ∀ (n:Nat) {l:LC} {c:Cl},(l.filter fun d=>dR c d&& !decide (d=c)).length<=n->(∀d∈l,RC d)->c∈l-> ∃d∈l,ce l d=true:=by
 have hle: ∀ {a b:Cl},RC a->RC b->(dR a b=true↔(∀j,b.pos.toNat.testBit j=true->a.pos.toNat.testBit j=true)/\ ∀j,b.neg.toNat.testBit j=true->a.neg.toNat.testBit j=true):=by
  intro a b ha hb
  unfold dR d9
  rw [decide_eq_true_eq]
  have O: ∀ {x y:Int},0<=x->(ep x y=x↔ ∀j,y.toNat.testBit j=true->x.toNat.testBit j=true):=by
   intro x y B
   unfold ep
   constructor
   ·intro h j hj
    have:(x.toNat|||y.toNat)=x.toNat:=by omega
    grind
   ·intro h
    have:(x.toNat|||y.toNat)=x.toNat:=by
     apply Nat.eq_of_testBit_eq
     grind
    omega
  cases a with
  |mk p q=>
   have h1:0<=p:=ha.1.1
   have h2:0<=q:=ha.2.1
   grind
 have E: ∀ {a b:Cl},RC a->RC b->dR a b=true->dR b a=true->a=b:=by
  intro a b ha hb h1 h2
  have J:=(hle ha hb).1 h1
  have L:=(hle hb ha).1 h2
  have B: ∀ {x y:Int},0<=x->0<=y->(∀j,y.toNat.testBit j=true->x.toNat.testBit j=true)->(∀j,x.toNat.testBit j=true->y.toNat.testBit j=true)->x=y:=by
   intro x y B hy a b
   have:x.toNat=y.toNat:=by
    apply Nat.eq_of_testBit_eq
    grind
   omega
  cases a;cases b
  have p1:=B ha.1.1 hb.1.1 J.1 L.1
  have p2:=B ha.2.1 hb.2.1 J.2 L.2
  grind
 intro n
 induction n with
 |zero=>
  grind [ce,List.filter_eq_nil_iff]
 |succ n T=>
  intro l c hn hl hc
  by_cases h:ce l c=true
  ·grind
  ·unfold ce at h
   rw [zf] at h
   have: ∃d∈l,¬ ((decide (d=c)|| !dR c d)=true):=Classical.byContradiction fun W=>h fun d hd=>Classical.byContradiction fun h2=>W ⟨d,hd,h2⟩
   obtain ⟨d,hd,F⟩:=this
   have h1:d≠c:=fun h=>F (by grind)
   have h2:dR c d=true:=by
    grind
   refine T (c:=d) ?_ hl hd
   have M:(l.filter fun e=>dR d e&& !decide (e=d)).length<(l.filter fun e=>dR c e&& !decide (e=c)).length:=by
    have Y:=hl c hc;have ad:=hl d hd
    have himp: ∀e∈l,(dR d e&& !decide (e=d))=true->(dR c e&& !decide (e=c))=true:=by
     grind
    have A: ∀ (p q:Cl->Bool) (m:LC),(∀e∈m,p e=true->q e=true)->(m.filter p).length<=(m.filter q).length:=by
     intro p q m
     induction m<;>grind
    have I: ∀ (p q:Cl->Bool) (m:LC),(∀e∈m,p e=true->q e=true)->d∈m->p d=false->q d=true->(m.filter p).length<(m.filter q).length:=by
     intro p q m
     induction m with
     |nil=>simp
     |cons e m im=>
      intro hm hdm hp hq
      have z: ∀e∈m,p e=true->q e=true:=fun e he=>hm e (by simp [he])
      have hb:=A p q m z
      rcases BB.1 hdm with rfl|hdm<;>grind
    exact I _ _ l himp hd (by simp) (by grind)
   omega
theorem JE {j:Int} {f:LC} (hf:RF f):(vj j f).length=0↔f.length=0:=by
 have h:=DC (j:=j) hf.len
 have z:=(As h).1
 constructor
 ·intro q
  apply Classical.byContradiction
  intro x
  obtain ⟨c,hc⟩:=List.exists_mem_of_length_pos (l:=f.map (jU j)) (by grind)
  obtain ⟨d,hd,hn⟩:=agO _ (zk _) (DD j f) hc
  have:d∈vj j f:=by grind [uc]
  grind
 ·intro q
  have:=L3.1 q
  subst this;rfl
theorem aeC (hk:Fu k) (I:LC×Int->OS S) {i d:Int} (O:0<=i/\i<24) (hd:0<=d/\d<4611686018427387000) {f:LC} (hf:aq f) (hlen:f.length<1073741824):
  ∀ (r p:LC) (m:Nat) (o:LC),f=p++r->r.length<m->aq o->o.length=p.length->vy k I i d f m (p.length:Int) o=I (bp (o++r.map (jU (i+d)))):=by
 intro r
 induction r with
 |nil=>
  intro p m o h z j ho
  obtain ⟨m,rfl,q⟩:=qI z
  grind [vy,wN,n3,ag,kX]
 |cons x r B=>
  intro p m o h z j ho
  obtain ⟨m,rfl,q⟩:=qI z
  obtain ⟨E,F,J,L⟩:=sX h (by omega)
  have A:aX x:=hf x (by grind)
  have M:p.length<f.length:=by grind
  simp only [vy,wN,E,ae,F,rf,ag hk,xi (n:=i+d) (by omega) (by omega),Q4 hk A.1,Q4 hk A.2,J]
  rw [J5 (by grind)]
  have:=B (p++[x]) m (o++[jU (i+d) x]) L q (Sj j fun c hc=>by simp at hc;subst hc;exact (DA _ _).ok) (by grind)
  refine qy this ?_
  simp
theorem Rl (hk:Fu k) {i d:Int} (h:0<=i/\i<24) (hd:0<=d/\d<4611686018427387000) {f:LC} (hf:RF f) (I:LC×Int->OS S):pc k f d i I=I (vj (i+d) f,0):=by
 have j:=hf.len
 have:=aeC hk I h hd hf.2 (by omega) f [] k [] rfl (by omega) (fun c hc=>by cases hc) rfl
 grind [pc,Hx,DC]
theorem B4 (fo fa:dC) (d:Int) (t:Tm):w5 fo fa d t=bE (if t.k=14 then fa d t.r else fo d t.r) fun q=>bE (aig fo fa d t.k 0 t.c) fun j=>bE (vn fo fa d t.k t.s) fun h=> .ok (.mk t.k t.n t.name q j h):=by cases t;rfl
theorem Ja {fo fa:dC} {d:Int} {x y:Tm} (h:w5 fo fa d x= .ok y):y.k=x.k:=by
 rw [B4] at h
 obtain ⟨_,_,h⟩:=i8 h
 obtain ⟨_,_,h⟩:=i8 h
 obtain ⟨_,_,h⟩:=i8 h
 injection h with h;subst h;rfl
theorem B3 (fo fa:dC) (d kd:Int) (b:Br Tm):L6 fo fa d kd b=bE (fa d b.f) fun j=>if j.length=0 then .ok [] else bE (xY fo fa d kd b.c) fun h=> .ok [.mk j h]:=by cases b;rfl
section
variable {fo fa:dC} (hfo: ∀d f e,fo d f= .error e->0<e/\e<=1000) (hfa: ∀d f e,fa d f= .error e->0<e/\e<=1000)
include hfo hfa
theorem jK (t:Tm): ∀ {d e},w5 fo fa d t= .error e->0<e/\e<=1000:=by
 induction t using gq with
 |h kd n I r J sys B E=>
  intro d e h
  rw [w5] at h
  rcases be h with h|⟨_,_,h⟩
  ·grind
  have j: ∀ {l:LT} {i:Nat},(∀x∈l,∀ {d e},w5 fo fa d x= .error e->0<e/\e<=1000)->aig fo fa d kd i l= .error e->0<e/\e<=1000:=by
   intro l
   induction l with
   |nil=>grind [aig]
   |cons t l z=>
    intro i hl h
    rw [aig] at h
    rcases be h with h|⟨_,_,h⟩
    ·exact hl t (by simp) h
    grind [be]
  have q: ∀ {l:LT},(∀x∈l,∀ {d e},w5 fo fa d x= .error e->0<e/\e<=1000)-> ∀ {e},xY fo fa d kd l= .error e->0<e/\e<=1000:=by
   intro l
   induction l with
   |nil=>grind [xY]
   |cons t l z=>
    intro hl e h
    rw [xY] at h
    rcases be h with h|⟨_,_,h⟩
    ·grind
    ·rcases be h with h|⟨_,_,h⟩
     ·exact z (fun x F=>hl x (by simp [F])) h
     simp_all
  have A: ∀ {l:LB},(∀b∈l,∀x∈b.c,∀ {d e},w5 fo fa d x= .error e->0<e/\e<=1000)->vn fo fa d kd l= .error e->0<e/\e<=1000:=by
   intro l
   induction l<;>grind [vn,be,B3]
  grind [be]
theorem Ug {kd d:Int}: ∀ {l:LT} {i:Nat} {e:Int},aig fo fa d kd i l= .error e->0<e/\e<=1000:=by
 intro l
 induction l with
 |nil=>grind [aig]
 |cons t l j=>
  intro i e h
  rw [aig] at h
  rcases be h with h|⟨_,_,h⟩
  ·exact jK hfo hfa t h
  grind [be]
theorem Uh {kd d:Int}: ∀ {l:LT} {e:Int},xY fo fa d kd l= .error e->0<e/\e<=1000:=by
 intro l
 induction l<;>grind [xY,be,jK]
end
theorem n2 {α β:Type} (x:Except Int Tm) (h: ∀e,x= .error e->0<e/\e<=1000) (f:Tm->α) (g:Int->α):(fun r:Tm×Int=>ab (!(r.2==0)) (g r.2) (f r.1)) (tE x)=eE x f g:=by
 cases x with
 |ok t=>rfl
 |error e=>
  have:=(h e rfl).1
  show ab (!(e==0)) (g e) (f pX)=g e
  grind [decide_eq_false,ae]
theorem AM {α β γ:Type} (x:Except Int α) (h: ∀e,x= .error e->0<e/\e<=1000) (z:α) (f:α->β) (g:Int->β):eE x (fun l=>(fun r:α×Int=>ab (!(r.2==0)) (g r.2) (f r.1)) (l,0)) (fun e=>(fun r:α×Int=>ab (!(r.2==0)) (g r.2) (f r.1)) (z,e))=eE x f g:=by
 cases x with
 |ok t=>rfl
 |error e=>
  have:=(h e rfl).1
  show ab (!(e==0)) (g e) (f z)=g e
  grind [decide_eq_false,ae]
theorem mo {G:Int->LC->LC}: ∀d f e,j0 G d f= .error e->0<e/\e<=1000:=fun d f e h=>by cases h
theorem jD {i:Int} {r:LC} {fa:Bool}: ∀d f e,uM i r fa d f= .error e->0<e/\e<=1000:=fun d f e h=>Bu h
section
variable {hd:Tm->Int->Int->LC->(Tm×Int->OS S)->OS S} {i d:Int} {t:Tm} {r:LC}
theorem ahV (hk:Fu k) (x:0<=i/\i<24) (A:RF r) (B:0<=d/\d<4611686018427386000) (q:q7 t) (I:LC×Int->OS S): ∃z:LC×Int,NF z=(if t.k=14 then (uM i r true) d t.r else (uM i r false) d t.r)/\yG k t d i r I=I z:=by
 have j:=q.no.1
 simp only [yG,ag hk,RS hk j A x (show 0<=d/\d<4611686018427387000 by omega),ajW hk j A x (show 0<=d/\d<4611686018427387000 by omega)]
 by_cases h:t.k=14
 ·rw [h,if_pos rfl,show ((14:Int)==14)=true from rfl,ae]
  grind [oJ]
 ·rw [if_neg h,show (t.k==14)=false from by grind,n3]
  grind [oJ]
theorem ahS (hk:Fu k) (I:LT×Int->OS S) (A:0<=d/\d<4611686018427386000) (B: ∀y∈t.c,∀b,0<=b/\b<=1-> ∀g,hd y (d+b) i r g=g (tE (w5 (uM i r false) (uM i r true) (d+b) y))) (hl:t.c.length<1073741824):
  ∀ (j p:LT) (m:Nat) (acc:LT),t.c=p++j->j.length<m->acc.length=p.length->
  lX hd k I i r t t.c d m acc (p.length:Int)=eE (aig (uM i r false) (uM i r true) d t.k p.length j) (fun l=>I (acc++l,0)) fun e=>I ([],e):=by
 intro j
 induction j with
 |nil=>
  grind [qI,lX,wR,n3,aig,aP]
 |cons y j E=>
  intro p m acc h F ha
  obtain ⟨m,rfl,q⟩:=qI F
  obtain ⟨J,L,M,O⟩:=sX h (by omega)
  have T:p.length<t.c.length:=by grind
  have x:=gr t.k p.length
  have W:=B y (by grind) (bJ t.k p.length) x
  simp only [lX,wR,J,ae,L,rf,ag hk,tG,jE,ar,xi (n:=d+bJ t.k p.length) (by omega) (by omega),W]
  refine qy (n2 (β:=Unit) _ (fun e he=>jK jD jD y he) (fun z=>pA (aw 1099511627776 acc.length [z].length) fun _=>lX hd k I i r t t.c d m (acc++[z]) (p5 .i64 ((p.length:Int)+1))) fun e=>I ([],e)) ?_
  simp only [aig,AS,aP]
  refine Hg (fun Y ad=> ?_) fun e _=>rfl
  rw [J5 (by grind),M,E (p++[y]) m (acc++[Y]) O q (by grind),show (p++[y]).length=p.length+1 by simp]
  simp
theorem ahT (hk:Fu k) (I:LT×Int->OS S) {x:Br Tm} {kd:Int} (A:0<=d/\d<4611686018427386000) (B: ∀y∈x.c,∀g,hd y (d+av kd) i r g=g (tE (w5 (uM i r false) (uM i r true) (d+av kd) y))) (hl:x.c.length<1073741824):
  ∀ (j p:LT) (m:Nat) (acc:LT),x.c=p++j->j.length<m->acc.length=p.length->
  lW hd k I i r (av kd) x.c d m acc (p.length:Int)=eE (xY (uM i r false) (uM i r true) d kd j) (fun l=>I (acc++l,0)) fun e=>I ([],e):=by
 have E:=IB kd
 intro j
 induction j with
 |nil=>
  grind [qI,lW,wQ,n3,xY,aP]
 |cons y j F=>
  intro p m acc h J ha
  obtain ⟨m,rfl,q⟩:=qI J
  obtain ⟨L,M,O,T⟩:=sX h (by omega)
  have W:p.length<x.c.length:=by grind
  have Y:=B y (by grind)
  simp only [lW,wQ,L,ae,M,rf,ag hk,tH,ar,xi (n:=d+av kd) (by omega) (by omega),Y]
  refine qy (n2 (β:=Unit) _ (fun e he=>jK jD jD y he) (fun z=>pA (aw 1099511627776 acc.length [z].length) fun _=>lW hd k I i r (av kd) x.c d m (acc++[z]) (p5 .i64 ((p.length:Int)+1))) fun e=>I ([],e)) ?_
  simp only [xY,AS,aP]
  refine Hg (fun t' ad=> ?_) fun e _=>rfl
  rw [J5 (by grind),O,F (p++[y]) m (acc++[t']) T q (by grind)]
  simp
theorem ahU (hk:Fu k) (I:Tm×Int->OS S) (hi:0<=i/\i<24) (hr:RF r) (F:0<=d/\d<4611686018427386000) {r1:LC×Int} {r2:LT×Int} (Y:p9 t) (J:q7 t) (hQ: ∀b∈t.s,∀y∈b.c,∀g,hd y (d+av t.k) i r g=g (tE (w5 (uM i r false) (uM i r true) (d+av t.k) y))):
  ∀ (A p:LB) (m:Nat) (o:LB),t.s=p++A->A.length<m->o.length<=p.length->
  fV hd k I i r t r1 r2 d m (av t.k) o (p.length:Int)=eE (vn (uM i r false) (uM i r true) d t.k A) (fun s=>I (.mk t.k t.n t.name r1.1 r2.1 (o++s),0)) fun e=>I (pX,e):=by
 obtain ⟨o1,o2,o3,o4,o5,o6,o7⟩:=Y.no
 intro A
 induction A with
 |nil=>
  grind [qI,fV,wS,n3,vn,aP]
 |cons x A ih=>
  intro p m o h L ho
  obtain ⟨m,rfl,B⟩:=qI L
  obtain ⟨e1,e2,e3,e4⟩:=sX h (by omega)
  have M:x∈t.s:=by grind
  have ad:p.length<t.s.length:=by grind
  have hb:=(Y.bi M).1
  have O:=(J.bi M).1
  have T:=fun g:LT×Int->OS S=>ahT (kd:=t.k) hk g F (hQ x M) hb.2.2 x.c [] k [] rfl (by omega) rfl
  have T: ∀g:LT×Int->OS S,lW hd k g i r (av t.k) x.c d k [] 0=_:=T
  simp only [fV,wS,e1,ae,e2,rf,ag hk,RS hk O hr hi (show 0<=d/\d<4611686018427387000 by omega),DK,HB,T,e3,An]
  have W:=fun j:LC=>AM (β:=OS S) (γ:=Unit) (xY (uM i r false) (uM i r true) d t.k x.c) (fun e he=>Uh jD jD he) [] (fun l=>pA (aw 1099511627776 o.length [Br.mk j l].length) fun _=>fV hd k I i r t r1 r2 d m (av t.k) (o++[Br.mk j l]) (((p++[x]).length:Nat):Int)) fun e=>I (pX,e)
  refine qy (wx (z:=(Tg i r true d x.f)) (fun j=>ab (((j.length:Nat):Int)==0) (fV hd k I i r t r1 r2 d m (av t.k) o (((p++[x]).length:Nat):Int)) (eE (xY (uM i r false) (uM i r true) d t.k x.c) (fun l=>(fun q:LT×Int=>ab (!(q.2==0)) (I (pX,q.2)) (pA (aw 1099511627776 o.length [Br.mk j q.1].length) fun _=>fV hd k I i r t r1 r2 d m (av t.k) (o++[Br.mk j q.1]) (((p++[x]).length:Nat):Int))) (l,0)) fun e=>(fun q:LT×Int=>ab (!(q.2==0)) (I (pX,q.2)) (pA (aw 1099511627776 o.length [Br.mk j q.1].length) fun _=>fV hd k I i r t r1 r2 d m (av t.k) (o++[Br.mk j q.1]) (((p++[x]).length:Nat):Int))) ([],e))) fun e=>I (pX,e)) ?_
  rw [show NF (Tg i r true d x.f)=(uM i r true) d x.f from oJ _ _ _ _ _]
  rw [vn,B3,AS,AS]
  refine Hg (fun j ao=> ?_) fun e _=>rfl
  rw [qY,aY]
  by_cases E:j.length=0
  ·rw [if_pos E,if_pos E,aP,AS,ih (p++[x]) m o e4 B (by grind)]
   rfl
  ·rw [if_neg E,if_neg E,W j,AS]
   refine Hg (fun l hl=> ?_) fun e _=>rfl
   rw [aP,AS,J5 (by grind),ih (p++[x]) m (o++[Br.mk j l]) e4 B (by grind)]
   grind [aP]
end
theorem ahW {i:Int} {r:LC} (T:0<=i/\i<24) (W:RF r) (t:Tm):p9 t->q7 t-> ∀ {k:Nat} {d:Int} (I:Tm×Int->OS S),Fd k (am t)->0<=d->d+am t<4611686018427386000->d7 k t d i r I=I (tE (w5 (uM i r false) (uM i r true) d t)):=by
 induction t using c7 with
 |h t L M=>
  intro E x k d I hk hv ad
  obtain ⟨q,rfl,F,hf⟩:=hk.pos' (HX t)
  have hp:=HX t
  have A:0<=d/\d<4611686018427386000:=by omega
  obtain ⟨o1,o2,o3,o4,o5,o6,o7⟩:=E.no
  have ao:=IB t.k
  have hQ: ∀y∈t.c,∀b,0<=b/\b<=1-> ∀g:Tm×Int->OS S,d7 q y (d+b) i r g=g (tE (w5 (uM i r false) (uM i r true) (d+b) y)):=fun y j b h2 g=>
   L y j (E.ki j) (x.ki j) g (hf _ (bY j)) (by omega) (by have:=bY j;omega)
  have O: ∀b∈t.s,∀y∈b.c,∀g:Tm×Int->OS S,d7 q y (d+av t.k) i r g=g (tE (w5 (uM i r false) (uM i r true) (d+av t.k) y)):=fun b hb y j g=>
   M b hb y j ((E.bi hb).2 y j) ((x.bi hb).2 y j) g (hf _ (b8 hb j)) (by omega) (by have:=b8 hb j;omega)
  have hK: ∀g:LT×Int->OS S,lX (d7 q) q g i r t t.c d q [] 0=_:=fun g=>ahS F g A hQ o6 t.c [] q [] rfl (by omega) rfl
  have Y:=fun (r1:LC×Int) (r2:LT×Int)=>ahU (r1:=r1) (r2:=r2) F I T W A E x O t.s [] q [] rfl (by omega) (zk _)
  have Y: ∀ (r1:LC×Int) (r2:LT×Int),fV (d7 q) q I i r t r1 r2 d q (av t.k) [] 0=_:=Y
  have B: ∀ (r1:LC×Int) (r2:LT×Int),ab (t.k==15) (fV (d7 q) q I i r t r1 r2 d q 1 [] 0) (fV (d7 q) q I i r t r1 r2 d q 0 [] 0)=eE (vn (uM i r false) (uM i r true) d t.k t.s) (fun s=>I (.mk t.k t.n t.name r1.1 r2.1 s,0)) fun e=>I (pX,e):=by
   grind [cH,av]
  obtain ⟨z,hz,qR⟩:=ahV F T W A x (fun r1=>ab (!(r1.2==0)) (I (pX,r1.2)) (eE (aig (uM i r false) (uM i r true) d t.k 0 t.c) (fun l=>(fun r2:LT×Int=>ab (!(r2.2==0)) (I (pX,r2.2)) (eE (vn (uM i r false) (uM i r true) d t.k t.s) (fun s=>I (.mk t.k t.n t.name r1.1 r2.1 s,0)) fun e=>I (pX,e))) (l,0)) fun e=>(fun r2:LT×Int=>ab (!(r2.2==0)) (I (pX,r2.2)) (eE (vn (uM i r false) (uM i r true) d t.k t.s) (fun s=>I (.mk t.k t.n t.name r1.1 r2.1 s,0)) fun e=>I (pX,e))) ([],e)))
  simp only [d7,HF,ag F,ar,DL,HC,hK,B,An,List.length_nil]
  refine qy qR ?_
  rw [ME _ I,B4,<-hz]
  refine qy (wx (z:=z) (fun J=>eE (aig (uM i r false) (uM i r true) d t.k 0 t.c) (fun l=>(fun r2:LT×Int=>ab (!(r2.2==0)) (I (pX,r2.2)) (eE (vn (uM i r false) (uM i r true) d t.k t.s) (fun s=>I (.mk t.k t.n t.name J r2.1 s,0)) fun e=>I (pX,e))) (l,0)) fun e=>(fun r2:LT×Int=>ab (!(r2.2==0)) (I (pX,r2.2)) (eE (vn (uM i r false) (uM i r true) d t.k t.s) (fun s=>I (.mk t.k t.n t.name J r2.1 s,0)) fun e=>I (pX,e))) ([],e)) fun e=>I (pX,e)) ?_
  rw [AS]
  refine Hg (fun J _=> ?_) fun e _=>rfl
  refine qy (AM (β:=OS S) (γ:=Unit) (aig (uM i r false) (uM i r true) d t.k 0 t.c) (fun e he=>Ug jD jD he) [] (fun l=>eE (vn (uM i r false) (uM i r true) d t.k t.s) (fun s=>I (.mk t.k t.n t.name J l s,0)) fun e=>I (pX,e)) fun e=>I (pX,e)) ?_
  simp only [AS,aP]
section
variable {hd:Tm->Int->Int->(Tm×Int->OS S)->OS S} {i d:Int} {t:Tm}
theorem aaq (hk:Fu k) (x:0<=i/\i<24) (A:0<=d/\d<4611686018427386000) (j:q7 t) (I:LC×Int->OS S): ∃z:LC×Int,NF z=(if t.k=14 then (j0 fun d f=>vj (i+d) f) d t.r else (j0 fun d f=>vj (i+d) f) d t.r)/\yH k t d i I=I z:=by
 have q:=j.no.1
 simp only [yH,ag hk,Rl hk x (show 0<=d/\d<4611686018427387000 by omega) q]
 by_cases h:t.k=14
 ·rw [h,if_pos rfl,show ((14:Int)==14)=true from rfl,ae]
  exact ⟨_,rfl,rfl⟩
 ·rw [if_neg h,show (t.k==14)=false from by grind,n3]
  exact ⟨_,rfl,rfl⟩
theorem aan (hk:Fu k) (I:LT×Int->OS S) (A:0<=d/\d<4611686018427386000) (B: ∀y∈t.c,∀b,0<=b/\b<=1-> ∀g,hd y (d+b) i g=g (tE (w5 (j0 fun d f=>vj (i+d) f) (j0 fun d f=>vj (i+d) f) (d+b) y))) (hl:t.c.length<1073741824):
  ∀ (j p:LT) (m:Nat) (acc:LT),t.c=p++j->j.length<m->acc.length=p.length->
  lV hd k I i t t.c d m acc (p.length:Int)=eE (aig (j0 fun d f=>vj (i+d) f) (j0 fun d f=>vj (i+d) f) d t.k p.length j) (fun l=>I (acc++l,0)) fun e=>I ([],e):=by
 intro j
 induction j with
 |nil=>
  grind [qI,lV,wP,n3,aig,aP]
 |cons y j E=>
  intro p m acc h F ha
  obtain ⟨m,rfl,q⟩:=qI F
  obtain ⟨J,L,M,O⟩:=sX h (by omega)
  have T:p.length<t.c.length:=by grind
  have x:=gr t.k p.length
  have W:=B y (by grind) (bJ t.k p.length) x
  simp only [lV,wP,J,ae,L,rf,ag hk,tG,jE,ar,xi (n:=d+bJ t.k p.length) (by omega) (by omega),W]
  refine qy (n2 (β:=Unit) _ (fun e he=>jK mo mo y he) (fun z=>pA (aw 1099511627776 acc.length [z].length) fun _=>lV hd k I i t t.c d m (acc++[z]) (p5 .i64 ((p.length:Int)+1))) fun e=>I ([],e)) ?_
  simp only [aig,AS,aP]
  refine Hg (fun Y ad=> ?_) fun e _=>rfl
  rw [J5 (by grind),M,E (p++[y]) m (acc++[Y]) O q (by grind),show (p++[y]).length=p.length+1 by simp]
  simp
theorem aao (hk:Fu k) (I:LT×Int->OS S) {x:Br Tm} {kd:Int} (A:0<=d/\d<4611686018427386000) (B: ∀y∈x.c,∀g,hd y (d+av kd) i g=g (tE (w5 (j0 fun d f=>vj (i+d) f) (j0 fun d f=>vj (i+d) f) (d+av kd) y))) (hl:x.c.length<1073741824):
  ∀ (j p:LT) (m:Nat) (acc:LT),x.c=p++j->j.length<m->acc.length=p.length->
  lU hd k I i (av kd) x.c d m acc (p.length:Int)=eE (xY (j0 fun d f=>vj (i+d) f) (j0 fun d f=>vj (i+d) f) d kd j) (fun l=>I (acc++l,0)) fun e=>I ([],e):=by
 have E:=IB kd
 intro j
 induction j with
 |nil=>
  grind [qI,lU,wO,n3,xY,aP]
 |cons y j F=>
  intro p m acc h J ha
  obtain ⟨m,rfl,q⟩:=qI J
  obtain ⟨L,M,O,T⟩:=sX h (by omega)
  have W:p.length<x.c.length:=by grind
  have Y:=B y (by grind)
  simp only [lU,wO,L,ae,M,rf,ag hk,tH,ar,xi (n:=d+av kd) (by omega) (by omega),Y]
  refine qy (n2 (β:=Unit) _ (fun e he=>jK mo mo y he) (fun z=>pA (aw 1099511627776 acc.length [z].length) fun _=>lU hd k I i (av kd) x.c d m (acc++[z]) (p5 .i64 ((p.length:Int)+1))) fun e=>I ([],e)) ?_
  simp only [xY,AS,aP]
  refine Hg (fun t' ad=> ?_) fun e _=>rfl
  rw [J5 (by grind),O,F (p++[y]) m (acc++[t']) T q (by grind)]
  simp
theorem aap (hk:Fu k) (I:Tm×Int->OS S) (hi:0<=i/\i<24) (F:0<=d/\d<4611686018427386000) {r1:LC×Int} {r2:LT×Int} (Y:p9 t) (J:q7 t) (hQ: ∀b∈t.s,∀y∈b.c,∀g,hd y (d+av t.k) i g=g (tE (w5 (j0 fun d f=>vj (i+d) f) (j0 fun d f=>vj (i+d) f) (d+av t.k) y))):
  ∀ (A p:LB) (m:Nat) (o:LB),t.s=p++A->A.length<m->o.length<=p.length->
  MZ hd k I i t r1 r2 d m (av t.k) o (p.length:Int)=eE (vn (j0 fun d f=>vj (i+d) f) (j0 fun d f=>vj (i+d) f) d t.k A) (fun s=>I (.mk t.k t.n t.name r1.1 r2.1 (o++s),0)) fun e=>I (pX,e):=by
 obtain ⟨o1,o2,o3,o4,o5,o6,o7⟩:=Y.no
 intro A
 induction A with
 |nil=>
  grind [qI,MZ,wT,n3,vn,aP]
 |cons x A ih=>
  intro p m o h L ho
  obtain ⟨m,rfl,B⟩:=qI L
  obtain ⟨e1,e2,e3,e4⟩:=sX h (by omega)
  have M:x∈t.s:=by grind
  have ad:p.length<t.s.length:=by grind
  have hb:=(Y.bi M).1
  have O:=(J.bi M).1
  have T:=fun g:LT×Int->OS S=>aao (kd:=t.k) hk g F (hQ x M) hb.2.2 x.c [] k [] rfl (by omega) rfl
  have T: ∀g:LT×Int->OS S,lU hd k g i (av t.k) x.c d k [] 0=_:=T
  simp only [MZ,wT,e1,ae,e2,rf,ag hk,Rl hk hi (show 0<=d/\d<4611686018427387000 by omega) O,DI,Hz,T,e3,An]
  have W:=fun j:LC=>AM (β:=OS S) (γ:=Unit) (xY (j0 fun d f=>vj (i+d) f) (j0 fun d f=>vj (i+d) f) d t.k x.c) (fun e he=>Uh mo mo he) [] (fun l=>pA (aw 1099511627776 o.length [Br.mk j l].length) fun _=>MZ hd k I i t r1 r2 d m (av t.k) (o++[Br.mk j l]) (((p++[x]).length:Nat):Int)) fun e=>I (pX,e)
  refine qy (wx (z:=(vj (i+d) x.f,(0:Int))) (fun j=>ab (((j.length:Nat):Int)==0) (MZ hd k I i t r1 r2 d m (av t.k) o (((p++[x]).length:Nat):Int)) (eE (xY (j0 fun d f=>vj (i+d) f) (j0 fun d f=>vj (i+d) f) d t.k x.c) (fun l=>(fun q:LT×Int=>ab (!(q.2==0)) (I (pX,q.2)) (pA (aw 1099511627776 o.length [Br.mk j q.1].length) fun _=>MZ hd k I i t r1 r2 d m (av t.k) (o++[Br.mk j q.1]) (((p++[x]).length:Nat):Int))) (l,0)) fun e=>(fun q:LT×Int=>ab (!(q.2==0)) (I (pX,q.2)) (pA (aw 1099511627776 o.length [Br.mk j q.1].length) fun _=>MZ hd k I i t r1 r2 d m (av t.k) (o++[Br.mk j q.1]) (((p++[x]).length:Nat):Int))) ([],e))) fun e=>I (pX,e)) ?_
  rw [show NF (vj (i+d) x.f,(0:Int))=(j0 fun d f=>vj (i+d) f) d x.f from rfl]
  rw [vn,B3,AS,AS]
  refine Hg (fun j ao=> ?_) fun e _=>rfl
  rw [qY,aY]
  by_cases E:j.length=0
  ·rw [if_pos E,if_pos E,aP,AS,ih (p++[x]) m o e4 B (by grind)]
   rfl
  ·rw [if_neg E,if_neg E,W j,AS]
   refine Hg (fun l hl=> ?_) fun e _=>rfl
   rw [aP,AS,J5 (by grind),ih (p++[x]) m (o++[Br.mk j l]) e4 B (by grind)]
   grind [aP]
end
theorem aar {i:Int} (T:0<=i/\i<24) (t:Tm):p9 t->q7 t-> ∀ {k:Nat} {d:Int} (I:Tm×Int->OS S),Fd k (am t)->0<=d->d+am t<4611686018427386000->dT k t d i I=I (tE (w5 (j0 fun d f=>vj (i+d) f) (j0 fun d f=>vj (i+d) f) d t)):=by
 induction t using c7 with
 |h t L M=>
  intro E x k d I hk hv Y
  obtain ⟨q,rfl,F,hf⟩:=hk.pos' (HX t)
  have hp:=HX t
  have A:0<=d/\d<4611686018427386000:=by omega
  obtain ⟨o1,o2,o3,o4,o5,o6,o7⟩:=E.no
  have ad:=IB t.k
  have hQ: ∀y∈t.c,∀b,0<=b/\b<=1-> ∀g:Tm×Int->OS S,dT q y (d+b) i g=g (tE (w5 (j0 fun d f=>vj (i+d) f) (j0 fun d f=>vj (i+d) f) (d+b) y)):=fun y j b h2 g=>
   L y j (E.ki j) (x.ki j) g (hf _ (bY j)) (by omega) (by have:=bY j;omega)
  have O: ∀b∈t.s,∀y∈b.c,∀g:Tm×Int->OS S,dT q y (d+av t.k) i g=g (tE (w5 (j0 fun d f=>vj (i+d) f) (j0 fun d f=>vj (i+d) f) (d+av t.k) y)):=fun b hb y j g=>
   M b hb y j ((E.bi hb).2 y j) ((x.bi hb).2 y j) g (hf _ (b8 hb j)) (by omega) (by have:=b8 hb j;omega)
  have hK: ∀g:LT×Int->OS S,lV (dT q) q g i t t.c d q [] 0=_:=fun g=>aan F g A hQ o6 t.c [] q [] rfl (by omega) rfl
  have W:=fun (r1:LC×Int) (r2:LT×Int)=>aap (r1:=r1) (r2:=r2) F I T A E x O t.s [] q [] rfl (by omega) (zk _)
  have W: ∀ (r1:LC×Int) (r2:LT×Int),MZ (dT q) q I i t r1 r2 d q (av t.k) [] 0=_:=W
  have B: ∀ (r1:LC×Int) (r2:LT×Int),ab (t.k==15) (MZ (dT q) q I i t r1 r2 d q 1 [] 0) (MZ (dT q) q I i t r1 r2 d q 0 [] 0)=eE (vn (j0 fun d f=>vj (i+d) f) (j0 fun d f=>vj (i+d) f) d t.k t.s) (fun s=>I (.mk t.k t.n t.name r1.1 r2.1 s,0)) fun e=>I (pX,e):=by
   grind [cH,av]
  obtain ⟨z,hz,qR⟩:=aaq F T A x (fun r1=>ab (!(r1.2==0)) (I (pX,r1.2)) (eE (aig (j0 fun d f=>vj (i+d) f) (j0 fun d f=>vj (i+d) f) d t.k 0 t.c) (fun l=>(fun r2:LT×Int=>ab (!(r2.2==0)) (I (pX,r2.2)) (eE (vn (j0 fun d f=>vj (i+d) f) (j0 fun d f=>vj (i+d) f) d t.k t.s) (fun s=>I (.mk t.k t.n t.name r1.1 r2.1 s,0)) fun e=>I (pX,e))) (l,0)) fun e=>(fun r2:LT×Int=>ab (!(r2.2==0)) (I (pX,r2.2)) (eE (vn (j0 fun d f=>vj (i+d) f) (j0 fun d f=>vj (i+d) f) d t.k t.s) (fun s=>I (.mk t.k t.n t.name r1.1 r2.1 s,0)) fun e=>I (pX,e))) ([],e)))
  simp only [dT,HG,ag F,ar,DJ,HA,hK,B,An,List.length_nil]
  refine qy qR ?_
  rw [ME _ I,B4,<-hz]
  refine qy (wx (z:=z) (fun J=>eE (aig (j0 fun d f=>vj (i+d) f) (j0 fun d f=>vj (i+d) f) d t.k 0 t.c) (fun l=>(fun r2:LT×Int=>ab (!(r2.2==0)) (I (pX,r2.2)) (eE (vn (j0 fun d f=>vj (i+d) f) (j0 fun d f=>vj (i+d) f) d t.k t.s) (fun s=>I (.mk t.k t.n t.name J r2.1 s,0)) fun e=>I (pX,e))) (l,0)) fun e=>(fun r2:LT×Int=>ab (!(r2.2==0)) (I (pX,r2.2)) (eE (vn (j0 fun d f=>vj (i+d) f) (j0 fun d f=>vj (i+d) f) d t.k t.s) (fun s=>I (.mk t.k t.n t.name J r2.1 s,0)) fun e=>I (pX,e))) ([],e)) fun e=>I (pX,e)) ?_
  rw [AS]
  refine Hg (fun J _=> ?_) fun e _=>rfl
  refine qy (AM (β:=OS S) (γ:=Unit) (aig (j0 fun d f=>vj (i+d) f) (j0 fun d f=>vj (i+d) f) d t.k 0 t.c) (fun e he=>Ug mo mo he) [] (fun l=>eE (vn (j0 fun d f=>vj (i+d) f) (j0 fun d f=>vj (i+d) f) d t.k t.s) (fun s=>I (.mk t.k t.n t.name J l s,0)) fun e=>I (pX,e)) fun e=>I (pX,e)) ?_
  simp only [AS,aP]
def yw (i:Int):Int->LC->LC:=fun d f=>vj (i+d) f
def H9 (i:Int) (r:LC) (fa:Bool):dC:=FD (uM i r fa) (yw i)
theorem uz (i:Int) (r:LC) (fa:Bool) (d:Int) (f:LC):H9 i r fa d f=bE (uM i r fa d f) fun m=> .ok (vj (i+d) m):=rfl
theorem pR {i:Int} {r:LC} {fa:Bool}: ∀d f e,H9 i r fa d f= .error e->0<e/\e<=1000:=fun d f e h=>by
 rw [uz] at h
 rcases be h with h|⟨_,_,h⟩
 ·exact Bu h
 simp_all
section
variable {hd:Tm->Int->LC->Int->Bool->(Tm->OS S)->OS S} {i d:Int} {r:LC} {t:Tm}
end
def Ao (i:Int) (r:LC) (t:Tm):Except Int Tm:=bE (NF (ua r i 1)) fun s=>w5 (H9 i s false) (H9 i s true) 0 t
theorem j9 {i:Int} {r:LC} {t:Tm} {e:Int} (h:Ao i r t= .error e):0<e/\e<=1000:=by
 rcases be h with h|⟨s,_,h⟩
 ·grind [Km,q_,EN]
 ·exact jK pR pR t h
theorem TZ {i:Int} {r:LC} {t y:Tm} (h:Ao i r t= .ok y):y.k=t.k:=by
 obtain ⟨s,_,h⟩:=i8 h
 exact Ja h
theorem Ra (hk:F3 k) {t:Tm} (j:Fm t) {i:Int} (A:0<=i/\i<24) {r:LC} (q:RF r) (I:Tm×Int->OS S):m_ k t i r I=I (tE (Ao i r t)):=by
 have W:=q.len
 have L:=j.dep
 simp only [m_,ag hk.fu,ar,DM,E9 j.ok (j.fd hk) (show am t<1099511627776 by omega),j.2,ai7 hk.fu,rH hk.fu q.2 q.lt,q.right,decide_eq_true A,vX hk.fu q.2 (show r.length<1073741824 by omega) (show aG i by unfold aG;omega) (show aG 1 by unfold aG;omega),DF,DG,DH,DE]
 rw [show ((0:Int)==0)=true from rfl,xJ,n3,n3,n3,n3]
 rw [ME _ I]
 unfold Ao
 rw [AS]
 by_cases z:(ua r i 1).2=0
 ·have hs:=kQ z
  rw [bG,decide_eq_true z,xJ,n3,jF z,aP,ahW A hs t j.ok j.rows _ (j.fd hk) (by omega) (by omega)]
  refine qy (n2 (α:=OS S) (β:=Unit) _ (fun e he=>jK jD jD t he) (fun x=>dT k x 0 i fun J=>I (J.1,J.2)) fun e=>I (pX,e)) ?_
  have B:=alm (fo:=uM i (ua r i 1).1 false) (fa:=uM i (ua r i 1).1 true) (G:=yw i) (fun d f g hf h=>rB hf h) (fun d f hf=>JE hf) t 0 j.rows
  show _=eE (w5 (FD (uM i (ua r i 1).1 false) (yw i)) (FD (uM i (ua r i 1).1 true) (yw i)) 0 t) _ _
  rw [<-B,AS]
  refine Hg (fun x M=> ?_) fun e _=>rfl
  have O:=Uj (fun d f g hf h=>rB hf h) (fun d f g hf h=>rB hf h) (fun d=>QI) t 0 x M
  obtain ⟨Y,w2,w3,T⟩:=O
  obtain ⟨E,F⟩:=T j.ok j.rows
  rw [aar A x E F _ (hk.fd (by omega)) (by omega) (by omega)]
  exact ME _ I
 ·rw [bG,decide_eq_false z,ub,ae,iO z];rfl
def In (k:Nat) (t:Tm):Prop:=p9 t/\Fd k (am t)/\au t<1099511627776
theorem In.dep {t:Tm} (h:In k t):am t<1099511627776:=by have:=zG t;have:=h.2.2;omega
theorem Fm.isIn {t:Tm} (h:Fm t) (hk:F3 k):In k t:=⟨h.ok,h.fd hk,by have:=h.eO;omega⟩
def xV:LT->Int
 |[]=>0
 |t::l=>if bw t=0 then xV l else bw t
theorem R0 {l:LT} (hl: ∀t∈l,p9 t) (h:xV l=0): ∀t∈l,Fm t:=by
 induction l with
 |nil=>simp
 |cons x l q=>
  intro t ht
  unfold xV at h
  split at h
  ·next j=>
   rcases BB.1 ht with rfl|ht
   ·exact ⟨hl _ (by simp),j⟩
   grind
  omega
theorem aki (l:LT):0<=xV l/\xV l<=1000:=by
 induction l with
 |nil=>grind [xV]
 |cons x l h=>
  unfold xV
  split<;>simp_all [Et]
theorem rI (c e:Int) (I:Int->OS S):iZ k e c I=I (if c=0 then e else c):=by
 grind [iZ,aY]
theorem aem (hk:Fu k) (I:Int->OS S) {l:LT} (hl: ∀t∈l,In k t) (hlen:l.length<1000):
  ∀ (r p:LT) (m:Nat) (b:Int),l=p++r->r.length<m->pY k I l m b (p.length:Int)=I (if b=0 then xV r else b):=by
 intro r
 induction r with
 |nil=>
  grind [qI,pY,wL,n3,xV]
 |cons x r z=>
  intro p m b h A
  obtain ⟨m,rfl,j⟩:=qI A
  obtain ⟨B,E,F,J⟩:=sX h (by omega)
  have q:=hl x (by grind)
  simp only [pY,wL,B,ae,E,rf,ag hk,ar,E9 q.1 q.2.1 q.dep,rI,F,z (p++[x]) m _ J j,xV]
  grind
theorem Re (hk:F3 k) {l:LT} (hl: ∀t∈l,In k t) (hlen:l.length<1000) (I:Int->OS S):m9 k l I=I (xV l):=by
 simp only [m9,Hs]
 have:=aem hk.fu I hl hlen l [] k 0 rfl (by omega)
 simp_all
def di (r:LC) (line:Tm):Except Int Tm:=bE (uA 0 2 0 1 line) (Ao 0 r)
theorem li {r:LC} {t:Tm} {e:Int} (h:di r t= .error e):0<e/\e<=1000:=by
 rcases be h with h|⟨s,_,h⟩
 ·exact Rz t h
 ·exact j9 h
theorem acW {i:Int} {r:LC} {fa:Bool} {d:Int} {f g:LC} (hf:RF f) (h:H9 i r fa d f= .ok g):RF g:=by
 rw [uz] at h
 obtain ⟨m,h1,h⟩:=i8 h
 injection h with h;subst h
 exact h3 (rB hf h1).len
theorem acV {i:Int} {r:LC} {fa:Bool} (d:Int):H9 i r fa d []= .ok []:=by
 rw [uz,QI,aD];rfl
theorem T0 {i:Int} {r:LC} {t y:Tm} (h:Ao i r t= .ok y):Wk t y:=by
 obtain ⟨s,_,h⟩:=i8 h
 grind [Uj,acW,acV]
theorem Jo {r:LC} {t y:Tm} (j:Fm t) (h:di r t= .ok y):p9 y/\q7 y/\am y<=200/\au y<=20000:=by
 obtain ⟨s,h1,h⟩:=i8 h
 have hs:=jr (by omega) j h1
 obtain ⟨x,z,A,q⟩:=T0 h
 have B:=q hs.ok hs.rows
 have:=hs.dep;have:=hs.eO
 grind
section
variable {c:Int}
theorem aIy (hc:c≠0) (hk:F3 k) (f:LC) (I:LC×Int->OS S):tA k f c I=I ([],c):=by
 simp only [tA,ag hk.fu,de,bG,decide_eq_false hc,ub,ae]
theorem aDb (hc:c≠0) (hk:F3 k) (f g:LC) (I:LC×Int->OS S):Td k f g c I=I ([],c):=by
 simp only [Td,ag hk.fu,de,bG,decide_eq_false hc,ub,ae]
theorem j2 (hc:c≠0) (hk:F3 k) (l:Tm) (r:LC) (I:Tm×Int->OS S):lr k l r c I=I (pX,c):=by
 simp only [lr,ag hk.fu,de,bG,decide_eq_false hc,ub,ae];rfl
theorem Hh (hc:c≠0) (hk:F3 k) (l:Tm) (a b:Int) (I:Tm×Int->OS S):Dh k l a b c I=I (pX,c):=by
 simp only [Dh,ag hk.fu,de,bG,decide_eq_false hc,ub,ae];rfl
theorem rG (hc:c≠0) (hk:F3 k) (l:Tm) (I:Tm×Int×Int->OS S):eQ k l c I=I (pX,c,c):=by
 simp only [eQ,ag hk.fu,de,bG,decide_eq_false hc,ub,ae,n3];rfl
end
theorem ajX (hk:F3 k) {f:LC} (hf:aq f) (hl:f.length<1073741824) (I:LC×Int->OS S):tA k f 0 I=I (ua f 0 1):=by
 simp only [tA,ag hk.fu,de,vX hk.fu hf hl (show aG 0 by unfold aG;omega) (show aG 1 by unfold aG;omega),rI,if_true]
 rfl
theorem aIx (hk:F3 k) {f g:LC} (hf:aq f) (h:aq g) (h1:f.length<1073741824) (h2:g.length<1073741824) (I:LC×Int->OS S):Td k f g 0 I=I (EQ f g):=by
 simp only [Td,ag hk.fu,de,aH8 hk.fu hf h h1 h2,rI,if_true]
 rfl
theorem RW (hk:F3 k) {t:Tm} (h:Fm t) {a b:Int} (ha:0<=a/\a<=1000000) (hb:0<=b/\b<9223372036854775808) (I:Tm×Int->OS S):Dh k t a b 0 I=I (tE (J6 a b t)):=by
 simp only [Dh,ag hk.fu,de,ar,He hk h ha hb,rI,if_true]
 rfl
theorem Rd (hk:F3 k) {t:Tm} (h:Fm t) {r:LC} (x:RF r) (I:Tm×Int->OS S):lr k t r 0 I=I (tE (di r t)):=by
 simp only [lr,ag hk.fu,de,ar,Rr hk h (show (0:Int)<=1/\(1:Int)<=24 by omega) (show (0:Int)<=2/\(2:Int)<9223372036854775808 by omega),rI,if_true]
 rw [show ((0:Int)==0)=true from rfl,xJ,n3,ME _ I]
 unfold di
 rw [AS]
 cases j:uA 0 2 0 1 t with
 |error e=>
  have:=Rz t j
  show ab (!(e==0)) (I (pX,e)) _=_
  rw [bG,decide_eq_false (by omega),ub,ae];rfl
 |ok y=>
  have z:=jr (by omega) h j
  show ab (!((0:Int)==0)) _ (m_ k y 0 r fun q=>I (q.1,if (0:Int)=0 then q.2 else 0))=_
  simp_all [n3,Ra,aP,ME]
theorem ai9 (hk:F3 k) {t:Tm} (h:In k t) (I:Tm×Int×Int->OS S):eQ k t 0 I=I (if bw t=0 then (t,0,0) else (pX,bw t,bw t)):=by
 simp only [eQ,ag hk.fu,de,ar,E9 h.1 h.2.1 h.dep,rI,if_true]
 rw [show ((0:Int)==0)=true from rfl,ae,bG]
 by_cases j:bw t=0
 ·grind [n3]
 ·rw [decide_eq_false j,if_neg j,ub,ae];rfl
def RR (line:Tm) (pz:LC) (a:Tm) (en:Cl) (r:LC):Except Int Tm:=
 bE (NF (ua pz 0 1)) fun f1=>bE (NF (EQ f1 [en])) fun f=>bE (di r line) fun l=>bE (J6 0 1 a) fun a'=> .ok (.mk 14 0 qw f [l,a'] [])
def FJ (x:Except Int Tm):Except Int Tm:=bE x fun t=>if bw t=0 then .ok t else .error (bw t)
def Fs (line:Tm) (pz:LC) (a:Tm) (en:Cl) (r:LC):Except Int Tm:=
 if xV [line,a]=0 then if cV pz then FJ (RR line pz a en r) else .error 2 else .error (xV [line,a])
theorem aGg (f g:LC):EN (EQ f g).2:=by
 grind [EQ,ES,lO]
theorem aGh {f g:LC} (hf:aq f) (j:aq g) (h:(EQ f g).2=0):BE (EQ f g).1:=by
 grind [EQ,Af,oB]
theorem T2 {z:LC×Int} (j:EN z.2) {e:Int} (h:NF z= .error e):0<e/\e<=1000:=by
 grind [Km,EN]
theorem aES {line:Tm} {pz:LC} {a:Tm} {en:Cl} {r:LC} {e:Int} (h:RR line pz a en r= .error e):0<e/\e<=1000:=by
 rcases be h with h|⟨_,_,h⟩
 ·exact T2 (q_ _ _ _) h
 rcases be h with h|⟨_,_,h⟩
 ·exact T2 (aGg _ _) h
 rcases be h with h|⟨_,_,h⟩
 ·exact li h
 rcases be h with h|⟨_,_,h⟩
 ·exact zn h
 simp_all
theorem et (hk:F3 k) {line:Tm} {pz:LC} {a:Tm} {en:Cl} {r:LC} (hl:Fm line) (ha:Fm a) (hp:RF pz) (he:aX en) {t:Tm} (h:RR line pz a en r= .ok t):In k t/\t.k=14:=by
 obtain ⟨f1,h1,h⟩:=i8 h
 obtain ⟨f,h2,h⟩:=i8 h
 obtain ⟨l,x,h⟩:=i8 h
 obtain ⟨a',z,h⟩:=i8 h
 injection h with h;subst h
 obtain ⟨g1,rfl⟩:=rR h1
 obtain ⟨g2,rfl⟩:=rR h2
 have q:=kQ g1
 have hf:=(aGh q.2 (fun c hc=>by grind) g2).1
 obtain ⟨A,B,E,F⟩:=Jo hl x
 have j:=mD (by omega) ha z
 have:=hf.len;have:=j.dep;have:=j.eO
 refine ⟨⟨?_,hk.fd ?_, ?_⟩,rfl⟩
 ·rw [p9,aZ,aZ,aZ,ba]
  refine ⟨⟨by unfold aG;omega,by unfold aG;omega,by simp,hf.2,by omega,by simp,by simp⟩,⟨A,j.ok,trivial⟩,trivial⟩
 all_goals grind [am,aH,aO,au,ay,aI]
theorem aC6 (hk:F3 k) {line a:Tm} {pz r:LC} {en:Cl} (hl:In k line) (ha:In k a) (hp:aq pz) (L:pz.length<1073741824) (he:aX en) (hr:RF r) (I:Tm×Int->OS S):eW k line pz a en r I=I (tE (Fs line pz a en r)):=by
 have q: ∀t∈[line,a],In k t:=fun t Y=>by
  grind
 have M:aq [en]:=fun c hc=>by grind
 have bad: ∀c:Int,c≠0->(tA k pz c fun r4=>Td k r4.1 [en] r4.2 fun r5=>lr k line r r5.2 fun r6=>Dh k a 0 1 r6.2 fun r7=>
   xH k 14 [r6.1,r7.1] fun F=>eQ k (Tm.mk F.1 F.2.1 F.2.2.1 r5.1 F.2.2.2 []) r7.2 fun r9=>I (r9.1,r9.2.1))=I (pX,c):=by
  simp_all [xH,aIy,aDb,j2,Hh,rG]
 simp only [eW,ag hk.fu,ar,Re hk q (by simp),Hb hk.fu hp (show pz.length<2147483648 by omega),rI]
 unfold Fs
 by_cases x:xV [line,a]=0
 ·simp only [x,if_true]
  have z:=R0 (fun t Y=>(q t Y).1) x
  have A:=z line (by simp)
  have B:=z a (by simp)
  cases O:cV pz with
  |false=>
   rw [ub,ae,if_neg (show ¬ (false=true) by decide)]
   exact bad 2 (by decide)
  |true=>
   have T:=(oB hp).1 O
   rw [xJ,n3,if_pos (show true=true from rfl),ajX hk hp L,ME _ I]
   unfold FJ
   rw [AS]
   have j: ∀t,RR line pz a en r= .ok t->In k t:=fun t h=>(et hk A B T.1 he h).1
   revert j
   unfold RR
   intro j
   by_cases h1:(ua pz 0 1).2=0
   ·have E:=kQ h1
    have W:=E.len
    rw [jF h1,aD] at j ⊢
    rw [h1,aIx hk E.2 M (by omega) (by simp)]
    by_cases h2:(EQ (ua pz 0 1).1 [en]).2=0
    ·rw [jF h2,aD] at j ⊢
     rw [h2,Rd hk A hr]
     cases h3:di r line with
     |error e=>
      have hc:=(li h3).1
      show Dh k a 0 1 e _=I (pX,e)
      grind [xH,Hh,rG]
     |ok l=>
      rw [h3,aD] at j
      show Dh k a 0 1 0 _=_
      rw [RW hk B (by omega) (by omega),aD]
      cases h4:J6 0 1 a with
      |error e=>
       have hc:=(zn h4).1
       show xH k 14 _ _=I (pX,e)
       simp only [xH]
       show eQ k _ e _=_
       grind [rG]
      |ok a'=>
       rw [h4,aD] at j
       show xH k 14 _ _=_
       simp only [xH]
       show eQ k (Tm.mk 14 0 qw (EQ (ua pz 0 1).1 [en]).1 [l,a'] []) 0 _=_
       rw [ai9 hk (j _ rfl),aD,aP]
       by_cases J:bw (Tm.mk 14 0 qw (EQ (ua pz 0 1).1 [en]).1 [l,a'] [])=0
       ·rw [if_pos J,if_pos J];rfl
       ·rw [if_neg J,if_neg J];rfl
    ·rw [iO h2]
     show _=I (pX,(EQ (ua pz 0 1).1 [en]).2)
     grind [xH,j2,Hh,rG]
   ·rw [iO h1]
    show _=I (pX,(ua pz 0 1).2)
    simp_all [xH,aDb,j2,Hh,rG]
 ·simp only [if_neg x]
  cases cV pz with
  |false=>rw [ub,ae];exact bad _ x
  |true=>rw [xJ,n3];exact bad _ x
end
section

variable {S:Type} {k:Nat}
theorem Rh {l:LC} (hl:l.length<1073741824) (I:LC->OS S):kq l I=I l:=by
 grind [kq,J5]
section
variable {hd:Tm->(Tm->OS S)->OS S}
theorem aev (hk:Fu k) (I:LT->OS S) {l:LT} (x: ∀y∈l,∀g,hd y g=g y) (hl:l.length<1073741824):
  ∀ (r p:LT) (m:Nat),l=p++r->r.length<m->x9 hd k I l m p (p.length:Int)=I l:=by
 intro r
 induction r with
 |nil=>
  grind [qI,x9,yf,n3]
 |cons y r z=>
  intro p m h j
  obtain ⟨m,rfl,q⟩:=qI j
  obtain ⟨A,B,E,F⟩:=sX h (by omega)
  grind [x9,yf,ae,ar,J5]
theorem Ri (hk:Fu k) {l:LT} (h: ∀y∈l,∀g,hd y g=g y) (hl:l.length<1073741824) (I:LT->OS S):ui hd k l I=I l:=by
 simp only [ui,IS]
 exact aev hk I h hl l [] k rfl (by omega)
theorem aew (hk:Fu k) (I:Tm->OS S) {t:Tm} (q:p9 t) (z: ∀b∈t.s,∀y∈b.c,∀g,hd y g=g y) (r1:LC) (r2:LT):
  ∀ (r p:LB) (m:Nat),t.s=p++r->r.length<m->qQ hd k I t r1 r2 m p (p.length:Int)=I (.mk t.k t.n t.name r1 r2 t.s):=by
 obtain ⟨M,O,T,W,Y,o6,o7⟩:=q.no
 intro r
 induction r with
 |nil=>
  grind [qI,qQ,ye,n3]
 |cons y r A=>
  intro p m h B
  obtain ⟨m,rfl,j⟩:=qI B
  obtain ⟨E,F,J,L⟩:=sX h (by omega)
  have x:y∈t.s:=by grind
  have hb:=(q.bi x).1
  have hlen:p.length+r.length+1=t.s.length:=by grind
  simp only [qQ,ye,E,ae,F,rf,ar,J,Rh hb.2.1,ag hk,Ri hk (z y x) hb.2.2]
  rw [J5 (by grind)]
  have:=A (p++[y]) m L j
  omega
end
theorem vU (t:Tm):p9 t-> ∀ {k:Nat} (I:Tm->OS S),Fd k (am t)->dJ k t I=I t:=by
 induction t using c7 with
 |h t z A=>
  intro x k I hk
  obtain ⟨q,rfl,B,hf⟩:=hk.pos' (HX t)
  obtain ⟨J,L,M,O,E,F,T⟩:=x.no
  simp only [dJ,IP,Rh E,ag B,Ri B (fun y j g=>z y j (x.ki j) g (hf _ (bY j))) F]
  have:=aew B I x (fun b hb y j g=>A b hb y j ((x.bi hb).2 y j) g (hf _ (b8 hb j))) t.r t.c t.s [] q rfl (by omega)
  refine qy this ?_
  cases t;rfl
theorem ahz {v d d':Int} (h:24<=d) (h':24<=d') (t:Tm):cL v d t=cL v d' t:=by
 have hb: ∀kd,bX kd d=bX kd d':=fun kd=>by grind [bX,Av]
 simp_all [cL,Av]
theorem at8 (t:Tm): ∀ {v d d':Int},24<=d->24<=d'->rP false v d t=rP false v d' t:=by
 induction t using c7 with
 |h t j q=>
  intro v d d' h h'
  rw [wI,wI,ahz h h']
  have z: ∀ (l:LT) (i:Nat),(∀x∈l,x∈t.c)->bO false v d t.k i l=bO false v d' t.k i l:=by
   intro l
   induction l<;>grind [bO,bJ]
  grind [wH,av]
theorem QD:RF [⟨3,0⟩]:=gS ⟨⟨by decide,by decide⟩,by decide,by decide⟩
theorem aC4:RF [⟨0,1⟩,⟨2,0⟩]:=by
 refine ⟨by rfl,fun c hc=> ?_⟩
 simp only [BB,List.not_mem_nil,or_false] at hc
 rcases hc with rfl|rfl
 ·exact ⟨⟨by decide,by decide⟩,by decide,by decide⟩
 ·exact ⟨⟨by decide,by decide⟩,by decide,by decide⟩
theorem ag0:aX ⟨0,1⟩:=⟨⟨by decide,by decide⟩,by decide,by decide⟩
theorem ag1:aX ⟨1,0⟩:=⟨⟨by decide,by decide⟩,by decide,by decide⟩
theorem aHV (hk:F3 k) {line a:Tm} {pz:LC} (hl:In k line) (ha:In k a) (hp:aq pz) (h:pz.length<1073741824) (I:Tm×Int->OS S):rv k line pz a I=I (tE (Fs line pz a ⟨0,1⟩ [⟨3,0⟩])):=by
 grind [rv,ar,ag,aC6,ag0,QD]
theorem aHR (hk:F3 k) {line a:Tm} {pz:LC} (hl:In k line) (ha:In k a) (hp:aq pz) (h:pz.length<1073741824) (I:Tm×Int->OS S):ec k line pz a I=I (tE (Fs line pz a ⟨1,0⟩ [⟨0,1⟩,⟨2,0⟩])):=by
 grind [ec,ar,ag,aC6,ag1,aC4]
theorem agT:p9 pX:=by
 unfold pX
 rw [p9,aZ,ba]
 exact ⟨⟨by unfold aG;omega,by unfold aG;omega,by simp,fun c hc=>(by cases hc),by simp,by simp,by simp⟩,trivial,trivial⟩
theorem gQ (hk:F3 k):In k pX:=⟨agT,hk.fd (by grind [pX,am,aH,aO]),by grind [pX,au,ay,aI]⟩
theorem Hl (t:Tm):au t=1+ay t.c+aI t.s:=by cases t;rfl
def Tt (p6 w:Int) (n:Nat):Prop:=1<=w/\w<=2*p6+1/\(w<=p6->(n:Int)<=w)
def Mo (p6:Int):Prop:=0<=p6/\p6<=1000
section
variable {hd:Tm->Int->(Int->OS S)->OS S} {t:Tm}
theorem aGM (hk:Fu k) (I:Int->OS S) (j:Int->Int->OS S) {v p6:Int} (A:Mo p6) {x:Br Tm} (hv:af t.s v=some x) (E: ∀y∈x.c,∀n,Mo n-> ∀g,∃w,hd y n g=g w/\Tt n w (au y)) (hl:x.c.length<1073741824):
  ∀ (r p:LT) (m:Nat) (a:Int),x.c=p++r->r.length<m->1<=a->a<=2*p6+1-> ∃w,kA hd k I j t p6 v m a (p.length:Int)=j w (p5 .i64 (v+1))/\a<=w/\w<=2*p6+1/\(w<=p6->a+(ay r:Int)<=w):=by
 obtain ⟨F,J⟩:=A
 intro r
 induction r with
 |nil=>
  intro p m a h B ha q
  obtain ⟨m,rfl,z⟩:=qI B
  exact ⟨a,by grind [kA,xL,n3],BF _,q,fun _=>by rw [ay];simp⟩
 |cons y r L=>
  intro p m a h B ha q
  obtain ⟨m,rfl,z⟩:=qI B
  obtain ⟨M,O,T,W⟩:=sX h (by omega)
  simp only [kA,xL,hv,M,ae,O,rf,ar,T]
  by_cases hc:a<=p6
  ·rw [decide_eq_true hc,ae,xi (show-9223372036854775808<=p6-a by omega) (by omega)]
   obtain ⟨w,Y,w1,w2,w3⟩:=E y (by grind) (p6-a) ⟨by omega,by omega⟩ (fun r8=>kA hd k I j t p6 v m (p5 .i64 (a+r8)) (((p++[y]).length:Nat):Int))
   rw [Y,xi (show-9223372036854775808<=a+w by omega) (by omega)]
   obtain ⟨u,hu,u1,u2,u3⟩:=L (p++[y]) m (a+w) W z (by omega) (by omega)
   exact ⟨u,hu,by omega,u2,fun hle=>by grind [ay]⟩
  grind [n3]
theorem aGL (hk:Fu k) (I:Int->OS S) {p6:Int} (j:Mo p6) (M: ∀b∈t.s,∀y∈b.c,∀n,Mo n-> ∀g,∃w,hd y n g=g w/\Tt n w (au y)) (E:p9 t):
  ∀ (r p:LB) (m:Nat) (a:Int),t.s=p++r->r.length<m->1<=a->a<=2*p6+1-> ∃w,jl hd k I t p6 m a (p.length:Int)=I w/\a<=w/\w<=2*p6+1/\(w<=p6->a+(aI r:Int)<=w):=by
 obtain ⟨o1,o2,o3,o4,o5,o6,o7⟩:=E.no
 have O:=j.1
 have T:=j.2
 intro r
 induction r with
 |nil=>
  intro p m a h A ha q
  obtain ⟨m,rfl,z⟩:=qI A
  exact ⟨a,by grind [jl,sS,n3],BF _,q,fun _=>by rw [aI];simp⟩
 |cons x r W=>
  intro p m a h A ha q
  obtain ⟨m,rfl,z⟩:=qI A
  obtain ⟨Y,F,J,e4⟩:=sX h (by omega)
  have L:x∈t.s:=by grind
  have hb:=(E.bi L).1
  simp only [jl,sS,Y,ae,F,rf,J]
  by_cases hc:a<=p6
  ·rw [decide_eq_true hc,ae]
   by_cases hf:((x.f.length:Nat):Int)>p6
   ·grind [ae,xi]
   ·rw [decide_eq_false hf,n3,xi (show-9223372036854775808<=a+1 by omega) (by omega),xi (show-9223372036854775808<=a+1+((x.f.length:Nat):Int) by omega) (by omega)]
    obtain ⟨w,B,w1,w2,w3⟩:=aGM (t:=t) (p6:=p6) hk I (jl hd k I t p6 m) j F (M x L) hb.2.2 x.c [] k (a+1+((x.f.length:Nat):Int)) rfl (by omega) (by omega) (by omega)
    have B:kA hd k I (jl hd k I t p6 m) t p6 (p.length:Int) k (a+1+((x.f.length:Nat):Int)) 0=_:=B
    rw [B,J]
    obtain ⟨u,hu,u1,u2,u3⟩:=W (p++[x]) m w e4 z (by omega) w2
    exact ⟨u,hu,by omega,u2,fun hle=>by grind [aI,kZ]⟩
  grind [n3]
theorem aGK (hk:Fu k) (I:Int->OS S) {p6:Int} (j:Mo p6) (A: ∀y∈t.c,∀n,Mo n-> ∀g,∃w,hd y n g=g w/\Tt n w (au y)) (q: ∀b∈t.s,∀y∈b.c,∀n,Mo n-> ∀g,∃w,hd y n g=g w/\Tt n w (au y)) (z:p9 t):
  ∀ (r p:LT) (m:Nat) (a:Int),t.c=p++r->r.length<m->1<=a->a<=2*p6+1-> ∃w,nQ hd k I t p6 m a (p.length:Int)=I w/\a<=w/\w<=2*p6+1/\(w<=p6->a+(ay r:Int)+(aI t.s:Int)<=w):=by
 obtain ⟨o1,o2,o3,o4,o5,o6,o7⟩:=z.no
 have B:=j.1
 have E:=j.2
 intro r
 have hs:=fun a=>aGL (p6:=p6) hk I j q z t.s [] k a rfl (by omega)
 induction r with
 |nil=>
  grind [qI,nQ,p',n3,ay]
 |cons y r F=>
  intro p m a h J ha L
  obtain ⟨m,rfl,x⟩:=qI J
  obtain ⟨M,O,T,W⟩:=sX h (by omega)
  simp only [nQ,p',M,ae,O,rf,ar,T]
  by_cases hc:a<=p6
  ·rw [decide_eq_true hc,ae,xi (show-9223372036854775808<=p6-a by omega) (by omega)]
   obtain ⟨w,Y,w1,w2,w3⟩:=A y (by grind) (p6-a) ⟨by omega,by omega⟩ (fun r2=>nQ hd k I t p6 m (p5 .i64 (a+r2)) (((p++[y]).length:Nat):Int))
   rw [Y,xi (show-9223372036854775808<=a+w by omega) (by omega)]
   obtain ⟨u,hu,u1,u2,u3⟩:=F (p++[y]) m (a+w) W x (by omega) (by omega)
   exact ⟨u,hu,by omega,u2,fun hle=>by grind [ay]⟩
  grind [n3]
end
theorem aDd (t:Tm):p9 t-> ∀ {k:Nat} (p6:Int),Mo p6-> ∀ (I:Int->OS S),Fd k (am t)-> ∃w,gE k t p6 I=I w/\Tt p6 w (au t):=by
 induction t using c7 with
 |h t A B=>
  intro z k p6 j I hk
  have F:=j.1
  have J:=j.2
  obtain ⟨q,rfl,L,hf⟩:=hk.pos' (HX t)
  obtain ⟨Y,o2,o3,o4,o5,o6,o7⟩:=z.no
  have M: ∀y∈t.c,∀n,Mo n-> ∀ (g:Int->OS S),∃w,gE q y n g=g w/\Tt n w (au y):=fun y x n hn g=>A y x (z.ki x) n hn g (hf _ (bY x))
  have E: ∀b∈t.s,∀y∈b.c,∀n,Mo n-> ∀ (g:Int->OS S),∃w,gE q y n g=g w/\Tt n w (au y):=fun b hb y x n hn g=>B b hb y x ((z.bi hb).2 y x) n hn g (hf _ (b8 hb x))
  simp only [gE,Io]
  have out: ∃w,I (p5 .i64 (p6+1))=I w/\Tt p6 w (au t):=⟨p6+1,by grind [xi],by omega,by omega,fun h=>by omega⟩
  by_cases O:((t.r.length:Nat):Int)>p6
  ·grind [ae]
  ·rw [decide_eq_false O,n3]
   by_cases hn:((t.name.size:Nat):Int)>p6
   ·grind [ae]
   ·rw [decide_eq_false hn,n3,xi (show-9223372036854775808<=1+((t.r.length:Nat):Int) by omega) (by omega),xi (show-9223372036854775808<=1+((t.r.length:Nat):Int)+((t.name.size:Nat):Int) by omega) (by omega)]
    obtain ⟨w,T,w1,W,w3⟩:=aGK L I j M E z t.c [] q (1+((t.r.length:Nat):Int)+((t.name.size:Nat):Int)) rfl (by omega) (by omega) (by omega)
    exact ⟨w,T,by omega,W,fun hle=>by grind [Hl]⟩
def dS (kd:Int) (l:LT):Tm:= .mk kd 0 qw [] l []
def vN (n:Int):Tm:= .mk 1 n qw [] [] []
def mE (c a b:Int) (t:Tm):Tm×Int:=if c=0 then tE (J6 a b t) else (pX,c)
def Mf (p:Tm×Int):Except Int Tm:=if p.2=0 then .ok p.1 else .error p.2
theorem wz {c a b:Int} {t:Tm} (h:c≠0):mE c a b t=(pX,c):=if_neg h
theorem u' {c a b:Int} {t:Tm} (h:(mE c a b t).2=0):c=0:=by
 grind [wz]
theorem T9 (a b:Int) (t:Tm):mE 0 a b t=tE (J6 a b t):=rfl
theorem RV (hk:F3 k) {c:Int} {t:Tm} (h:c=0->Fm t) {a b:Int} (ha:0<=a/\a<=1000000) (hb:0<=b/\b<9223372036854775808) (I:Tm×Int->OS S):Dh k t a b c I=I (mE c a b t):=by
 by_cases hc:c=0
 ·subst hc;exact RW hk (h rfl) ha hb I
 grind [Hh,wz]
theorem Rk (hk:F3 k) {t:Tm} {c:Int} (h:c=0->In k t) (I:Tm×Int->OS S):(eQ k t c fun r=>I (r.1,r.2.1))=I (tE (FJ (Mf (t,c)))):=by
 by_cases hc:c=0
 ·subst hc
  rw [ai9 hk (h rfl)]
  show _=I (tE (FJ (.ok t)))
  unfold FJ
  rw [aD]
  by_cases j:bw t=0
  ·rw [if_pos j,if_pos j];rfl
  ·rw [if_neg j,if_neg j];rfl
 ·rw [rG hc hk]
  show _=I (tE (FJ (if c=0 then _ else _)))
  rw [if_neg hc];rfl
def Tc (c:Int) (t a f y:Tm):Tm×Int:=
 (dS 7 [t,dS 11 [(mE c 1 1 a).1,(mE (mE c 1 1 a).2 1 0 y).1,dS 6 [(mE (mE (mE c 1 1 a).2 1 0 y).2 1 0 f).1,vN 0]]],(mE (mE (mE c 1 1 a).2 1 0 y).2 1 0 f).2)
def ID (t a f y:Tm):Except Int Tm:=bE (J6 1 1 a) fun a'=>bE (J6 1 0 y) fun h=>bE (J6 1 0 f) fun j=> .ok (dS 7 [t,dS 11 [a',h,dS 6 [j,vN 0]]])
theorem aA3 {c:Int} (h:c≠0) (t a f y:Tm):(Tc c t a f y).2=c:=by
 grind [Tc,wz]
theorem aA4 (t a f y:Tm):Mf (Tc 0 t a f y)=ID t a f y:=by
 unfold Tc ID
 rw [T9]
 cases h1:J6 1 1 a with
 |error e=>
  have he:e≠0:=by have:=zn h1;omega
  show Mf (_,(mE (mE e 1 0 y).2 1 0 f).2)=_
  rw [wz he,wz he,lk];exact if_neg he
 |ok a'=>
  rw [aD]
  show Mf (dS 7 [t,dS 11 [a',(mE 0 1 0 y).1,dS 6 [(mE (mE 0 1 0 y).2 1 0 f).1,vN 0]]],(mE (mE 0 1 0 y).2 1 0 f).2)=_
  rw [T9]
  cases h2:J6 1 0 y with
  |error e=>
   have he:e≠0:=by have:=zn h2;omega
   show Mf (_,(mE e 1 0 f).2)=_
   rw [wz he,lk];exact if_neg he
  |ok h=>
   rw [aD]
   show Mf (dS 7 [t,dS 11 [a',h,dS 6 [(mE 0 1 0 f).1,vN 0]]],(mE 0 1 0 f).2)=_
   rw [T9]
   cases j:J6 1 0 f with
   |error e=>
    have he:e≠0:=by have:=zn j;omega
    rw [lk];exact if_neg he
   |ok q=>rfl
theorem aIa (hk:F3 k) {c:Int} {t a f y:Tm} (ha:c=0->Fm a) (hf:c=0->Fm f) (j:c=0->Fm y) (I:Int×Int×BA×LT×Int->OS S):
  Uu k t a f y c I=I (7,0,qw,(Tc c t a f y).1.c,(Tc c t a f y).2):=by
 simp only [Uu,ag hk.fu,ar,RV hk ha (show (0:Int)<=1/\(1:Int)<=1000000 by omega) (show (0:Int)<=1/\(1:Int)<9223372036854775808 by omega),
  RV hk (fun h=>j (u' h)) (show (0:Int)<=1/\(1:Int)<=1000000 by omega) (show (0:Int)<=0/\(0:Int)<9223372036854775808 by omega),
  RV hk (fun h=>hf (u' (u' h))) (show (0:Int)<=1/\(1:Int)<=1000000 by omega) (show (0:Int)<=0/\(0:Int)<9223372036854775808 by omega),KX,xH]
 rfl
def aE_ (t:Tm):Except Int Tm:=bE (J6 1 0 t) fun t1=>bE (J6 2 1 t) fun t2=> .ok (dS 7 [t,dS 4 [t1,dS 11 [t2,vN 1,vN 0]]])
def aFL (t a:Tm):Except Int Tm:=bE (J6 1 0 a) fun a1=>bE (J6 1 0 a) fun y=>bE (J6 2 0 t) fun h=>bE (J6 2 0 a) fun a'=>bE (ID h a' (vN 1) (vN 0)) fun x=>bE (aE_ x) fun c=> .ok (dS 7 [dS 4 [t,a1],dS 4 [y,c]])
theorem aFT {t a f y:Tm} {e:Int} (h:ID t a f y= .error e):0<e/\e<=1000:=by
 rcases be h with h|⟨_,_,h⟩
 ·exact zn h
 rcases be h with h|⟨_,_,h⟩
 ·exact zn h
 rcases be h with h|⟨_,_,h⟩
 ·exact zn h
 simp_all
theorem okv (n:Int) (h:0<=n/\n<=10):p9 (vN n):=by
 unfold vN
 rw [p9,aZ,ba]
 exact ⟨⟨by unfold aG;omega,by unfold aG;omega,by simp,fun c hc=>(by cases hc),by simp,by simp,by simp⟩,trivial,trivial⟩
theorem e6:Fm (vN 0):=⟨okv 0 (by omega),by rfl⟩
theorem iw:Fm (vN 1):=⟨okv 1 (by omega),by rfl⟩
theorem ag2 {kd:Int} (j:0<=kd/\kd<=28) {l:LT} (hl:l.length<10) (h: ∀x∈l,p9 x):p9 (dS kd l):=by
 unfold dS
 rw [p9,xp,ba]
 exact ⟨⟨by unfold aG;omega,by unfold aG;omega,by simp,fun c hc=>(by cases hc),by simp,by omega,by simp⟩,h,trivial⟩
theorem aAF {kd d:Int} (hd:24<=d) {l:LT} (ho:cL (-1) 24 (dS kd l)=true) (h: ∀x∈l,rP false (-1) 24 x=true):rP false (-1) d (dS kd l)=true:=by
 rw [at8 (dS kd l) hd (show (24:Int)<=24 by omega),wI,ho]
 have A: ∀ (r:LT) (i:Nat),(∀x∈r,rP false (-1) 24 x=true)->bO false (-1) 24 kd i r=true:=by
  intro r
  induction r with
  |nil=>intro i _;rw [bO]
  |cons x r q=>
   intro i j
   have hb:=gr kd i
   rw [bO,q _ fun y z=>j y (by simp [z])]
   have hv:cQ (-1) (tZ kd i)= -1:=rfl
   rw [hv,at8 x (show (24:Int)<=24+bJ kd i by omega) (show (24:Int)<=24 by omega),j x (by simp)];rfl
 show (!(false&&_)&&(true&&(bO false (-1) 24 kd 0 l&&ck false (-1) 24 kd [])))=true
 grind [ck]
def DS (n m:Nat) (t:Tm):Prop:=p9 t/\rP false (-1) 24 t=true/\am t<=n/\au t<=m
theorem DS.fm {n m:Nat} {t:Tm} (h:DS n m t) (hn:n<=200) (j:m<=20000):Fm t:=⟨h.1,pS (by have:=h.2.2.1;omega) (by have:=h.2.2.2;omega) h.2.1⟩
theorem DS.isIn {n m:Nat} {t:Tm} (h:DS n m t) (hk:F3 k) (hn:n<=1000) (j:m<=1000000):In k t:=⟨h.1,hk.fd (by have:=h.2.2.1;omega),by have:=h.2.2.2;omega⟩
theorem Fm.f2 {t:Tm} (h:Fm t):DS 200 20000 t:=⟨h.1,(Iz h.2).2.2,(Iz h.2).1,(Iz h.2).2.1⟩
theorem DS.mono {n m j q:Nat} {t:Tm} (h:DS n m t) (hn:n<=j) (x:m<=q):DS j q t:=⟨h.1,h.2.1,by have:=h.2.2.1;omega,by have:=h.2.2.2;omega⟩
theorem DS.up {n m:Nat} {t t':Tm} (h:DS n m t) {a b:Int} (ha:0<=a/\a<=1000000000) (hl:J6 a b t= .ok t'):DS n m t':=by
 obtain ⟨u,h1,h2⟩:=i8 hl
 obtain ⟨z,A,B,q⟩:=uP ha.1 ha.2 t 0 0 u h1
 obtain ⟨E,q2,F,x⟩:=uP (by omega) (by omega) u 0 0 t' h2
 have w:=q h.1
 have j:=x w.1
 have ho:=w.2.2 24 24 (by omega) (by omega) h.2.1
 exact ⟨j.1,j.2.2 24 24 (by omega) (by omega) ho,by have:=h.2.2.1;omega,by have:=h.2.2.2;omega⟩
theorem aA1 {kd:Int} (h:0<=kd/\kd<=28) {n m:Nat} {a b:Tm} (ho:cL (-1) 24 (dS kd [a,b])=true) (ha:DS n m a) (hb:DS n m b):DS (n+1) (2*m+1) (dS kd [a,b]):=by
 grind [DS,ag2,aAF,dS,am,aH,aO,au,ay,aI]
theorem aFP {kd:Int} (h:0<=kd/\kd<=28) {n m:Nat} {a b c:Tm} (ho:cL (-1) 24 (dS kd [a,b,c])=true) (ha:DS n m a) (hb:DS n m b) (hc:DS n m c):DS (n+1) (3*m+1) (dS kd [a,b,c]):=by
 grind [DS,ag2,aAF,dS,am,aH,aO,au,ay,aI]
theorem aFV {n m:Nat} (hn:1<=n) (h:1<=m) {i:Int} (j:i=0\/i=1):DS n m (vN i):=by
 have:DS 1 1 (vN i):=by
  rcases j with rfl|rfl
  ·exact ⟨e6.1,by rfl,by show 1<=1;omega,by show 1<=1;omega⟩
  ·exact ⟨iw.1,by rfl,by show 1<=1;omega,by show 1<=1;omega⟩
 exact this.mono hn h
theorem aA5 {n m:Nat} (hn:1<=n) (j:1<=m) {t a f y x:Tm} (q:DS n m t) (ha:DS n m a) (hf:DS n m f) (z:DS n m y) (h:ID t a f y= .ok x):DS (n+3) (12*m+9) x:=by
 obtain ⟨a',h1,h⟩:=i8 h
 obtain ⟨B,h2,h⟩:=i8 h
 obtain ⟨E,A,h⟩:=i8 h
 injection h with h;subst h
 have c1:=aA1 (kd:=6) (by omega) (by rfl) (hf.up (by omega) A) (aFV hn j (.inl rfl))
 have c2:=aFP (kd:=11) (by omega) (by rfl) ((ha.up (by omega) h1).mono (Nat.le_succ n) (show m<=2*m+1 by omega)) ((z.up (by omega) h2).mono (Nat.le_succ n) (show m<=2*m+1 by omega)) c1
 exact (aA1 (kd:=7) (by omega) (by rfl) (q.mono (show n<=n+1+1 by omega) (show m<=3*(2*m+1)+1 by omega)) c2).mono (by omega) (by omega)
mutual
def BC (n:Int):Tm->Nat
 | .mk kd m _ _ h sys=>(if kd=1/\m=n then 1 else 0)+(cE n kd 0 h+Ib n sys)
def cE (n kd:Int) (i:Nat):LT->Nat
 |[]=>0
 |t::l=>BC (n+tZ kd i) t+cE n kd (i+1) l
def Ib (n:Int):LB->Nat
 |[]=>0
 |b::l=>Dv n b+Ib n l
def Dv (n:Int):Br Tm->Nat
 | .mk _ h=>dc n h
def dc (n:Int):LT->Nat
 |[]=>0
 |t::l=>BC n t+dc n l
end
mutual
def HZ (n:Int) (u:Tm) (v d:Int):Tm->Except Int Tm
 | .mk kd m q r x sys=>if kd=1/\m=n+v then J6 v d u else bE (dX n u v d kd 0 x) fun j=>bE (IE n u v d kd sys) fun h=> .ok (.mk kd (if kd=1/\m>n+v then m-1 else m) q r j h)
def dX (n:Int) (u:Tm) (v d kd:Int) (i:Nat):LT->Except Int (LT)
 |[]=> .ok []
 |t::l=>bE (HZ n u (v+tZ kd i) (d+bJ kd i) t) fun h=>bE (dX n u v d kd (i+1) l) fun j=> .ok (h::j)
def IE (n:Int) (u:Tm) (v d kd:Int):LB->Except Int (LB)
 |[]=> .ok []
 |b::l=>bE (AJ n u v d kd b) fun h=>bE (IE n u v d kd l) fun j=> .ok (h::j)
def AJ (n:Int) (u:Tm) (v d kd:Int):Br Tm->Except Int (Br Tm)
 | .mk f j=>bE (L7 n u v d kd j) fun h=> .ok (.mk f h)
def L7 (n:Int) (u:Tm) (v d kd:Int):LT->Except Int (LT)
 |[]=> .ok []
 |t::l=>bE (HZ n u v (d+av kd) t) fun h=>bE (L7 n u v d kd l) fun j=> .ok (h::j)
end
def Jn (n:Int) (t u:Tm):Except Int Tm:=if au t+BC n t*(au u-1)>20000 then .error 221 else bE (HZ n u 0 0 t) fun o=>if am o>200 then .error 62 else .ok o
def Pg (n:Int) (u x h:Tm):Prop:=p9 h/\rP false (-1) 24 h=true/\au h=au x+BC n x*(au u-1)/\am h<=am x+am u
abbrev wF (n:Int) (u x:Tm):Prop:= ∀ {v d:Int} {o:Tm},0<=v->0<=d->v+am x<=1000->p9 x->rP false (-1) 24 x=true->HZ n u v d x= .ok o->Pg (n+v) u x o
section
variable {n v d kd:Int} {u:Tm}
theorem ahA: ∀ {l l':LT} {i:Nat},(∀x∈l,wF n u x)->0<=v->0<=d->v+aH l+1<=1000->aZ l->bO false (-1) 24 kd i l=true->dX n u v d kd i l= .ok l'->
  aZ l'/\bO false (-1) 24 kd i l'=true/\ay l'=ay l+cE (n+v) kd i l*(au u-1)/\aH l'<=aH l+am u/\l'.length=l.length:=by
 intro l
 induction l with
 |nil=>intro l' i _ _ _ _ _ _ h;rw [dX] at h;injection h with h;subst h;rw [aZ,bO,cE,ay,aH];simp
 |cons t l q=>
  intro l' i h hv hd hb ho ha hl
  rw [dX] at hl
  obtain ⟨z,A,hl⟩:=i8 hl
  obtain ⟨m,B,hl⟩:=i8 hl
  injection hl with hl;subst hl
  rw [aZ] at ho
  rw [bO,qC] at ha
  rw [aH] at hb
  have O:=g7 kd i;have T:=gr kd i
  have j:rP false (-1) 24 t=true:=by
   have:=ha.1
   rw [B2,at8 t (by omega) (BF 24)] at this;exact this
  obtain ⟨E,F,I,W⟩:=h t (by simp) (v:=v+tZ kd i) (d:=d+bJ kd i) (by omega) (by omega) (by omega) ho.1 j A
  obtain ⟨J,q2,L,Y,q5⟩:=q (fun x M=>h x (by simp [M])) hv hd (by omega) ho.2 ha.2 B
  rw [aZ,bO,cE,ay,ay,aH,aH,uL,uL]
  refine ⟨⟨E,J⟩, ?_, ?_,by omega,by omega⟩
  ·rw [qC,B2,at8 z (show (24:Int)<=24+bJ kd i by omega) (BF 24)];exact ⟨F,q2⟩
  ·rw [I,L,Nat.add_mul,Int.add_assoc];omega
theorem ahB: ∀ {l l':LT},(∀x∈l,wF n u x)->0<=v->0<=d->v+aH l+1<=1000->aZ l->ca false (-1) 24 kd l=true->L7 n u v d kd l= .ok l'->
  aZ l'/\ca false (-1) 24 kd l'=true/\ay l'=ay l+dc (n+v) l*(au u-1)/\aH l'<=aH l+am u/\l'.length=l.length:=by
 intro l
 induction l with
 |nil=>intro l' _ _ _ _ _ _ h;rw [L7] at h;injection h with h;subst h;rw [aZ,ca,dc,ay,aH];simp
 |cons t l q=>
  intro l' h hv hd hb ho ha hl
  rw [L7] at hl
  obtain ⟨z,A,hl⟩:=i8 hl
  obtain ⟨m,B,hl⟩:=i8 hl
  injection hl with hl;subst hl
  rw [aZ] at ho
  rw [ca,qC] at ha
  rw [aH] at hb
  have O:=IB kd
  have j:rP false (-1) 24 t=true:=by
   have:=ha.1
   rw [at8 t (by omega) (BF 24)] at this;exact this
  obtain ⟨E,F,I,T⟩:=h t (by simp) (v:=v) (d:=d+av kd) (by omega) (by omega) (by omega) ho.1 j A
  obtain ⟨J,q2,L,W,Y⟩:=q (fun x M=>h x (by simp [M])) hv hd (by omega) ho.2 ha.2 B
  rw [aZ,ca,dc,ay,ay,aH,aH,uL,uL]
  refine ⟨⟨E,J⟩, ?_, ?_,by omega,by omega⟩
  ·rw [qC,at8 z (show (24:Int)<=24+av kd by omega) (BF 24)];exact ⟨F,q2⟩
  ·rw [I,L,Nat.add_mul];omega
theorem ahC: ∀ {l l':LB},(∀b∈l,∀x∈b.c,wF n u x)->0<=v->0<=d->v+aO l+1<=1000->ba l->ck false (-1) 24 kd l=true->IE n u v d kd l= .ok l'->
  ba l'/\ck false (-1) 24 kd l'=true/\aI l'=aI l+Ib (n+v) l*(au u-1)/\aO l'<=aO l+am u/\l'.length=l.length/\l'.all (bX kd 24)=l.all (bX kd 24):=by
 intro l
 induction l with
 |nil=>intro l' _ _ _ _ _ _ h;rw [IE] at h;injection h with h;subst h;rw [ba,ck,Ib,aI,aO];simp
 |cons b l B=>
  intro l' h hv hd hb ho ha hl
  rw [IE] at hl
  obtain ⟨W,j,hl⟩:=i8 hl
  obtain ⟨m,E,hl⟩:=i8 hl
  injection hl with hl;subst hl
  obtain ⟨f,q⟩:=b
  rw [AJ] at j
  obtain ⟨z,F,j⟩:=i8 j
  injection j with j;subst j
  rw [ba,fc] at ho
  rw [ck,jT,qC] at ha
  rw [aO,Fy] at hb
  obtain ⟨I,q2,J,Y,q5,L⟩:=B (fun b hb=>h b (by simp [hb])) hv hd (by omega) ho.2 ha.2 E
  obtain ⟨M,O,T,p4,A⟩:=ahB (n:=n) (u:=u) (kd:=kd) (l:=q) (h ⟨f,q⟩ (by simp)) hv hd (by omega) ho.1.2 ha.1 F
  rw [ba,fc,ck,jT,Ib,Dv,aI,aI,Ho,Ho,aO,aO,Fy,Fy,uL,uL,EZ,EZ,L]
  refine ⟨⟨⟨⟨ho.1.1.1,ho.1.1.2.1,by rw [A];exact ho.1.1.2.2⟩,M⟩,I⟩,by rw [qC];exact ⟨O,q2⟩, ?_,by omega,by omega, ?_⟩
  ·rw [T,J,Nat.add_mul];omega
  ·have:bX kd 24 ⟨f,z⟩=bX kd 24 ⟨f,q⟩:=by unfold bX;simp only [A]
   rw [this]
theorem F8 (hu:Fm u) (hn:0<=n) (t:Tm):wF n u t:=by
 induction t using gq with
 |h kd m nm r J sys x z=>
  intro v d o hv hd hb j ha h
  rw [HZ] at h
  have A:=j
  rw [p9] at j
  rw [am] at hb
  have L:=ha
  rw [rP] at ha
  simp only [Bool.false_and,ub,Bool.true_and,qC] at ha
  obtain ⟨q2,M,O⟩:=ha
  split at h
  ·rename_i hc
   have fo:=mD (by omega) hu h
   have u1:=(Fm.f2 hu).up (by omega) h
   have q:J=[]/\sys=[]:=by
    unfold cL at q2
    simp only [qC,decide_eq_true_eq] at q2
    obtain ⟨⟨a1,_,_,a4⟩,_⟩:=q2
    rw [hc.1] at a1 a4
    have:ct 1=0:=rfl
    exact ⟨L3.1 (by omega),L3.1 (a4 rfl)⟩
   obtain ⟨m1,h1,h2⟩:=i8 h
   have B:=uP (by omega) (by omega) u 0 0 m1 h1
   have E:=uP (by omega) (by omega) m1 0 0 o h2
   have T:au o=au u:=by rw [E.2.1,B.2.1]
   have F:am o=am u:=by rw [E.1,B.1]
   refine ⟨fo.ok,(Iz fo.2).2.2, ?_,by omega⟩
   rw [T,q.1,q.2,BC,if_pos hc,cE,Ib,au,ay,aI]
   have:=mB u
   omega
  ·rename_i hc
   obtain ⟨W,F,h⟩:=i8 h
   obtain ⟨I,Y,h⟩:=i8 h
   injection h with h;subst h
   obtain ⟨k1,k2,k3,k4,k5⟩:=ahA x hv hd (by omega) j.2.1 M F
   obtain ⟨s1,s2,s3,s4,s5,s6⟩:=ahC z hv hd (by omega) j.2.2 O Y
   obtain ⟨o1,o2,o3,o4,o5,o6,o7⟩:=j.1
   have hm:0<=m->0<=(if kd=1/\m>n+v then m-1 else m):=by intro h;split<;>omega
   refine ⟨?_, ?_, ?_, ?_⟩
   ·rw [p9]
    exact ⟨⟨o1,by unfold aG at*;split<;>omega,o3,o4,o5,by omega,by omega⟩,k1,s1⟩
   ·rw [rP,k2,s2]
    simp only [Bool.false_and,ub,Bool.true_and,Bool.and_true]
    unfold cL at q2 ⊢
    simp only [qC,decide_eq_true_eq] at q2 ⊢
    rw [k5,s5,s6]
    obtain ⟨⟨a1,a2,a3,a4⟩,a5⟩:=q2
    refine ⟨⟨a1, ?_,a3,a4⟩, ?_⟩
    ·by_cases c:kd=1
     ·exact .inl c
     ·exact .inr (by rw [if_neg (fun h=>c h.1)];exact a2.resolve_left c)
    ·by_cases c1:kd=1
     ·rw [if_pos c1] at a5 ⊢
      simp only [qC,decide_eq_true_eq] at a5 ⊢
      exact ⟨a5.1,hm a5.2.1,.inl (by decide)⟩
     ·rw [if_neg c1] at a5 ⊢;exact a5
   ·rw [BC,if_neg hc,au,au,k3,s3,FF,Nat.add_mul];omega
   ·rw [am,am];omega
end
theorem qU {n:Int} (hn:0<=n) {t u o:Tm} (j:Fm t) (hu:Fm u) (h:Jn n t u= .ok o):Fm o:=by
 unfold Jn at h
 split at h
 ·cases h
 rename_i A
 obtain ⟨B,h1,h⟩:=i8 h
 split at h
 ·cases h
 rename_i h2
 injection h with h;subst h
 obtain ⟨d1,d2,d3⟩:=Iz j.2
 obtain ⟨q,x,z,E⟩:=F8 hu hn t (BF 0) (BF 0) (by omega) j.ok d3 h1
 rw [xm] at z
 exact ⟨q,pS (by omega) (by omega) x⟩
theorem F7 {n:Int} {u:Tm} (t:Tm): ∀ {v d e:Int},HZ n u v d t= .error e->0<e/\e<=1000:=by
 induction t using gq with
 |h kd m F r I sys q z=>
  intro v d e h
  have hk: ∀ {l:LT} {i:Nat},(∀x∈l,∀ {v d e:Int},HZ n u v d x= .error e->0<e/\e<=1000)->dX n u v d kd i l= .error e->0<e/\e<=1000:=by
   intro l
   induction l with
   |nil=>intro i _ h;rw [dX] at h;cases h
   |cons t l j=>
    intro i h hl
    rw [dX] at hl
    rcases be hl with hl|⟨_,_,hl⟩
    ·exact h t (by simp) hl
    rcases be hl with hl|⟨_,_,hl⟩
    ·exact j (fun x A=>h x (by simp [A])) hl
    ·cases hl
  have E: ∀ {l:LT},(∀x∈l,∀ {v d e:Int},HZ n u v d x= .error e->0<e/\e<=1000)->L7 n u v d kd l= .error e->0<e/\e<=1000:=by
   intro l
   induction l with
   |nil=>intro _ h;rw [L7] at h;cases h
   |cons t l j=>
    intro h hl
    rw [L7] at hl
    rcases be hl with hl|⟨_,_,hl⟩
    ·exact h t (by simp) hl
    rcases be hl with hl|⟨_,_,hl⟩
    ·exact j (fun x A=>h x (by simp [A])) hl
    ·cases hl
  have hs: ∀ {l:LB},(∀b∈l,∀x∈b.c,∀ {v d e:Int},HZ n u v d x= .error e->0<e/\e<=1000)->IE n u v d kd l= .error e->0<e/\e<=1000:=by
   intro l
   induction l with
   |nil=>intro _ h;rw [IE] at h;cases h
   |cons b l j=>
    intro h hl
    rw [IE] at hl
    obtain ⟨f,B⟩:=b
    rcases be hl with hl|⟨_,_,hl⟩
    ·rw [AJ] at hl
     rcases be hl with hl|⟨_,_,hl⟩
     ·exact E (h ⟨f,B⟩ (by simp)) hl
     ·cases hl
    ·rcases be hl with hl|⟨_,_,hl⟩
     ·exact j (fun b hb=>h b (by simp [hb])) hl
     ·cases hl
  rw [HZ] at h
  split at h
  ·exact zn h
  ·rcases be h with h|⟨_,_,h⟩
   ·exact hk q h
   ·rcases be h with h|⟨_,_,h⟩
    ·exact hs z h
    ·cases h
theorem AL {n:Int} {t u:Tm} {e:Int} (h:Jn n t u= .error e):0<e/\e<=1000:=by
 unfold Jn at h
 split at h
 ·injection h with h;omega
 ·rcases be h with h|⟨_,_,h⟩
  ·exact F7 t h
  ·split at h
   ·injection h with h;omega
   ·cases h
def sh {α:Type} (t:Tm) (x:Except Int α):Except Int α:=if bw t=0 then x else .error (bw t)
theorem z7 {α:Type} {t:Tm} {x:Except Int α} {e:Int} (j: ∀e,x= .error e->0<e/\e<=1000) (h:sh t x= .error e):0<e/\e<=1000:=by
 unfold sh at h
 split at h
 ·exact j e h
 ·rename_i q
  injection h with h
  have:=Et t;omega
def wA (a b:Int) (t:Tm):Except Int Tm:=sh t (J6 a b t)
def pH (f b:Int) (t:Tm):Except Int Tm:=sh t (uA 0 b 0 f t)
def sI (i:Int) (r:LC) (t:Tm):Except Int Tm:=sh t (Ao i r t)
theorem dj {e:Int} (h:e≠0):(e==0)=false:=by simpa using h
theorem aiH (hk:F3 k) {t:Tm} (j:In k t) {vb db:Int} (q:0<=vb/\vb<=1000000) (x:0<=db/\db<9223372036854775808) (I:Tm×Int->OS S):lu k t vb db I=I (tE (wA vb db t)):=by
 unfold wA sh
 by_cases h:bw t=0
 ·rw [if_pos h];exact He hk ⟨j.1,h⟩ q x I
 ·rw [if_neg h]
  simp only [lu,ag hk.fu,ar,y7,BS,E9 j.1 j.2.1 j.dep,dj h,ub,ae];rfl
theorem HM (hk:F3 k) {t:Tm} (j:In k t) {f b:Int} (hf:0<=f/\f<=24) (hb:0<=b/\b<9223372036854775808) (I:Tm×Int->OS S):lv k t f b I=I (tE (pH f b t)):=by
 unfold pH sh
 by_cases h:bw t=0
 ·rw [if_pos h];exact Rr hk ⟨j.1,h⟩ hf hb I
 ·rw [if_neg h]
  simp only [lv,ag hk.fu,ar,yZ,BQ,E9 j.1 j.2.1 j.dep,dj h,ub,ae];rfl
theorem ap8 (hk:F3 k) {t:Tm} (j:In k t) {i:Int} (q:0<=i/\i<24) {r:LC} (x:RF r) (I:Tm×Int->OS S):m_ k t i r I=I (tE (sI i r t)):=by
 unfold sI sh
 by_cases h:bw t=0
 ·rw [if_pos h];exact Ra hk ⟨j.1,h⟩ q x I
 ·rw [if_neg h]
  simp only [m_,ag hk.fu,ar,DM,E9 j.1 j.2.1 j.dep,dj h,ub,ae];rfl
end
section
theorem agi (t:Tm): ∀ {v v' d d':Int},v+am t<=1000000000->v'+am t<=1000000000->uA 0 0 v d t=uA 0 0 v' d' t:=by
 induction t using gq with
 |h kd n J r L sys A B=>
  intro v v' d d' h h'
  rw [am] at h h'
  have hk: ∀ {l:LT} {i:Nat},(∀x∈l,∀ {v v' d d':Int},v+am x<=1000000000->v'+am x<=1000000000->uA 0 0 v d x=uA 0 0 v' d' x)->v+aH l+1<=1000000000->v'+aH l+1<=1000000000->dm 0 0 v d kd i l=dm 0 0 v' d' kd i l:=by
   intro l
   induction l with
   |nil=>intro i _ _ _;rw [dm,dm]
   |cons t l j=>
    intro i h h1 h2
    rw [aH] at h1 h2
    have:=g7 kd i
    rw [dm,dm,h t (by simp) (v:=v+tZ kd i) (v':=v'+tZ kd i) (d:=d+bJ kd i) (d':=d'+bJ kd i) (by omega) (by omega),j (fun x E=>h x (by simp [E])) (by omega) (by omega)]
  have F: ∀ {l:LT},(∀x∈l,∀ {v v' d d':Int},v+am x<=1000000000->v'+am x<=1000000000->uA 0 0 v d x=uA 0 0 v' d' x)->v+aH l+1<=1000000000->v'+aH l+1<=1000000000->FK 0 0 v d kd l=FK 0 0 v' d' kd l:=by
   intro l
   induction l with
   |nil=>intro _ _ _;rw [FK,FK]
   |cons t l j=>
    intro h h1 h2
    rw [aH] at h1 h2
    rw [FK,FK,h t (by simp) (v:=v) (v':=v') (d:=d+av kd) (d':=d'+av kd) (by omega) (by omega),j (fun x E=>h x (by simp [E])) (by omega) (by omega)]
  have z: ∀ {d:Int} {f:LC},Dc d 0 f= .ok f:=fun {d f}=>if_pos (.inl rfl)
  have hs: ∀ {l:LB},(∀b∈l,∀x∈b.c,∀ {v v' d d':Int},v+am x<=1000000000->v'+am x<=1000000000->uA 0 0 v d x=uA 0 0 v' d' x)->v+aO l+1<=1000000000->v'+aO l+1<=1000000000->DQ 0 0 v d kd l=DQ 0 0 v' d' kd l:=by
   intro l
   induction l with
   |nil=>intro _ _ _;rw [DQ,DQ]
   |cons b l j=>
    intro h h1 h2
    obtain ⟨f,q⟩:=b
    rw [aO,Fy] at h1 h2
    rw [DQ,DQ,n8,n8,z,z,aD,aD,F (l:=q) (h ⟨f,q⟩ (by simp)) (by omega) (by omega),j (fun b hb=>h b (by simp [hb])) (by omega) (by omega)]
  rw [uA,uA,z,z,aD,aD,hk A (by omega) (by omega),hs B (by omega) (by omega)]
  have I:(kd=1/\n>=v/\n>1000000000-0)↔(kd=1/\n>=v'/\n>1000000000-0):=by omega
  simp only [I,xm,ite_self]
variable {S:Type} {k:Nat}
def c6 (l:LT) (x:Except Int Tm):Except Int Tm:=if xV l=0 then FJ x else .error (xV l)
theorem soM {l:LT} {p:Tm×Int} {x:Except Int Tm} (j:xV l=0->Mf p=x) (hc:xV l≠0->p.2=xV l):FJ (Mf p)=c6 l x:=by
 unfold c6
 by_cases h:xV l=0
 ·grind
 ·rw [if_neg h]
  unfold Mf
  rw [hc h,if_neg h];rfl
theorem aFS {c:Int} {t a f y:Tm} (h:(Tc c t a f y).2=0):c=0:=by
 grind [aA3]
theorem aI1 {p:Tm×Int} (h:p.2=0):Mf p= .ok p.1:=if_pos h
theorem aHT (hk:F3 k) {t a f y:Tm} (A:In k t) (ha:In k a) (hf:In k f) (E:In k y) (I:Tm×Int->OS S):L1 k t a f y I=I (tE (c6 [t,a,f,y] (ID t a f y))):=by
 have z: ∀x∈[t,a,f,y],In k x:=fun x B=>by
  grind
 have j:xV [t,a,f,y]=0-> ∀x∈[t,a,f,y],Fm x:=fun h=>R0 (fun x B=>(z x B).1) h
 simp only [L1,ag hk.fu,ar,Re hk z (by simp),vU t A.1 _ A.2.1,aIa hk (fun h=>j h a (by simp)) (fun h=>j h f (by simp)) (fun h=>j h y (by simp))]
 refine (Rk hk (t:=(Tc (xV [t,a,f,y]) t a f y).1) (fun h=> ?_) I).trans ?_
 ·have q:=aFS h
  have:=aI1 h
  rw [q,aA4] at this
  rw [q]
  exact (aA5 (by omega) (by omega) (j q t (by simp)).f2 (j q a (by simp)).f2 (j q f (by simp)).f2 (j q y (by simp)).f2 this).isIn hk (by omega) (by omega)
 grind [soM,aA4,aA3]
structure Gd (x:Except Int Tm):Prop where
 en: ∀e,x= .error e->0<e/\e<=1000
 kd: ∀t,x= .ok t->0<=t.k
theorem akc (hk:F3 k) {l:LT} {x:Except Int Tm} (j:xV l=0-> ∀t,x= .ok t->In k t):In k (tE (c6 l x)).1:=by
 unfold c6
 by_cases h:xV l=0
 ·rw [if_pos h]
  unfold FJ
  cases q:x with
  |error e=>exact gQ hk
  |ok t=>
   rw [aD]
   split
   ·exact j h t q
   ·exact gQ hk
 ·rw [if_neg h];exact gQ hk
def k3 (r:LC):Tm:= .mk 13 0 qw r [dS 10 [vN 0],vN 1,dS 9 [vN 0]] []
def Tu:LT:=[dS 5 [vN 0],dS 5 [dS 8 [dS 8 [vN 0,dS 12 [vN 0]],dS 5 [dS 12 [dS 8 [k3 [⟨1,0⟩],dS 12 [k3 [⟨3,0⟩]]]]]]]]
theorem aF9 (q:Nat) (I:Int×Int×BA×LT->OS S):k4 (q+100) I=I (8,0,qw,Tu):=by kernel_rfl
theorem aFR:bw (dS 8 Tu)=0:=by kernel_rfl
section
variable {hd:Tm->(Tm->OS S)->OS S} {t:Tm}
end
def J4 (sys:LB):Tm:= .mk 15 0 qw [] [.mk 3 0 qw [] [] [],.mk 3 0 qw [] [] []] sys
theorem RY (hk:Fu k) (sys:LB) (I:Int×Int×BA×LT×LB->OS S):mv k sys I=I (15,0,qw,[.mk 3 0 qw [] [] [],.mk 3 0 qw [] [] []],sys):=by
 simp_all [mv,xH,ag]
def AK (b:Br Tm):Tm:=b.c.headD pX
structure SyF (sys:LB):Prop where
 bD: ∀b∈sys,b.c=[AK b]/\Fm (AK b)/\aq b.f/\b.f.length<1073741824
 len:sys.length<=20000
 eO:aI sys<=20000
theorem iQ {sys:LB} (h:Fm (J4 sys)):SyF sys:=by
 obtain ⟨h1,h2,B⟩:=Iz h.2
 have J:au (J4 sys)=3+aI sys:=by rfl
 have hd:aO sys+1<=am (J4 sys):=by grind [J4,am]
 unfold J4 at B
 rw [rP] at B
 simp only [qC] at B
 obtain ⟨_,ho,_,E⟩:=B
 have ho:(sys.all (bX 15 24)&&decide (([]:LC).length=0))=true:=by
  grind [cL]
 simp only [qC] at ho
 have hb:=zf.1 ho.1
 rw [wH,zf] at E
 have hk: ∀b∈sys,b.c=[AK b]/\Fm (AK b)/\aq b.f/\b.f.length<1073741824:=by
  intro b q
  have A:=hb b q
  unfold bX at A
  simp only [qC,decide_eq_true_eq] at A
  have hl:b.c.length=1:=by grind [Ah]
  have z:=h.1.br (by exact q:b∈sys)
  match F:b.c,hl with
  |[x],_=>
   have I:AK b=x:=by grind [AK]
   have j:x∈b.c:=by grind
   rw [I]
   refine ⟨rfl,⟨z.2 x j,pS ?_ ?_ ?_⟩,z.1.1,z.1.2.1⟩
   ·have:=D0 j;have:=JP q;omega
   ·have:=k_ j;have:=we q;omega
   ·have:=zf.1 (E b q) x j
    rw [<-this]
    exact at8 x (by omega) (by decide)
 have hlen: ∀l:LB,(∀b∈l,b.c=[AK b])->l.length<=aI l:=by
  intro l
  induction l<;>grind [aI,kZ,ay,mB]
 exact ⟨hk,by grind,by omega⟩
def g_ (line:Tm):LB->Except Int (LB)
 |[]=> .ok []
 |b::r=>bE (di [⟨1,0⟩,⟨2,0⟩] line) fun u=>bE (g_ line r) fun l=> .ok (.mk b.f [.mk 14 0 qw [⟨1,0⟩] [u,AK b] []]::l)
def dF (line a:Tm) (sys:LB):Except Int Tm:=bE (Ao 0 [⟨0,0⟩] line) fun h=>bE (g_ line sys) fun l=> .ok (.mk 15 0 qw [] [h,dS 14 [line,a]] l)
theorem QA:RF [⟨1,0⟩,⟨2,0⟩]:=by
 refine ⟨by rfl,fun c hc=> ?_⟩
 simp only [BB,List.not_mem_nil,or_false] at hc
 rcases hc with rfl|rfl
 ·exact ⟨⟨by decide,by decide⟩,by decide,by decide⟩
 ·exact ⟨⟨by decide,by decide⟩,by decide,by decide⟩
theorem Qz:RF [⟨0,0⟩]:=gS ⟨⟨by decide,by decide⟩,by decide,by decide⟩
theorem agZ:aq [⟨1,0⟩]:=fun c hc=>by grind [ag1]
theorem zv {r:LC} {t y:Tm} (j:Fm t) (h:Ao 0 r t= .ok y):p9 y/\am y<=200/\au y<=20000:=by
 obtain ⟨x,z,A,q⟩:=T0 h
 have B:=q j.ok j.rows
 have:=j.dep;have:=j.eO
 grind
theorem aaa {line:Tm}: ∀ {r:LB} {e:Int},g_ line r= .error e->0<e/\e<=1000:=by
 intro r
 induction r with
 |nil=>intro e h;cases h
 |cons b r j=>
  intro e h
  rcases be h with h|⟨_,_,h⟩<;>grind [be,li]
theorem o_ {line a:Tm} {sys:LB} {e:Int} (h:dF line a sys= .error e):0<e/\e<=1000:=by
 rcases be h with h|⟨_,_,h⟩
 ·exact j9 h
 rcases be h with h|⟨_,_,h⟩
 ·exact aaa h
 simp_all
theorem aab {line:Tm} (hl:Fm line): ∀ {r l:LB},(∀b∈r,b.c=[AK b]/\Fm (AK b)/\aq b.f/\b.f.length<1073741824)->g_ line r= .ok l->ba l/\aO l<=201/\aI l<=r.length*20001+aI r/\l.length=r.length:=by
 intro r
 induction r with
 |nil=>
  intro l _ h
  injection h with h;grind [ba,aO]
 |cons b r x=>
  intro l j h
  obtain ⟨u,h1,h⟩:=i8 h
  obtain ⟨B,h2,h⟩:=i8 h
  injection h with h;subst h
  obtain ⟨E,q,z,A⟩:=j b (by simp)
  obtain ⟨i1,i2,i3,i4⟩:=x (fun b hb=>j b (by simp [hb])) h2
  obtain ⟨a1,a2,a3,a4⟩:=Jo hl h1
  have:=q.dep
  refine ⟨?_, ?_, ?_,by simp [i4]⟩
  ·rw [ba,fc,aZ,aZ,p9,aZ,aZ,aZ,ba]
   refine ⟨⟨⟨z,A,by simp⟩,⟨⟨by unfold aG;omega,by unfold aG;omega,by simp,agZ,by simp,by simp,by simp⟩,⟨a1,q.ok,trivial⟩,trivial⟩,trivial⟩,i1⟩
  all_goals grind [aO,Fy,aH,am,aI,ay,au,kZ]
theorem yu (hk:F3 k) {line a:Tm} {sys:LB} (hl:Fm line) (ha:Fm a) (hs:SyF sys) {t:Tm} (h:dF line a sys= .ok t):In k t/\0<=t.k:=by
 obtain ⟨q,h1,h⟩:=i8 h
 obtain ⟨l,h2,h⟩:=i8 h
 injection h with h;subst h
 obtain ⟨a1,a2,a3⟩:=zv hl h1
 obtain ⟨i1,i2,i3,i4⟩:=aab hl hs.bD h2
 have:=hs.len;have:=hs.eO;have:=hl.dep;have:=ha.dep;have:=hl.eO;have:=ha.eO
 have z:sys.length*20001<=20000*20001:=Iq _ hs.len
 refine ⟨⟨?_,hk.fd ?_, ?_⟩,(by decide:(0:Int)<=15)⟩
 ·rw [p9,aZ,aZ,aZ]
  exact ⟨⟨by unfold aG;omega,by unfold aG;omega,by simp,fun c hc=>(by cases hc),by simp,by simp,by omega⟩,⟨a1,ag2 (by omega) (by simp) fun x j=>by
   simp at j
   rcases j with rfl|rfl
   ·exact hl.ok
   ·exact ha.ok,trivial⟩,i1⟩
 ·grind [dS,am,aH,aO]
 ·unfold dS;rw [au,ay,ay,ay,au,ay,ay,ay,aI];omega
theorem ai_ (hk:F3 k) {c:Int} {t:Tm} (h:c=0->Fm t) (I:Tm×Int->OS S):yz k t c I=I (if c=0 then tE (Ao 0 [⟨0,0⟩] t) else (pX,c)):=by
 simp only [yz,ag hk.fu,de,bG,T5,ar]
 by_cases hc:c=0
 ·grind [n3,Ra,Qz,rI]
 ·rw [decide_eq_false hc,ub,ae,if_neg hc];rfl
theorem E6 (hk:F3 k) (I:Tm×Int->OS S) {line:Tm} {q:Int×Int×BA×LT} {w:Tm} {c:Int} (hc:c≠0) (z:w.s.length<1073741824):
  ∀ (r p acc:LB) (m:Nat),w.s=p++r->0<m->ko k I line q w m c acc (p.length:Int)=I (pX,c):=by
 intro r p acc m h A
 obtain ⟨m,rfl⟩: ∃j,m=j+1:=⟨m-1,by omega⟩
 cases r with
 |nil=>grind [ko,oP,n3,ar,ag,rG]
 |cons x r=>
  obtain ⟨B,E,F,J⟩:=sX h (by omega)
  grind [ko,oP,ae,de,ar,ag,rG]
theorem aeu (hk:F3 k) (I:Tm×Int->OS S) {line:Tm} (hl:Fm line) {q:Int×Int×BA×LT} {w:Tm} (L:w.s.length<1073741824) (hs: ∀b∈w.s,b.c=[AK b]):
  ∀ (r p acc:LB) (m:Nat),w.s=p++r->r.length<m->acc.length+r.length<1073741824->
   ko k I line q w m 0 acc (p.length:Int)=eE (g_ line r) (fun l=>eQ k (.mk q.1 q.2.1 q.2.2.1 [] q.2.2.2 (acc++l)) 0 fun z=>I (z.1,z.2.1)) fun e=>I (pX,e):=by
 intro r
 induction r with
 |nil=>
  intro p acc m h A ha
  obtain ⟨m,rfl,j⟩:=qI A
  simp only [ko,oP,zt h,n3,ag hk.fu,ar,g_,aP,zr]
 |cons x r M=>
  intro p acc m h A ha
  obtain ⟨m,rfl,j⟩:=qI A
  obtain ⟨O,T,F,J⟩:=sX h (by omega)
  have W:=hs x (by grind)
  have Y:af x.c 0=some (AK x):=by rw [W];rfl
  have B: ∀g:Tm×Int->OS S,lr k line [⟨1,0⟩,⟨2,0⟩] 0 g=g (tE (di [⟨1,0⟩,⟨2,0⟩] line)):=fun g=>Rd hk hl QA g
  simp only [ko,oP,O,ae,T,rf,ag hk.fu,de,bG,show decide ((0:Int)=0)=true from rfl,xJ,n3,ar,B,Y,xH]
  rw [J5 (by grind),g_,AS]
  cases E:di [⟨1,0⟩,⟨2,0⟩] line with
  |error e=>
   have he:=li E
   rw [F]
   exact E6 hk I (show e≠0 by omega) L r (p++[x]) _ m J (by grind)
  |ok u=>
   rw [aP,AS,F]
   refine (M (p++[x]) (acc++[.mk x.f [.mk 14 0 qw [⟨1,0⟩] [u,AK x] []]]) m J j (by grind)).trans ?_
   grind [aP]
theorem aiI (hk:F3 k) {line a:Tm} {sys:LB} (hl:In k line) (ha:In k a) (hs:In k (J4 sys)) (I:Tm×Int->OS S):yx k line a sys I=I (tE (c6 [line,a,J4 sys] (dF line a sys))):=by
 have B: ∀x∈[line,a,J4 sys],In k x:=fun x F=>by
  grind
 have j:xV [line,a,J4 sys]=0-> ∀x∈[line,a,J4 sys],Fm x:=fun h=>R0 (fun x F=>(B x F).1) h
 have q:sys.length<1073741824:=hs.1.node.2.2.2.2.2.2
 simp only [yx,Hq,ag hk.fu,ar,RY hk.fu]
 have hb: ∀g:Int->OS S,m9 k [line,a,.mk 15 0 qw [] [.mk 3 0 qw [] [] [],.mk 3 0 qw [] [] []] sys] g=g (xV [line,a,J4 sys]):=fun g=>Re hk B (by simp) g
 have hc: ∀g:Tm->OS S,dJ k (.mk 15 0 qw [] [.mk 3 0 qw [] [] [],.mk 3 0 qw [] [] []] sys) g=g (J4 sys):=fun g=>vU (J4 sys) hs.1 g hs.2.1
 simp only [hb,hc,vU line hl.1 _ hl.2.1,vU a ha.1 _ ha.2.1,ai_ hk (fun h=>j h line (by simp)),xH]
 unfold c6
 by_cases A:xV [line,a,J4 sys]=0
 ·have fl:=j A line (by simp)
  have fa:=j A a (by simp)
  have sy:=iQ (j A (J4 sys) (by simp))
  simp only [A,if_true]
  have E:I (tE (FJ (dF line a sys)))=eE (dF line a sys) (fun t=>eQ k t 0 fun z=>I (z.1,z.2.1)) fun e=>I (pX,e):=by
   unfold FJ
   rw [ME _ I,AS]
   refine Hg (fun t J=> ?_) fun _ _=>rfl
   rw [<-ME _ I]
   exact ((Rk hk (t:=t) (c:=0) (fun _=>(yu hk fl fa sy J).1) I).trans rfl).symm
  rw [E]
  unfold dF
  rw [AS]
  cases h1:Ao 0 [⟨0,0⟩] line with
  |error e=>
   have he:=j9 h1
   exact E6 hk I (w:=J4 sys) (show e≠0 by omega) q sys [] [] k rfl (by omega)
  |ok L=>
   rw [aP,AS]
   refine (aeu hk I fl (w:=J4 sys) q (fun b hb=>(sy.bD b hb).1) sys [] [] k rfl (by omega) (by grind)).trans ?_
   rfl
 ·simp only [if_neg A]
  exact E6 hk I (w:=J4 sys) A q sys [] [] k rfl (by omega)
def gK:LB->Except Int (LB)
 |[]=> .ok []
 |b::r=>bE (NF (ua b.f 0 1)) fun f=>bE (di [⟨3,0⟩] (AK b)) fun u=>bE (gK r) fun l=> .ok (.mk f [u]::l)
def FI (t a:Tm) (sys:LB):Except Int Tm:=bE (J6 0 1 t) fun h=>bE (J6 0 1 a) fun a'=>bE (gK sys) fun l=>bE (J6 0 2 a) fun a2=> .ok (.mk 15 0 qw [] [h,a'] (l++[.mk [⟨0,1⟩] [a2]]))
theorem acQ: ∀ {r:LB} {e:Int},gK r= .error e->0<e/\e<=1000:=by
 intro r
 induction r with
 |nil=>intro e h;cases h
 |cons b r j=>
  intro e h
  rcases be h with h|⟨_,_,h⟩<;>grind [be,T2,q_,li]
theorem uw {t a:Tm} {sys:LB} {e:Int} (h:FI t a sys= .error e):0<e/\e<=1000:=by
 rcases be h with h|⟨_,_,h⟩
 ·exact zn h
 rcases be h with h|⟨_,_,h⟩
 ·exact zn h
 rcases be h with h|⟨_,_,h⟩
 ·exact acQ h
 rcases be h with h|⟨_,_,h⟩
 ·exact zn h
 simp_all
theorem acR: ∀ {r l:LB},(∀b∈r,b.c=[AK b]/\Fm (AK b)/\aq b.f/\b.f.length<1073741824)->gK r= .ok l->ba l/\aO l<=201/\aI l<=r.length*20001/\l.length=r.length:=by
 intro r
 induction r with
 |nil=>
  intro l _ h
  injection h with h;grind [ba,aO,aI]
 |cons b r q=>
  intro l j h
  obtain ⟨f,x,h⟩:=i8 h
  obtain ⟨u,h1,h⟩:=i8 h
  obtain ⟨A,h2,h⟩:=i8 h
  injection h with h;subst h
  obtain ⟨B,z,E,F⟩:=j b (by simp)
  obtain ⟨i1,i2,i3,i4⟩:=q (fun b hb=>j b (by simp [hb])) h2
  obtain ⟨a1,a2,a3,a4⟩:=Jo z h1
  obtain ⟨g1,rfl⟩:=rR x
  have hf:=kQ g1
  have:=hf.len
  refine ⟨?_, ?_, ?_,by simp [i4]⟩
  ·rw [ba,fc,aZ,aZ]
   exact ⟨⟨⟨hf.2,by omega,by simp⟩,a1,trivial⟩,i1⟩
  all_goals grind [aO,Fy,aH,aI,Ho,ay]
theorem NQ {l l':LB} (h:ba l) (h':ba l'):ba (l++l'):=by
 grind [NR]
theorem zF (l l':LB):aO (l++l')=max (aO l) (aO l'):=by
 induction l<;>grind [aO]
theorem R1 (l l':LB):aI (l++l')=aI l+aI l':=by
 induction l<;>grind [aI]
theorem agY:aq [⟨0,1⟩]:=fun c hc=>by grind [ag0]
theorem ux (hk:F3 k) {t a:Tm} {sys:LB} (j:Fm t) (ha:Fm a) (hs:SyF sys) {x:Tm} (h:FI t a sys= .ok x):In k x/\0<=x.k:=by
 obtain ⟨A,h1,h⟩:=i8 h
 obtain ⟨a',h2,h⟩:=i8 h
 obtain ⟨l,q,h⟩:=i8 h
 obtain ⟨a2,z,h⟩:=i8 h
 injection h with h;subst h
 have f1:=mD (by omega) j h1
 have f2:=mD (by omega) ha h2
 have f4:=mD (by omega) ha z
 obtain ⟨i1,i2,i3,i4⟩:=acR hs.bD q
 have:=hs.len;have:=f1.dep;have:=f2.dep;have:=f4.dep;have:=f1.eO;have:=f2.eO;have:=f4.eO
 have B:sys.length*20001<=20000*20001:=Iq _ hs.len
 refine ⟨⟨?_,hk.fd ?_, ?_⟩,(by decide:(0:Int)<=15)⟩
 ·rw [p9,aZ,aZ,aZ]
  refine ⟨⟨by unfold aG;omega,by unfold aG;omega,by simp,fun c hc=>(by cases hc),by simp,by simp,by grind⟩,⟨f1.ok,f2.ok,trivial⟩,NQ i1 ?_⟩
  rw [ba,ba,fc,aZ,aZ]
  exact ⟨⟨⟨agY,by simp,by simp⟩,f4.ok,trivial⟩,trivial⟩
 all_goals grind [am,aH,zF,aO,Fy,au,ay,R1,aI,Ho]
theorem uI (hk:F3 k) (I:Tm×Int->OS S) {a:Tm} {q:Int×Int×BA×LT} {sys:LB} {c:Int} (hc:c≠0) (z:sys.length<1073741824):
  ∀ (r p acc:LB) (m:Nat),sys=p++r->0<m->acc.length<1073741824->gM k I a q sys m c acc (p.length:Int)=I (pX,c):=by
 intro r p acc m h A ha
 obtain ⟨m,rfl⟩: ∃j,m=j+1:=⟨m-1,by omega⟩
 have B: ∀ (b:Br Tm) (f:Unit->OS S),pA (aw 1099511627776 acc.length [b].length) f=f ():=fun b f=>J5 (by grind) f
 cases r with
 |nil=>grind [gM,oQ,n3,ar,ag,Hh,rG]
 |cons x r=>
  obtain ⟨E,F,J,L⟩:=sX h (by omega)
  grind [gM,oQ,ae,de,ar,ag,Hh,rG]
theorem aeQ (hk:F3 k) (I:Tm×Int->OS S) {a:Tm} (ha:Fm a) {q:Int×Int×BA×LT} {sys:LB} (j:sys.length<1073741824) (hs: ∀b∈sys,b.c=[AK b]/\Fm (AK b)/\aq b.f/\b.f.length<1073741824):
  ∀ (r p acc:LB) (m:Nat),sys=p++r->r.length<m->acc.length+r.length<1073741823->
   gM k I a q sys m 0 acc (p.length:Int)=eE (bE (gK r) fun l=>bE (J6 0 2 a) fun a2=> .ok (l++[.mk [⟨0,1⟩] [a2]])) (fun l=>eQ k (.mk q.1 q.2.1 q.2.2.1 [] q.2.2.2 (acc++l)) 0 fun z=>I (z.1,z.2.1)) fun e=>I (pX,e):=by
 intro r
 induction r with
 |nil=>
  intro p acc m h E A
  obtain ⟨m,rfl,B⟩:=qI E
  have F: ∀ (b:Br Tm) (f:Unit->OS S),pA (aw 1099511627776 acc.length [b].length) f=f ():=fun b f=>J5 (by grind) f
  have J: ∀g:Tm×Int->OS S,Dh k a 0 2 0 g=g (tE (J6 0 2 a)):=fun g=>RW hk ha (by omega) (by omega) g
  simp only [gM,oQ,zt h,n3,ag hk.fu,ar,J,F,gK,aD]
  cases hu:J6 0 2 a with
  |error e=>
   have he:=zn hu
   show eQ k _ e _=I (pX,e)
   grind [rG]
  |ok a2=>rfl
 |cons x r O=>
  intro p acc m h E A
  obtain ⟨m,rfl,B⟩:=qI E
  obtain ⟨T,W,L,M⟩:=sX h (by omega)
  obtain ⟨x1,x2,x3,x4⟩:=hs x (by grind)
  have Y:af x.c 0=some (AK x):=by rw [x1];rfl
  have F: ∀ (b:Br Tm) (f:Unit->OS S),pA (aw 1099511627776 acc.length [b].length) f=f ():=fun b f=>J5 (by grind) f
  have qR: ∀g:LC×Int->OS S,tA k x.f 0 g=g (ua x.f 0 1):=fun g=>ajX hk x3 x4 g
  simp only [gM,oQ,T,ae,W,rf,ag hk.fu,de,bG,show decide ((0:Int)=0)=true from rfl,xJ,n3,ar,qR,Y,F]
  rw [gK,AS,AS]
  by_cases h1:(ua x.f 0 1).2=0
  ·rw [jF h1,aP,h1,Rd hk x2 QD,AS]
   cases h2:di [⟨3,0⟩] (AK x) with
   |error e=>
    have he:=li h2
    rw [L]
    exact uI hk I (show e≠0 by omega) j r (p++[x]) _ m M (by grind) (by grind)
   |ok u=>
    rw [aP,L]
    refine (O (p++[x]) (acc++[.mk (ua x.f 0 1).1 [u]]) m M B (by grind)).trans ?_
    rw [AS,AS]
    refine Hg (fun l _=> ?_) fun _ _=>rfl
    grind [AS,aP]
  ·rw [iO h1,j2 h1 hk,L]
   exact uI hk I h1 j r (p++[x]) _ m M (by grind) (by grind)
theorem aiO (hk:F3 k) {t a:Tm} {sys:LB} (J:In k t) (ha:In k a) (hs:In k (J4 sys)) (I:Tm×Int->OS S):yy k t a sys I=I (tE (c6 [t,a,J4 sys] (FI t a sys))):=by
 have E: ∀x∈[t,a,J4 sys],In k x:=fun x L=>by
  grind
 have j:xV [t,a,J4 sys]=0-> ∀x∈[t,a,J4 sys],Fm x:=fun h=>R0 (fun x L=>(E x L).1) h
 have q:sys.length<1073741824:=hs.1.node.2.2.2.2.2.2
 have hb: ∀g:Int->OS S,m9 k [t,a,.mk 15 0 qw [] [.mk 3 0 qw [] [] [],.mk 3 0 qw [] [] []] sys] g=g (xV [t,a,J4 sys]):=fun g=>Re hk E (by simp) g
 simp only [yy,Hr,ag hk.fu,ar,RY hk.fu,hb,xH,RV hk (fun h=>j h t (by simp)) (show (0:Int)<=0/\(0:Int)<=1000000 by omega) (show (0:Int)<=1/\(1:Int)<9223372036854775808 by omega),
  RV hk (fun h=>j (u' h) a (by simp)) (show (0:Int)<=0/\(0:Int)<=1000000 by omega) (show (0:Int)<=1/\(1:Int)<9223372036854775808 by omega)]
 unfold c6
 have B:sys.length<k:=by omega
 by_cases A:xV [t,a,J4 sys]=0
 ·have fl:=j A t (by simp)
  have fa:=j A a (by simp)
  have sy:=iQ (j A (J4 sys) (by simp))
  have hlen:=sy.len
  rw [A,if_pos rfl,T9]
  have F:I (tE (FJ (FI t a sys)))=eE (FI t a sys) (fun t=>eQ k t 0 fun z=>I (z.1,z.2.1)) fun e=>I (pX,e):=by
   unfold FJ
   rw [ME _ I,AS]
   refine Hg (fun t J=> ?_) fun _ _=>rfl
   rw [<-ME _ I]
   exact ((Rk hk (t:=t) (c:=0) (fun _=>(ux hk fl fa sy J).1) I).trans rfl).symm
  rw [F]
  unfold FI
  rw [AS]
  cases h1:J6 0 1 t with
  |error e=>
   have he:=zn h1
   show gM k I a _ sys k (mE e 0 1 a).2 [] 0=I (pX,e)
   rw [wz (show e≠0 by omega)]
   exact uI hk I (show e≠0 by omega) q sys [] [] k rfl (by omega) (by simp)
  |ok M=>
   rw [aP,AS]
   show gM k I a (15,0,qw,[M,(mE 0 0 1 a).1]) sys k (mE 0 0 1 a).2 [] 0=_
   rw [T9]
   cases h2:J6 0 1 a with
   |error e=>
    have he:=zn h2
    exact uI hk I (show e≠0 by omega) q sys [] [] k rfl (by omega) (by simp)
   |ok a'=>
    rw [aP]
    refine (aeQ hk I fa q sy.bD sys [] [] k rfl B (by grind)).trans ?_
    rw [AS,AS]
    refine Hg (fun l _=> ?_) fun _ _=>rfl
    rw [AS,AS]
    rfl
 ·rw [if_neg A,wz A]
  show gM k I a _ sys k (mE (xV [t,a,J4 sys]) 0 1 a).2 [] 0=_
  rw [wz A]
  exact uI hk I A q sys [] [] k rfl (by omega) (by simp)
def mM (c:Int) (x:Except Int Tm):Tm×Int:=if c=0 then tE x else (pX,c)
theorem kR (x:Except Int Tm):mM 0 x=tE x:=rfl
theorem n9 {c:Int} (h:c≠0) (x:Except Int Tm):mM c x=(pX,c):=if_neg h
theorem rJ (t:Tm) (e c:Int) (I:Tm×Int->OS S):Im k t e c I=I (if c=0 then (if e=0 then (t,0) else (pX,e)) else (pX,c)):=by
 simp only [Im,ar]
 by_cases hc:c=0
 ·subst hc
  rw [show ((0:Int)==0)=true from rfl,ae,if_pos rfl]
  by_cases he:e=0
  ·subst he;rfl
  ·rw [dj he,ub,ae,if_neg he];rfl
 ·rw [dj hc,n3,if_neg hc,ub,ae];rfl
theorem Lw (x:Except Int Tm) (h: ∀e,x= .error e->e≠0) (c:Int):(if c=0 then (if (tE x).2=0 then ((tE x).1,(0:Int)) else (pX,(tE x).2)) else (pX,c))=mM c x:=by
 unfold mM
 split
 ·cases x with
  |ok t=>rfl
  |error e=>rw [if_neg (show (tE (.error e)).2≠0 from h e rfl)];rfl
 ·rfl
theorem Az {f:(Tm×Int->OS S)->OS S} {x:Except Int Tm} (c:Int) (hf:c=0-> ∀g,f g=g (tE x)) (h: ∀e,x= .error e->e≠0) (I:Tm×Int->OS S):
  (ab (!(c==0)) (I (pX,c)) (f fun r=>I (if c=0 then (if r.2=0 then (r.1,0) else (pX,r.2)) else (pX,c))))=I (mM c x):=by
 by_cases hc:c=0
 ·subst hc
  rw [show (!((0:Int)==0))=false from rfl,n3,hf rfl,<-Lw x h 0]
 ·rw [dj hc,ub,ae,n9 hc]
theorem FP {x:Except Int Tm} (h: ∀e,x= .error e->0<e/\e<=1000): ∀e,x= .error e->e≠0:=fun e he=>by have:=h e he;omega
theorem Hy {a b:Int} {t:Tm}: ∀e,wA a b t= .error e->0<e/\e<=1000:=fun e h=>z7 (fun e h=>zn h) h
theorem je {a b:Int} {t:Tm}: ∀e,pH a b t= .error e->0<e/\e<=1000:=fun e h=>z7 (fun e h=>Rz t h) h
theorem Nd {i:Int} {r:LC} {t:Tm}: ∀e,sI i r t= .error e->0<e/\e<=1000:=fun e h=>z7 (fun e h=>j9 h) h
theorem fi (hk:F3 k) {t:Tm} {r:LC} {c:Int} (j:c=0->In k t) (q:RF r) (I:Tm×Int->OS S):JL k t r c I=I (mM c (sI 0 r t)):=by
 simp only [JL,ag hk.fu,dG,ar,rJ]
 exact Az c (fun h g=>ap8 hk (j h) (i:=0) (by decide) q g) (FP Nd) I
theorem vZ (hk:F3 k) {t:Tm} {c:Int} (h:c=0->In k t) (I:Tm×Int->OS S):JI k t c I=I (mM c (sI 0 [⟨0,0⟩] t)):=by
 simp only [JI,ag hk.fu,T5,ar,fi hk h Qz]
theorem v6 (hk:F3 k) {t:Tm} {b c:Int} (j:c=0->In k t) (hb:0<=b/\b<1000) (I:Tm×Int->OS S):JJ k t b c I=I (mM c (pH 1 b t)):=by
 simp only [JJ,ag hk.fu,dG,ar,rJ]
 exact Az c (fun h g=>HM hk (j h) (f:=1) (b:=b) (by decide) (by omega) g) (FP je) I
theorem IG (hk:F3 k) {t:Tm} {a b c:Int} (j:c=0->In k t) (ha:0<=a/\a<1000) (hb:0<=b/\b<1000) (I:Tm×Int->OS S):zb k t a b c I=I (mM c (wA a b t)):=by
 simp only [zb,ag hk.fu,dG,ar,rJ]
 exact Az c (fun h g=>aiH hk (j h) (vb:=a) (db:=b) (by omega) (by omega) g) (FP Hy) I
theorem v_ (hk:F3 k) {f:LC} {b c:Int} (hf:aq f) (hl:f.length<1073741824) (hb:0<=b/\b<1000) (I:LC×Int->OS S):JK k f b c I=I (if c=0 then ua f 0 b else ([],c)):=by
 simp only [JK,ag hk.fu,dG,ar,rJ]
 by_cases hc:c=0
 ·subst hc
  rw [show (!((0:Int)==0))=false from rfl,n3,vX hk.fu hf hl (by unfold aG;omega) (by unfold aG;omega),if_pos rfl,if_pos rfl]
  split
  ·rename_i h;rw [show ua f 0 b=((ua f 0 b).1,(ua f 0 b).2) from rfl,h]
  ·rfl
 ·rw [dj hc,ub,ae,if_neg hc]
def dM (c:Int) (t:Tm):Tm×Int:=if c=0 then (if bw t=0 then (t,0) else (pX,bw t)) else (pX,c)
def Hu (x:Except Int Tm):Tm×Bool×Int:=match x with
 | .ok t=>if bw t=0 then (t,true,0) else (pX,false,bw t)
 | .error e=>(pX,false,e)
theorem Ry (hk:F3 k) {t:Tm} {c:Int} (h:In k t) (I:Tm×Bool×Int×Int->OS S):ly k t c I=I ((dM c t).1,(dM c t).2==0,(dM c t).2,(dM c t).2):=by
 simp only [ly,ag hk.fu,dG,ar,rJ,E9 h.1 h.2.1 h.dep]
 have:p9 (dM c t).1/\Fd k (am (dM c t).1):=by
  unfold dM
  split
  ·split
   ·exact ⟨h.1,h.2.1⟩
   ·exact ⟨(gQ hk).1,(gQ hk).2.1⟩
  ·exact ⟨(gQ hk).1,(gQ hk).2.1⟩
 exact vU (dM c t).1 this.1 _ this.2
theorem qL {t:Tm} (g:Tm×Bool×Int->OS S):g ((dM 0 t).1,(dM 0 t).2==0,(dM 0 t).2)=g (Hu (.ok t)):=by
 unfold dM Hu
 simp only [if_true]
 split
 ·rfl
 ·rename_i h;rw [dj h]
theorem JF {c:Int} (h:c≠0) {t:Tm} (g:Tm×Bool×Int->OS S):g ((dM c t).1,(dM c t).2==0,(dM c t).2)=g (Hu (.error c)):=by
 unfold dM Hu
 rw [if_neg h,dj h]
end
section
abbrev En:=Nat->Prop
def hp (c:Cl) (j:Nat):Prop:=c.pos.toNat.testBit j=true
def hn (c:Cl) (j:Nat):Prop:=c.neg.toNat.testBit j=true
theorem apD (a b:Cl) (j:Nat):hp (d9 a b) j↔hp a j\/hp b j:=by
 simp_all [hp,d9,ep]
theorem apA (a b:Cl) (j:Nat):hn (d9 a b) j↔hn a j\/hn b j:=by
 simp_all [hn,d9,ep]
theorem o2 {c:Cl} (h:RC c) {j:Nat} (hj:hp c j):j<24:=oZ (by have:=h.1;omega) hj
theorem aoL {c:Cl} (h:RC c) {j:Nat} (hj:hn c j):j<24:=oZ (by have:=h.2;omega) hj
theorem ao3 {s:Int} {n:Nat} (hn:n<24) (j:Nat):(KY s (n:Int)).toNat.testBit j=(s.toNat.testBit j&&decide (j<24)&& !decide (j=n)):=by
 unfold KY
 rw [if_pos (by omega),HV,HV,mm,Nat.testBit_and,g8,Nat.testBit_two_pow]
 grind
def wB (P:En) (n:Nat) (A:Prop):En:=fun j=>(j≠n/\P j)\/(j=n/\A)
theorem apE (n:Nat) (h:n<24) (j:Nat): ¬hp (nl n) j:=by
 unfold hp nl;simp
theorem apB (n:Nat) (h:n<24) (j:Nat):hn (nl n) j↔j=n:=by
 grind [hn,nl,aln]
theorem apF (n:Nat) (h:n<24) (j:Nat):hp (pl n) j↔j=n:=by
 grind [hp,pl,aln]
theorem apC (n:Nat) (h:n<24) (j:Nat): ¬hn (pl n) j:=by
 unfold hn pl;simp
def iy (n x:Nat):Nat:=if n<x then x-1 else x
theorem ma {s:Int} {n:Nat} (j:n<24) (h:0<=s/\s<16777216) (y:Nat):(pI s (n:Int)).toNat.testBit y=true↔ ∃x,s.toNat.testBit x=true/\x≠n/\iy n x=y:=by
 have hs:s.toNat<16777216:=by omega
 have q:s.toNat&&&ya=s.toNat:=by
  apply Nat.eq_of_testBit_eq
  grind [g8,oZ]
 unfold pI
 rw [HV]
 unfold j7
 rw [if_pos (by omega),HV,q,Nat.testBit_or,Dl,Nat.testBit_mul_two_pow,Nat.testBit_div_two_pow,Bool.or_eq_true,qC,qC,decide_eq_true_eq,decide_eq_true_eq]
 unfold iy
 grind
theorem aoF {s:Int} {n b:Nat} (h:0<=s/\s<16777216) (j:(Fa s n b).2=0) (y:Nat):(Fa s n b).1.toNat.testBit y=true↔ ∃x,s.toNat.testBit x=true/\Ix n b x=y:=by
 have hs:s.toNat<16777216:=by omega
 unfold Fa at j ⊢
 rw [if_neg (by omega)] at j ⊢
 simp only [HV] at j ⊢
 rw [Fg] at j ⊢
 split at j<;>grind [Ix,oY,oG,sY,oZ]
theorem apV {c:Cl} {n b:Nat} (h:(dw c n b).2=0):(Fa c.pos n b).2=0/\(Fa c.neg n b).2=0/\(dw c n b).1=⟨(Fa c.pos n b).1,(Fa c.neg n b).1⟩:=by
 grind [dw]
theorem apw {n b:Nat}: ∀ {l h:LC},(zo (dK n b) h l).2=0->(zo (dK n b) h l).1=h++l.map (fun c=>(dw c n b).1)/\ ∀c∈l,(dw c n b).2=0:=by
 intro l
 induction l<;>grind [zo,dK]
def RX (fa:Bool) (f:LC):Prop:=RF f/\(fa=true-> ∀c∈f,bS c=false)
def r0 (fa:Bool) (f:LC) (i:Int) (r:LC):LC×Int:=if fa then iG f i r else iH f i r
theorem ap2 {fa:Bool} {f r:LC} {i:Int} (hf:aq f) (j:aq r) (h:(r0 fa f i r).2=0):RX fa (r0 fa f i r).1:=by
 unfold r0 at h ⊢
 cases fa
 ·exact ⟨ahR j h,fun h=>by cases h⟩
 ·have:=ahO hf j h
  exact ⟨this.1,fun _=>this.2⟩
def jo (f:LC) (n:Nat):Prop:= ∀c∈f,¬hp c n/\ ¬hn c n
def same (n:Nat) (P P':En):Prop:= ∀j,j≠n->(P j↔P' j)
theorem same.symm {n:Nat} {P P':En} (h:same n P P'):same n P' P:=fun j hj=>(h j hj).symm
def ins (P:En) (n:Nat):En:=fun x=>x≠n/\P (iy n x)
theorem aqs {f:LC} {n:Nat}:jJ f n=true↔ ¬jo f n:=by
 grind [jJ,jo,hp,hn]
theorem FB {f:LC} {n:Nat}:bP (ie f) (n:Int)=true↔n<24/\ ¬jo f n:=by
 grind [bP,ie,HV,D7,aqs]
theorem nT {f:LC} (hf:RF f) {i:Int} (h:24<=i):vj i f=f:=by
 have: ∀c∈f,jU i c=c:=fun c hc=>by
  obtain ⟨p,q⟩:=c
  obtain ⟨h1,h2⟩:=hf.rc hc
  grind [jU,pI,j7,ZC]
 unfold vj
 rw [show f.map (jU i)=f from (List.map_congr_left this).trans (List.map_id f),hf.1]
theorem apR {l:LC}:(bp l).1.length<=l.length:=by
 grind [bp,agM]
theorem a8 (p:Int) (j:Nat): ¬hn ⟨p,0⟩ j:=by
 grind [hn]
theorem apS {f:LC} {i b:Int}:(ua f i b).1.length<=f.length:=by
 unfold ua
 split
 ·split
  ·refine zj apR ?_
   have:=(KH (i:=i) (b:=b) (r:=f) (h:=[]) (fun c hc=>by cases hc)).2
   grind
  ·simp
 ·simp
abbrev Zp:=Bool->Int->LC->LC->Prop
abbrev Zo:=Int->LC->LC->Prop
mutual
def mY (pl:Bool):Tm->Prop
 | .mk kd n j r h sys=>RX (decide (kd=14)) r/\mX pl h/\si pl sys
def mX (pl:Bool):LT->Prop
 |[]=>True
 |t::l=>mY pl t/\mX pl l
def si (pl:Bool):LB->Prop
 |[]=>True
 |b::l=>Ji pl b/\si pl l
def Ji (pl:Bool):Br Tm->Prop
 | .mk f h=>(RX true f/\(pl=true->f≠[]))/\mX pl h
end
section
variable {pl:Bool} {c vb db kd:Int} {fo fa:dC} {Ro Ro':Zp} {Rb Rb':Zo}
end
theorem u1 {d:Int} (h:0<=d): ∃n:Nat,d=n:=⟨d.toNat,by omega⟩
theorem apv {r:LC} {fa:Bool} {d:Int} {f:LC} (h:H9 0 r fa d []= .ok f):f=[]:=by
 grind [acV]
variable {S:Type} {k:Nat}
def FQ (sys:LB):Bool:=sys.any fun b=>(b.f.length:Int)==0
mutual
def oq:Tm->Bool
 | .mk _ _ _ _ h sys=> !FQ sys&&(TF h&&AF sys)
def TF:LT->Bool
 |[]=>true
 |t::l=>oq t&&TF l
def AF:LB->Bool
 |[]=>true
 |b::l=>NZ b&&AF l
def NZ:Br Tm->Bool
 | .mk _ h=>TF h
end
theorem Q1 {f:LC} (hf:aq f) (h:cV f=true):RX true f:=by
 have:=(oB hf).1 h
 exact ⟨this.1,fun _=>this.2⟩
theorem FY {vars px kd n nm r ks sys} (q:p9 (.mk kd n nm r ks sys)) (h:cL vars px (.mk kd n nm r ks sys)=true):RX (decide (kd=14)) r/\ ∀b∈sys,RX true b.f:=by
 obtain ⟨A,B,E,z,F,I,J⟩:=q.node
 unfold cL at h
 simp only [qC,decide_eq_true_eq] at h
 obtain ⟨⟨a1,a2,a3,a4⟩,a5⟩:=h
 have x:r.length=0->RX (decide (kd=14)) r:=fun h=>by
  have:=L3.1 h;subst this;exact ⟨rA,fun _ c hc=>by cases hc⟩
 have j:Ah kd=0-> ∀b∈sys,RX true b.f:=fun h=>by
  grind
 split at a5
 ·rename_i c
  simp only [qC,decide_eq_true_eq] at a5
  exact ⟨x a5.1,j (by subst c;decide)⟩
 split at a5
 ·rename_i c
  simp only [qC,decide_eq_true_eq] at a5
  exact ⟨x a5.1,j (by subst c;decide)⟩
 split at a5
 ·rename_i c
  rw [qC] at a5
  exact ⟨⟨(M9 z).1 a5.1,fun h=>by grind⟩,j (by rcases c with rfl|rfl|rfl<;>decide)⟩
 split at a5
 ·rename_i c
  rw [qC] at a5
  subst c
  exact ⟨Q1 z a5.1,j (by decide)⟩
 ·simp only [qC,decide_eq_true_eq] at a5
  refine ⟨x a5.2,fun b hb=> ?_⟩
  have:=zf.1 a5.1 b hb
  unfold bX at this
  simp only [qC] at this
  exact Q1 (q.br hb).1.1 this.2.1
theorem Zz {bd pl:Bool} (t:Tm): ∀ {vars px:Int},p9 t->rP bd vars px t=true->(pl=true->oq t=true)->mY pl t:=by
 induction t using gq with
 |h kd n M r O sys F I=>
  intro vars px q h hp
  rw [rP,qC,qC,qC] at h
  obtain ⟨_,a,b,c⟩:=h
  obtain ⟨T,hb⟩:=FY q a
  have j:=q
  rw [p9] at j
  obtain ⟨_,ok,os⟩:=j
  rw [oq] at hp
  simp only [qC,Bool.not_eq_true'] at hp
  have hk: ∀ {l:LT} {i:Nat},(∀x∈l,∀ {vars px:Int},p9 x->rP bd vars px x=true->(pl=true->oq x=true)->mY pl x)->aZ l->bO bd vars px kd i l=true->(pl=true->TF l=true)->mX pl l:=by
   intro l
   induction l<;>grind [bO,mX,TF,aZ]
  have J: ∀ {l:LT},(∀x∈l,∀ {vars px:Int},p9 x->rP bd vars px x=true->(pl=true->oq x=true)->mY pl x)->aZ l->ca bd vars px kd l=true->(pl=true->TF l=true)->mX pl l:=by
   intro l
   induction l<;>grind [ca,mX,TF,aZ]
  have hs: ∀ {l:LB},(∀b∈l,∀x∈b.c,∀ {vars px:Int},p9 x->rP bd vars px x=true->(pl=true->oq x=true)->mY pl x)->ba l->(∀b∈l,RX true b.f)->ck bd vars px kd l=true->(pl=true->FQ l=false/\AF l=true)->si pl l:=by
   intro l
   induction l with
   |nil=>grind [si]
   |cons b l L=>
    intro h1 h2 E B A
    obtain ⟨f,z⟩:=b
    rw [ba] at h2
    rw [fc] at h2
    rw [ck,jT,qC] at B
    rw [FQ,List.any_cons,Bool.or_eq_false_iff,AF,NZ,qC] at A
    rw [si,Ji]
    refine ⟨⟨⟨E ⟨f,z⟩ (by simp),fun e he=> ?_⟩,J (h1 ⟨f,z⟩ (by simp)) h2.1.2 B.1 fun e=>(A e).2.1⟩,L (fun b hb=>h1 b (by simp [hb])) h2.2 (fun b hb=>E b (by simp [hb])) B.2 fun e=>⟨(A e).1.2,(A e).2.2⟩⟩
    grind
  grind [mY]
theorem Fm.pl {t:Tm} {pl:Bool} (h:Fm t) (hp:pl=true->oq t=true):mY pl t:=by
 have:=h.2
 unfold bw at this
 split at this
 ·simp_all
 split at this
 ·simp_all
 split at this
 ·rename_i j;exact Zz t h.1 j hp
 omega
theorem Zx {kd d:Int}: ∀ {l:LT} {i:Nat} {x:Tm},24<=d->bO false (-1) d kd i l=true->x∈l->rP false (-1) 24 x=true:=by
 intro l
 induction l with
 |nil=>intro i x _ _ h;cases h
 |cons t l j=>
  intro i x hd h hx
  rw [bO,qC] at h
  rcases BB.1 hx with rfl|hx
  ·have:=h.1
   rw [B2,at8 x (by have:=gr kd i;omega) (BF 24)] at this;exact this
  ·exact j hd h.2 hx
theorem Fm.bD {t x:Tm} (h:Fm t) (j:x∈t.c):Fm x:=by
 obtain ⟨h1,h2,q⟩:=Iz h.2
 have hd:=bY j
 have hs:au x<=au t:=by have:=Hl t;have:=k_ j;omega
 refine ⟨h.1.ki j,pS (by omega) (by omega) ?_⟩
 obtain ⟨kd,n,z,r,A,sys⟩:=t
 rw [rP] at q
 simp only [Bool.false_and,ub,Bool.true_and,qC] at q
 exact Zx (BF 24) q.2.1 j
theorem Fm.brk {t x:Tm} {b:Br Tm} (h:Fm t) (hb:b∈t.s) (j:x∈b.c):Fm x:=by
 obtain ⟨h1,h2,q⟩:=Iz h.2
 have hd:=b8 hb j
 have hs:au x<=au t:=by have:=Hl t;have:=we hb;have:=k_ j;omega
 refine ⟨(h.1.bi hb).2 x j,pS (by omega) (by omega) ?_⟩
 obtain ⟨kd,n,z,r,A,sys⟩:=t
 rw [rP] at q
 simp only [Bool.false_and,ub,Bool.true_and,qC] at q
 have:=q.2.2
 rw [wH,zf] at this
 have:=zf.1 (this b hb) x j
 rw [at8 x (by have:=IB kd;omega) (BF 24)] at this;exact this
theorem Fm.own {t:Tm} (h:Fm t):cL (-1) 24 t=true:=by
 have j:=(Iz h.2).2.2
 cases t
 rw [rP] at j
 simp only [Bool.false_and,ub,Bool.true_and,qC] at j
 exact j.1
theorem Fm.nk {t:Tm} (h:Fm t):ct t.k=t.c.length:=by
 have:=h.own
 cases t
 unfold cL at this
 simp only [qC,decide_eq_true_eq] at this
 exact this.1.1
theorem Fm.n0 {t:Tm} (h:Fm t) (hk:t.k≠1):t.n=0:=by
 have:=h.own
 cases t
 unfold cL at this
 simp only [qC,decide_eq_true_eq] at this
 exact this.1.2.1.resolve_left hk
theorem ZI {b:BA} (h:b.size=0):b=qw:=by
 obtain ⟨⟨l⟩⟩:=b
 cases l with
 |nil=>rfl
 |cons c l=>cases h
theorem Fm.nm0 {t:Tm} (h:Fm t) (hk:t.k≠2):t.name=qw:=by
 have:=h.own
 cases t
 unfold cL at this
 simp only [qC,decide_eq_true_eq] at this
 exact ZI (this.1.2.2.1.resolve_left hk)
theorem Fm.kd0 {t:Tm} (h:Fm t):0<=t.k:=h.rows.no.2.2
theorem Fm.r14 {t:Tm} (h:Fm t) (hk:t.k=14):RX true t.r:=by
 have:=FY (kd:=t.k) (n:=t.n) (nm:=t.name) (r:=t.r) (ks:=t.c) (sys:=t.s) (by cases t;exact h.1) (by have:=h.own;cases t;exact this)
 have h1:=this.1
 rw [hk] at h1;exact h1
theorem Fm.f {t:Tm} {b:Br Tm} (h:Fm t) (hb:b∈t.s):RX true b.f:=by
 have:=FY (kd:=t.k) (n:=t.n) (nm:=t.name) (r:=t.r) (ks:=t.c) (sys:=t.s) (by cases t;exact h.1) (by have:=h.own;cases t;exact this)
 exact this.2 b hb
theorem ED {α:Type} {l:List α} {n:Nat} {i:Int} (j:i=n) {x:α} (h:l[n]? =some x):af l i=some x:=by subst j;rw [pU];exact h
theorem Dw (n:Int) (b:Br Tm) (l:LB):Ib n (b::l)=dc n b.c+Ib n l:=by cases b;rfl
theorem tz (n:Int) (t:Tm):BC n t=(if t.k=1/\t.n=n then 1 else 0)+(cE n t.k 0 t.c+Ib n t.s):=by cases t;rfl
theorem Z7 {kd:Int}: ∀ {l:LT} {i:Nat} {n:Int},(∀x∈l,∀n,BC n x<=au x)->cE n kd i l<=ay l:=by
 intro l
 induction l<;>grind [cE,ay]
theorem Z8: ∀ {l:LT} {n:Int},(∀x∈l,∀n,BC n x<=au x)->dc n l<=ay l:=by
 intro l
 induction l<;>grind [dc,ay]
theorem Z9: ∀ {l:LB} {n:Int},(∀b∈l,∀x∈b.c,∀n,BC n x<=au x)->Ib n l<=aI l:=by
 intro l
 induction l<;>grind [Ib,aI,Dw,kZ,Z8]
theorem yr (t:Tm): ∀n,BC n t<=au t:=by
 induction t using c7<;>grind [tz,rM,Z7,Z9]
theorem Fm.no_sys {t:Tm} (h:Fm t) (hk:Ah t.k=0):t.s=[]:=by
 have:=h.own
 cases t
 unfold cL at this
 simp only [qC,decide_eq_true_eq] at this
 exact L3.1 (this.1.2.2.2 hk)
theorem Fm.leaf {t:Tm} (h:Fm t) (hk:t.k=1):t.c=[]/\t.s=[]:=by
 have hn:=h.nk
 rw [hk] at hn
 refine ⟨L3.1 (by have:ct 1=0:=rfl;omega),h.no_sys (by rw [hk];rfl)⟩
section
variable {hd:Tm->Int->(Int->OS S)->OS S} {t:Tm} {n:Int}
theorem aet (hk:Fu k) (I:Int->OS S) (j:Int->Int->OS S) {v:Int} {x:Br Tm} (z: ∀y∈x.c,∀g,hd y n g=g ((BC n y:Nat):Int)) (hl:x.c.length<1073741824):
  ∀ (r p:LT) (m a:Nat),x.c=p++r->r.length<m->a+dc n r<4611686018427387904->nG hd k I j n t v x m (a:Int) (p.length:Int)=j (p5 .i64 (v+1)) ((a+dc n r:Nat):Int):=by
 intro r
 induction r with
 |nil=>grind [qI,dc,nG,xh,n3]
 |cons y r A=>
  intro p m a h B ha
  obtain ⟨m,rfl,q⟩:=qI B
  obtain ⟨E,F,J,L⟩:=sX h (by omega)
  have M:=z y (by grind)
  have O:a+dc n (y::r)=(a+BC n y)+dc n r:=by rw [dc];omega
  rw [O] at ha ⊢
  have T:p5 .i64 ((a:Int)+((BC n y:Nat):Int))=((a+BC n y:Nat):Int):=by grind [xi]
  simp only [nG,xh,E,ae,F,rf,ar,M,J,T,A (p++[y]) m (a+BC n y) L q ha]
theorem aes (hk:Fu k) (I:Int->OS S) (B: ∀b∈t.s,∀y∈b.c,∀g,hd y n g=g ((BC n y:Nat):Int)) (hl:t.s.length<1073741824) (j: ∀b∈t.s,b.c.length<1073741824):
  ∀ (r p:LB) (m a:Nat),t.s=p++r->r.length<m->a+Ib n r<4611686018427387904->ku hd k I n t m (p.length:Int) (a:Int)=I ((a+Ib n r:Nat):Int):=by
 intro r
 induction r with
 |nil=>grind [qI,Ib,ku,sE,n3]
 |cons x r E=>
  intro p m a h F ha
  obtain ⟨m,rfl,q⟩:=qI F
  obtain ⟨J,L,M,O⟩:=sX h (by omega)
  have A:x∈t.s:=by grind
  have z:=j x A
  have T:a+Ib n (x::r)=(a+dc n x.c)+Ib n r:=by rw [Dw];omega
  rw [T] at ha ⊢
  have:=aet (t:=t) (n:=n) (v:=(p.length:Int)) hk I (ku hd k I n t m) (B x A) z x.c [] k a rfl (by have:=hk;omega) (by omega)
  simp only [ku,sE,J,ae,L,rf]
  refine qy this ?_
  rw [M,E (p++[x]) m (a+dc n x.c) O q ha]
theorem aer (hk:Fu k) (I:Int->OS S) (hn:0<=n/\n<=2199023255552) (F: ∀y∈t.c,∀q,0<=q/\q<=n+1-> ∀g,hd y q g=g ((BC q y:Nat):Int)) (x: ∀b∈t.s,∀y∈b.c,∀g,hd y n g=g ((BC n y:Nat):Int)) (E:p9 t):
  ∀ (r p:LT) (m a:Nat),t.c=p++r->r.length<m->a+cE n t.k p.length r+Ib n t.s<4611686018427387904->nF hd k I t n m (p.length:Int) (a:Int)=I ((a+cE n t.k p.length r+Ib n t.s:Nat):Int):=by
 obtain ⟨o1,o2,o3,o4,o5,o6,J⟩:=E.no
 intro r
 induction r with
 |nil=>
  intro p m a h z ha
  obtain ⟨m,rfl,j⟩:=qI z
  have A:a+cE n t.k p.length []=a:=by rfl
  rw [A] at ha ⊢
  have:=aes hk I x J (fun b hb=>(E.bi hb).1.2.2) t.s [] k a rfl (by omega) ha
  grind [nF,sD,n3]
 |cons y r L=>
  intro p m a h z ha
  obtain ⟨m,rfl,j⟩:=qI z
  obtain ⟨M,O,T,W⟩:=sX h (by omega)
  have hb:=g7 t.k p.length
  have B:p5 .i64 (n+tZ t.k p.length)=n+tZ t.k p.length:=by grind [xi]
  have Y:=F y (by grind) (n+tZ t.k p.length) (by omega)
  have A:a+cE n t.k p.length (y::r)=(a+BC (n+tZ t.k p.length) y)+cE n t.k (p++[y]).length r:=by grind [cE]
  rw [A] at ha ⊢
  have hw:p5 .i64 ((a:Int)+((BC (n+tZ t.k p.length) y:Nat):Int))=((a+BC (n+tZ t.k p.length) y:Nat):Int):=by grind [xi]
  simp only [nF,sD,M,ae,O,rf,ar,ag hk,jE,B,Y,T,hw,L (p++[y]) m (a+BC (n+tZ t.k p.length) y) W j ha]
end
theorem ai6 (t:Tm): ∀ {k:Nat} {n:Int} (I:Int->OS S),Fm t->Fd k (am t)->0<=n/\n+am t<=2199023255552->gz k t n I=I ((BC n t:Nat):Int):=by
 induction t using c7 with
 |h t z A=>
  intro k n I ft hk hn
  obtain ⟨q,rfl,E,hf⟩:=hk.pos' (HX t)
  have hp:=HX t
  have J:=ft.eO
  have hc:=yr t n
  by_cases hv:t.k=1/\t.n=n
  ·obtain ⟨L,M⟩:=ft.leaf hv.1
   grind [tz,cE,Ib,gz,BU,ae]
  have F:Ak (gz q) q I t n q=I ((BC n t:Nat):Int):=by
   obtain ⟨j,rfl⟩: ∃j,q=j+1:=⟨q-1,by omega⟩
   rw [tz,if_neg hv,FF]
   rw [tz] at hc
   have:=aer (t:=t) (n:=n) E I (by omega) (fun y x O B g=>z y x g (ft.bD x) (hf _ (bY x)) ⟨B.1,by have:=bY x;omega⟩) (fun b hb y x g=>A b hb y x g (ft.brk hb x) (hf _ (b8 hb x)) ⟨hn.1,by have:=b8 hb x;omega⟩) ft.ok t.c [] (j+1) 0 rfl (by have:=ft.ok.no.2.2.2.2.2.1;omega) (by grind)
   grind [Ak,xg]
  simp only [gz,BU,F]
  by_cases h1:t.k=1<;>grind [ae,n3]
section
variable {hd:Tm->Int->(Int->OS S)->OS S} {t:Tm} {n:Int}
end
end
end Go.Proofs.YtgmmefmmnakbpaaGreatDoor
