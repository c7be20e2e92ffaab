/- Part 5 of a proof: the sources, with their names and remarks, lie in wip/. -/
import Derived.Test.YtapmagaejigpnaaGreatDoorX4
import Derived.Test.YtapmagaejigpnaaGreatDoorRows
import Derived.ProofKit
import Derived.OpenShut
import Derived.ChangeArms
import Derived.Deep.Slices
import Derived.Shelf.SlSortCmp.NoneTotal
import Derived.Ground.SlsfProg
import Derived.Test.YtapmagaejigpnaaGreatDoorProg
import Derived.Shelf.Spec.TrailingZeros
import Derived.RangeFuncBound
import Derived.RangeFuncLeaves
import Derived.RangeFuncOwn
import Derived.OwnWalkIn
import Derived.TacticsInMore
import Derived.LoopNIn
import Derived.LoopIn
import Derived.Maps.RangeWalk
import Derived.Maps.AppendAt
import Derived.Test.YtapmagaejigpnaaGreatDoorCards
import Derived.Test.YtapmagaejigpnaaGreatDoorTie
import Derived.WalkKit
import Derived.ReadAgain
import Derived.Deep.DeepHandedRow
import Derived.Lib.LaidTab
namespace Go.Proofs.YtapmagaejigpnaaGreatDoor
open Go PI
set_option linter.unusedVariables false
set_option linter.unusedSimpArgs false
set_option maxRecDepth 20000
variable {S:Type} {k:Nat}
theorem u0:U32 0:=⟨by decide,by decide⟩
def nl (i:Int):Cl:=⟨0,d5 0 i⟩
def pl (i:Int):Cl:=⟨d5 0 i,0⟩
theorem Cq (i:Int):RC (nl i):=⟨⟨by show (0:Int)≤0;decide,by show (0:Int)<16777216;decide⟩,withS_lt⟩
theorem CA (i:Int):RC (pl i):=⟨withS_lt,⟨by show (0:Int)≤0;decide,by show (0:Int)<16777216;decide⟩⟩
def oZ (c:Cl):List Cl:=(eY c.pos).map nl++(eY c.neg).map pl
def mH (c:Cl):List Cl×Int:=a8 (oZ c)
theorem xx (s:Int):(eY s).length≤24:=by unfold eY;rw [df];exact fN _
theorem JC {c d:Cl} (h:d∈oZ c):RC d:=by
 rcases List.mem_append.1 h with h|h
 ·obtain ⟨i,_,rfl⟩:=List.mem_map.1 h;exact Cq i
 ·obtain ⟨i,_,rfl⟩:=List.mem_map.1 h;exact CA i
theorem aa6 (c:Cl):(oZ c).length≤48:=by
 have h1:=xx c.pos;have h2:=xx c.neg
 unfold oZ;rw [List.length_append,List.length_map,List.length_map];omega
theorem HU {l:List Cl} (h: ∀c∈l,RC c) (hl:l.length≤64):(a8 l).2=0:=by
 have:=aat l
 unfold a8
 rw [if_pos (List.all_eq_true.2 fun c hc=>(yz (h c hc).ok).2 (h c hc)),if_neg (by omega)]
theorem JD (c:Cl):(mH c).2=0:=HU (fun d hd=>JC hd) (by have:=aa6 c;omega)
theorem xJ (c:Cl):RF (mH c).1:=oQ (fun d hd=>(JC hd).ok) (JD c)
theorem Zi (hk:Fu k) (ret:List Cl×Int→Option S) {l:List Int} (hlen:l.length≤64):
  ∀ (r p:List Int) (m:Nat) (o:List Cl),l=p++r→r.length<m→am o→o.length+r.length<1073741824→md k ret l m (p.length:Int) o=ret (a8 (o++r.map pl)):=by
 intro r
 induction r with
 |nil=>
  intro p m o h hm hok ho
  obtain ⟨m,rfl,hm'⟩:=ak hm
  simp only [List.length_nil] at ho
  simp only [md,uz,aA h,ad,ah hk,jM hk hok (show o.length<2147483648 by omega),List.map_nil,List.append_nil]
 |cons x r ih=>
  intro p m o h hm hok ho
  obtain ⟨m,rfl,hm'⟩:=ak hm
  obtain ⟨e1,e2,e3,e4⟩:=az h (by omega)
  simp only [List.length_cons] at ho
  simp only [md,uz,e1,ae,e2,Option.bind_some,ah hk,tD hk u0,e3]
  rw [aV (by simp;omega),ih (p++[x]) m _ e4 hm' (eM hok fun c hc=>by simp at hc;subst hc;exact (CA x).ok) (by simp;omega)]
  simp [pl]
theorem Zh (hk:Fu k) (ret:List Cl×Int→Option S) {c:Cl} (hc:aL c) {l:List Int} (hlen:l.length≤64):
  ∀ (r p:List Int) (m:Nat) (o:List Cl),l=p++r→r.length<m→am o→o.length+r.length<1000000→n_ k ret c l m (p.length:Int) o=ret (a8 (o++r.map nl++(eY c.neg).map pl)):=by
 intro r
 induction r with
 |nil=>
  intro p m o h hm hok ho
  obtain ⟨m,rfl,hm'⟩:=ak hm
  simp only [List.length_nil] at ho
  have hl:=xx c.neg
  have hk':4294967296≤k:=hk
  simp only [n_,qc,aA h,ad,te,Jm hc.2,List.map_nil,List.append_nil]
  exact Zi hk ret (by omega) (eY c.neg) [] k o rfl (by omega) hok (by omega)
 |cons x r ih=>
  intro p m o h hm hok ho
  obtain ⟨m,rfl,hm'⟩:=ak hm
  obtain ⟨e1,e2,e3,e4⟩:=az h (by omega)
  simp only [List.length_cons] at ho
  simp only [n_,qc,e1,ae,e2,Option.bind_some,ah hk,tD hk u0,e3]
  rw [aV (by simp;omega),ih (p++[x]) m _ e4 hm' (eM hok fun c hc=>by simp at hc;subst hc;exact (Cq x).ok) (by simp;omega)]
  simp [nl]
theorem acR (hk:Fu k) {c:Cl} (hc:aL c) (ret:List Cl×Int→Option S):vY k c ret=ret (mH c):=by
 have hl:=xx c.pos
 simp only [vY,Et,te,Jm hc.1]
 have:=Zh hk ret hc (l:=eY c.pos) (by omega) (eY c.pos) [] k [] rfl (by have:4294967296≤k:=hk;omega) (fun c hc=>by cases hc) (by simp;omega)
 simpa [mH,oZ] using this
def iJ (c:Cl) (i:Nat):List Cl:=(if bF c.pos i then [nl i] else [])++(if bF c.neg i then [pl i] else [])
def iL (c:Cl) (n:Nat):List Cl:=(List.range n).flatMap (iJ c)
theorem aec (c:Cl) (i:Nat):(iJ c i).length≤2:=by unfold iJ;split<;>split<;>simp
theorem aed {c d:Cl} {i:Nat} (h:d∈iJ c i):RC d:=by
 unfold iJ at h
 rcases List.mem_append.1 h with h|h<;>(split at h<;>simp at h)
 ·subst h;exact Cq _
 ·subst h;exact CA _
theorem Pu (c:Cl) (n:Nat):iL c (n+1)=iL c n++iJ c n:=by simp [iL,List.range_succ]
theorem Pt (c:Cl) (n:Nat):(iL c n).length≤2*n:=by
 induction n with
 |zero=>simp [iL]
 |succ n ih=>rw [Pu,List.length_append];have:=aec c n;omega
theorem aee {c d:Cl} {n:Nat} (h:d∈iL c n):RC d:=by
 obtain ⟨i,_,hi⟩:=List.mem_flatMap.1 h;exact aed hi
theorem adt (hk:Fu k) (i:Nat) (hi:i<24) (ret:Int→Option S):g_ k [(i:Int)] ret=ret (d5 0 i):=by
 have:=pG hk [i] (by simp) (by simpa using hi) ret
 have e:ints [i]=[(i:Int)]:=by simp [ints]
 rw [e] at this
 rw [this,tV,if_pos (by omega)]
 simp [b8]
theorem ZV (hk:Fu k) (ret:List Cl→Option S) {c:Cl} (hc:aL c): ∀ (d i m:Nat),i+d=24→d<m→ow k ret c m (iL c i) (i:Int)=ret (a8 (iL c 24)).1:=by
 intro d
 induction d with
 |zero=>
  intro i m e hm
  obtain ⟨m,rfl,hm'⟩:=ak hm
  have:i=24:=by omega
  subst this
  have hlen:=Pt c 24
  simp only [ow,uT,aK,ah hk,mT hk (show am (iL c 24) from fun d hd=>(aee hd).ok) (by omega)]
  rw [if_neg (by omega)]
 |succ d ih=>
  intro i m e hm
  obtain ⟨m,rfl,hm'⟩:=ak hm
  have e2:(i:Int)+1=((i+1:Nat):Int):=by simp
  have hlen:=Pt c i
  simp only [ow,uT,ah hk,gR hk hc.1,gR hk hc.2,co,decide_eq_true_eq,adt hk i (by omega)]
  rw [if_pos (by omega),dq (by omega) (by omega),e2]
  have hi:=ih (i+1) m (by omega) (by omega)
  rw [Pu] at hi
  cases hp:bF c.pos (i:Int)<;>cases hn:bF c.neg (i:Int)<;>simp only [iJ,hp,hn,if_true,Bool.false_eq_true,if_false,List.append_nil,List.nil_append,List.append_assoc,List.singleton_append] at hi ⊢
  ·exact hi
  ·rw [aV (by simp;omega)];exact hi
  ·rw [aV (by simp;omega)];exact hi
  ·rw [aV (by simp;omega),aV (by simp;omega)];exact hi
theorem ado (hk:Fu k) {c:Cl} (hc:aL c) (ret:List Cl→Option S):wk k c ret=ret (mH c).1:=by
 simp only [wk,ER]
 have:=ZV hk ret hc 24 0 k (by omega) (by have:4294967296≤k:=hk;omega)
 refine Eq.trans this ?_
 congr 2
 refine Z2 fun d=> ?_
 unfold iL oZ
 rw [List.mem_flatMap,List.mem_append,List.mem_map,List.mem_map]
 have hs: ∀ (s:Int) (x:Int),x∈eY s↔ ∃i:Nat,i<24∧s.toNat.testBit i=true∧x=i:=by
  intro s x
  unfold eY ints
  rw [List.mem_map]
  constructor
  ·rintro ⟨j,hj,rfl⟩;have:=mem_bitsN.1 hj;exact ⟨j,this.1,this.2,rfl⟩
  ·rintro ⟨j,h1,h2,rfl⟩;exact ⟨j,mem_bitsN.2 ⟨h1,h2⟩,rfl⟩
 have hh: ∀ (s:Int) (i:Nat),i<24→bF s (i:Int)=s.toNat.testBit i:=by
  intro s i hi;unfold bF;rw [decide_eq_true (by omega),Bool.true_and];rfl
 constructor
 ·rintro ⟨i,hi,hd⟩
  have hi':i<24:=by simpa using hi
  unfold iJ at hd
  rw [hh _ _ hi',hh _ _ hi'] at hd
  rcases List.mem_append.1 hd with h|h
  ·split at h
   ·next hb=>simp at h;exact .inl ⟨i,(hs _ _).2 ⟨i,hi',hb,rfl⟩,h.symm⟩
   ·simp at h
  ·split at h
   ·next hb=>simp at h;exact .inr ⟨i,(hs _ _).2 ⟨i,hi',hb,rfl⟩,h.symm⟩
   ·simp at h
 ·rintro (⟨x,hx,rfl⟩|⟨x,hx,rfl⟩)
  ·obtain ⟨i,h1,h2,rfl⟩:=(hs _ _).1 hx
   refine ⟨i,by simpa using h1, ?_⟩
   unfold iJ;rw [hh _ _ h1,if_pos h2];simp
  ·obtain ⟨i,h1,h2,rfl⟩:=(hs _ _).1 hx
   refine ⟨i,by simpa using h1, ?_⟩
   unfold iJ;rw [hh _ _ h1,hh _ _ h1,if_pos h2];simp
def aR (step:List Cl→Cl→List Cl×Int):List Cl→List Cl→List Cl×Int
 |h,[]=>(h,0)
 |h,c::r=>if (step h c).2=0 then aR step (step h c).1 r else ([],(step h c).2)
def jE (h:List Cl) (c:Cl):List Cl×Int:=da h (mH c).1
def cK (f:List Cl):List Cl×Int:=aR jE [⟨0,0⟩] f
theorem aao {f g:List Cl} (h:(da f g).2≠0):(da f g).1=[]:=BW h
theorem afc {f g:List Cl} (h:(bU f g).2≠0):(bU f g).1=[]:=BW h
theorem G7 {step:List Cl→Cl→List Cl×Int} (hs: ∀h c,RF h→(step h c).2=0→RF (step h c).1): ∀ {r h:List Cl},RF h→(aR step h r).2=0→RF (aR step h r).1:=by
 intro r
 induction r with
 |nil=>intro h hh _;exact hh
 |cons c r ih=>
  intro h hh he
  unfold aR at he ⊢
  split
  ·next h0=>rw [if_pos h0] at he;exact ih (hs h c hh h0) he
  ·next h0=>rw [if_neg h0] at he;exact absurd he h0
theorem ae2 {step:List Cl→Cl→List Cl×Int}: ∀ {r h:List Cl},(aR step h r).2≠0→(aR step h r).1=[]:=by
 intro r
 induction r with
 |nil=>intro h he;exact absurd rfl he
 |cons c r ih=>
  intro h he
  unfold aR at he ⊢
  split
  ·next h0=>rw [if_pos h0] at he;exact ih he
  ·rfl
theorem Cr (h:List Cl) (c:Cl) (hh:RF h) (h0:(jE h c).2=0):RF (jE h c).1:=jB hh.2 (xJ c).2 h0
theorem iy {f:List Cl} (h:(cK f).2=0):RF (cK f).1:=G7 Cr (gQ mO) h
theorem a7 (n:Int):(n==0)=decide (n=0):=by rw [Bool.eq_iff_iff];simp
theorem acQ (hk:Fu k) {h:List Cl} {c:Cl} (hh:RF h) (hc:aL c) (ret:List Cl×Int→Option S):vX k h c ret=ret (jE h c):=by
 have:=hh.len;have:=(xJ c).len
 simp only [vX,Oh,ah hk,acR hk hc,JD,tI hk hh.2 (xJ c).2 (show h.length<32768 by omega) (show (mH c).1.length<32768 by omega)]
 rfl
theorem Y2 (hk:Fu k) (ret:List Cl×Int→Option S) {l:List Cl} (hl:am l) (hlen:l.length<2147483648):
  ∀ (r p:List Cl) (m:Nat) (h:List Cl),l=p++r→r.length<m→RF h→n8 k ret l m h (p.length:Int)=ret (aR jE h r):=by
 intro r
 induction r with
 |nil=>
  intro p m h e hm hh
  obtain ⟨m,rfl,hm'⟩:=ak hm
  simp only [n8,uw,aA e,ad];rfl
 |cons x r ih=>
  intro p m h e hm hh
  obtain ⟨m,rfl,hm'⟩:=ak hm
  obtain ⟨e1,e2,e3,e4⟩:=az e (by omega)
  have hx:aL x:=hl x (by rw [e];simp)
  simp only [n8,uw,e1,ae,e2,Option.bind_some,ah hk,acQ hk hh hx,a7,e3]
  by_cases h0:(jE h x).2=0
  ·rw [decide_eq_true h0,Bool.not_true,ad,ih (p++[x]) m _ e4 hm' (Cr h x hh h0),aR,if_pos h0]
  ·rw [decide_eq_false h0,Bool.not_false,ae,aR,if_neg h0]
theorem MP (hk:Fu k) {f:List Cl} (hf:am f) (hlen:f.length<2147483648) (ret:List Cl×Int→Option S):nn k f ret=ret (cK f):=by
 simp only [nn,Og,ah hk,AJ,Oa,AM,Ep]
 exact Y2 hk ret hf hlen f [] k _ rfl (by have:4294967296≤k:=hk;omega) (gQ mO)
theorem acA (hk:Fu k) {f:List Cl} (hf:am f) (hlen:f.length<2147483648) (ret:List Cl×Int→Option S):vT k f ret=ret (if be f then cK f else ([],2)):=by
 simp only [vT,N_,ah hk,DF hk (l:=[f]) (by simpa using ⟨hf,hlen⟩) (by simp),MP hk hf hlen]
 have:[f].all be=be f:=by simp
 rw [this]
 by_cases h:be f=true
 ·rw [if_pos h,if_pos h];rfl
 ·rw [if_neg h,if_neg h];rfl
theorem ZK (hk:Fu k) (ret:List Cl×Int→Option S) {l:List Cl} (hl:am l) (hlen:l.length<2147483648):
  ∀ (r p:List Cl) (m:Nat) (h:List Cl) (e:Int),l=p++r→r.length<m→(e=0→RF h)→(e≠0→h=[])→ou k ret l m h e (p.length:Int)=ret (if e=0 then aR jE h r else ([],e)):=by
 intro r
 induction r with
 |nil=>
  intro p m h e el hm h1 h2
  obtain ⟨m,rfl,hm'⟩:=ak hm
  simp only [ou,uR,aA el,ad]
  by_cases h0:e=0
  ·rw [if_pos h0,h0];rfl
  ·rw [if_neg h0,h2 h0]
 |cons x r ih=>
  intro p m h e el hm h1 h2
  obtain ⟨m,rfl,hm'⟩:=ak hm
  obtain ⟨e1,e2,e3,e4⟩:=az el (by omega)
  have hx:aL x:=hl x (by rw [el];simp)
  simp only [ou,uR,e1,ae,a7,e3,e2,Option.bind_some,ah hk,ado hk hx]
  by_cases h0:e=0
  ·have hh:=h1 h0
   rw [decide_eq_true h0,ae,yH hk hh (xJ x),if_pos h0]
   have:=ih (p++[x]) m (jE h x).1 (jE h x).2 e4 hm' (fun h0=>Cr h x hh h0) (fun h0=>aao h0)
   exact this
  ·rw [decide_eq_false h0,ad,if_neg h0,h2 h0]
theorem M5 (hk:Fu k) {f:List Cl} (hf:am f) (hlen:f.length<2147483648) (ret:List Cl×Int→Option S):nz k f ret=ret (if be f then cK f else ([],2)):=by
 simp only [nz,EP,ah hk,f0 hk hf hlen]
 by_cases h:be f=true
 ·rw [h,Bool.not_true,ad,if_pos rfl]
  have:=ZK hk ret hf hlen f [] k [⟨0,0⟩] 0 rfl (by have:4294967296≤k:=hk;omega) (fun _=>gQ mO) (fun h=>absurd rfl h)
  rw [if_pos rfl] at this
  exact this
 ·rw [Bool.not_eq_true] at h
  rw [h,Bool.not_false,ae,if_neg (by decide)]
end Go.Proofs.YtapmagaejigpnaaGreatDoor
namespace Go.Proofs.YtapmagaejigpnaaGreatDoor
open Go PI
set_option linter.unusedVariables false
set_option linter.unusedSimpArgs false
set_option maxRecDepth 20000
variable {S:Type} {k:Nat}
def bO (i:Int) (c:Cl):Cl:=⟨dj c.pos i,dj c.neg i⟩
theorem jo (i:Int) (c:Cl):RC (bO i c):=⟨withoutS_lt,withoutS_lt⟩
def dP (i:Int) (r:List Cl) (c:Cl):List Cl×Int:=if bF c.pos i then da [bO i c] r else ([bO i c],0)
def eN (i:Int) (r:List Cl) (c:Cl) (g:List Cl):List Cl×Int:=if bF c.neg i then if (cK r).2=0 then da g (cK r).1 else ([],(cK r).2) else (g,0)
def dA (i:Int) (r h:List Cl) (c:Cl):List Cl×Int:=
 if (dP i r c).2=0 then if (eN i r c (dP i r c).1).2=0 then bU h (eN i r c (dP i r c).1).1 else ([],(eN i r c (dP i r c).1).2) else ([],(dP i r c).2)
def kl (i:Int):Bool:=decide (0≤i∧i<24)
def gO (f:List Cl) (i:Int) (r:List Cl):List Cl×Int:=if be f&&be r&&kl i then aR (dA i r) [] f else ([],2)
theorem abd {i:Int} {r:List Cl} {c:Cl} (hr:RF r) (h:(dP i r c).2=0):RF (dP i r c).1:=by
 unfold dP at h ⊢
 split
 ·next hh=>rw [if_pos hh] at h;exact jB (gQ (jo i c)).2 hr.2 h
 ·exact gQ (jo i c)
theorem abf {i:Int} {r g:List Cl} {c:Cl} (hg:RF g) (h:(eN i r c g).2=0):RF (eN i r c g).1:=by
 unfold eN at h ⊢
 split
 ·next hh=>
  rw [if_pos hh] at h
  split
  ·next hn=>rw [if_pos hn] at h;exact jB hg.2 (iy hn).2 h
  ·next hn=>rw [if_neg hn] at h;exact absurd h hn
 ·exact hg
theorem JG {i:Int} {r:List Cl} (hr:RF r) (h:List Cl) (c:Cl) (hh:RF h) (h0:(dA i r h c).2=0):RF (dA i r h c).1:=by
 unfold dA at h0 ⊢
 split
 ·next ha=>
  rw [if_pos ha] at h0
  have hA:=abd hr ha
  split
  ·next hb=>rw [if_pos hb] at h0;exact Ht hh.2 (abf hA hb).2 h0
  ·next hb=>rw [if_neg hb] at h0;exact absurd h0 hb
 ·next ha=>rw [if_neg ha] at h0;exact absurd h0 ha
theorem acp (hk:Fu k) {i:Int} {r h:List Cl} {c:Cl} (hr:RF r) (hh:RF h) (hc:aL c) (ret:List Cl×Int→Option S):vV k h c i r ret=ret (dA i r h c):=by
 have l1:=hr.len;have l2:=hh.len
 have hg:=gQ (jo i c)
 simp only [vV,Od,ah hk,tF hk hc.1,tF hk hc.2,pB hk hc.1,pB hk hc.2,tI hk hg.2 hr.2 (show [bO i c].length<32768 by simp) (show r.length<32768 by omega),MP hk hr.2 hr.lt,a7,co,decide_eq_true_eq,Bool.not_eq_true',decide_eq_false_iff_not]
 have e: ∀ (f:List Cl×Int→Option S),i_ k [Cl.mk (dj c.pos i) (dj c.neg i)] r f=f (da [bO i c] r):=fun f=>tI hk hg.2 hr.2 (by simp) (by omega) f
 simp only [e]
 unfold dA dP eN
 by_cases hp:bF c.pos i=true
 ·simp only [hp,if_true]
  by_cases h1:(da [bO i c] r).2=0
  ·have hA:RF (da [bO i c] r).1:=jB hg.2 hr.2 h1
   have l3:=hA.len
   simp only [h1,not_true,if_false,if_true]
   by_cases hn:bF c.neg i=true
   ·simp only [hn,if_true]
    by_cases h2:(cK r).2=0
    ·have hN:=iy h2
     have l4:=hN.len
     simp only [h2,not_true,if_false,if_true]
     rw [tI hk hA.2 hN.2 (by omega) (by omega)]
     by_cases h3:(da (da [bO i c] r).1 (cK r).1).2=0
     ·have hB:=jB hA.2 hN.2 h3
      have l5:=hB.len
      simp only [h3,not_true,if_false,if_true]
      rw [yF hk hh.2 hB.2 (by omega) (by omega)]
     ·simp only [h3,not_false_eq_true,if_true,if_false]
    ·simp only [h2,not_false_eq_true,if_true,if_false]
   ·simp only [hn,Bool.false_eq_true,if_false,if_true]
    rw [yF hk hh.2 hA.2 (by omega) (by omega)]
  ·simp only [h1,not_false_eq_true,if_true,if_false]
 ·simp only [hp,Bool.false_eq_true,if_false,if_true]
  by_cases hn:bF c.neg i=true
  ·simp only [hn,if_true]
   by_cases h2:(cK r).2=0
   ·have hN:=iy h2
    have l4:=hN.len
    simp only [h2,not_true,if_false,if_true]
    have e2: ∀ (f:List Cl×Int→Option S),i_ k [Cl.mk (dj c.pos i) (dj c.neg i)] (cK r).1 f=f (da [bO i c] (cK r).1):=fun f=>tI hk hg.2 hN.2 (by simp) (by omega) f
    rw [e2]
    by_cases h3:(da [bO i c] (cK r).1).2=0
    ·have hB:=jB hg.2 hN.2 h3
     have l5:=hB.len
     simp only [h3,not_true,if_false,if_true]
     rw [yF hk hh.2 hB.2 (by omega) (by omega)]
    ·simp only [h3,not_false_eq_true,if_true,if_false]
   ·simp only [h2,not_false_eq_true,if_true,if_false]
  ·simp only [hn,Bool.false_eq_true,if_false,if_true]
   have:=yF hk hh.2 hg.2 (by omega) (by simp) ret
   exact this
theorem Y3 (hk:Fu k) (ret:List Cl×Int→Option S) {i:Int} {q:List Cl} (hq:RF q) {l:List Cl} (hl:am l) (hlen:l.length<2147483648):
  ∀ (r p:List Cl) (m:Nat) (h:List Cl),l=p++r→r.length<m→RF h→n7 k ret i q l m h (p.length:Int)=ret (aR (dA i q) h r):=by
 intro r
 induction r with
 |nil=>
  intro p m h e hm hh
  obtain ⟨m,rfl,hm'⟩:=ak hm
  simp only [n7,uu,aA e,ad];rfl
 |cons x r ih=>
  intro p m h e hm hh
  obtain ⟨m,rfl,hm'⟩:=ak hm
  obtain ⟨e1,e2,e3,e4⟩:=az e (by omega)
  have hx:aL x:=hl x (by rw [e];simp)
  simp only [n7,uu,e1,ae,e2,Option.bind_some,ah hk,acp hk hq hh hx,a7,e3]
  by_cases h0:(dA i q h x).2=0
  ·rw [decide_eq_true h0,Bool.not_true,ad,ih (p++[x]) m _ e4 hm' (JG hq h x hh h0),aR,if_pos h0]
  ·rw [decide_eq_false h0,Bool.not_false,ae,aR,if_neg h0]
theorem acg (hk:Fu k) (i:Int) (ret:List Cl×Int→Option S):vS k i ret=ret (if kl i then ([⟨d5 0 i,0⟩],0) else ([],2)):=by
 simp only [vS,N7,ah hk,tD hk u0]
 unfold kl
 by_cases h:0≤i∧i<24
 ·have:d5 0 i=((2^i.toNat:Nat):Int):=by rw [tV,if_pos h]
  rw [this,As hk _ _ (by omega),decide_eq_true h,if_pos rfl];exact ad _ _
 ·have:d5 0 i=0:=by rw [tV,if_neg h]
  rw [this,Ar hk,decide_eq_false h,if_neg (by decide)];exact ae _ _
theorem acB (hk:Fu k) {f r:List Cl} {i:Int} (hf:am f) (hr:am r) (h1:f.length<2147483648) (h2:r.length<2147483648) (ret:List Cl×Int→Option S):vU k f i r ret=ret (gO f i r):=by
 simp only [vU,Oc,ah hk,DF hk (l:=[f,r]) (by simpa using ⟨⟨hf,h1⟩,hr,h2⟩) (by simp),acg hk]
 have e:[f,r].all be=(be f&&be r):=by simp
 unfold gO
 by_cases ha:(be f&&be r)=true
 ·rw [e,if_pos ha,ha,Bool.true_and]
  rw [show ((0:Int)==0)=true from rfl,Bool.not_true,ad]
  cases hd:kl i with
  |true=>
   rw [if_pos rfl,if_pos rfl]
   rw [show ((0:Int)==0)=true from rfl,Bool.not_true,ad]
   simp only [ri,En,AL,Eo]
   have hr':=(fH hr).1 (by simp only [Bool.and_eq_true] at ha;exact ha.2)
   exact Y3 hk ret hr' hf h1 f [] k [] rfl (by have:4294967296≤k:=hk;omega) tz
  |false=>
   have e1: ∀ (x y:List Cl×Int),(if false=true then x else y)=y:=fun x y=>if_neg (by decide)
   rw [e1,e1];exact ae _ _
 ·rw [Bool.not_eq_true] at ha
  have e1: ∀ (x y:List Cl×Int),(if false=true then x else y)=y:=fun x y=>if_neg (by decide)
  rw [e,ha,if_neg (by decide),Bool.false_and,e1];exact ae _ _
theorem abj (hk:Fu k) (ret:List Cl×Int→Option S) (rec0:List Cl→Int→Option S) (f:List Cl) (i:Int) (r:List Cl) {h:List Cl} {v:Int} {g:List Cl} {e:Int} (hh:RF h) (hg:e=0→RF g):
  ov k ret rec0 f i r h v k g e=if e=0 then if (bU h g).2=0 then rec0 (bU h g).1 (IntKind.wrap .i64 (v+1)) else ret ([],(bU h g).2) else ret ([],e):=by
 obtain ⟨q,hq⟩: ∃q,k=q+1:=⟨k-1,by have:4294967296≤k:=hk;omega⟩
 have: ∀j,j=q+1→ov k ret rec0 f i r h v j g e=uS k ret f i r h v rec0 g e:=by rintro j rfl;rfl
 rw [this k hq]
 simp only [uS,a7]
 by_cases h0:e=0
 ·rw [decide_eq_true h0,ae,if_pos h0,ah hk,acZ hk hh (hg h0)]
  by_cases h1:(bU h g).2=0
  ·rw [decide_eq_true h1,if_pos h1];exact ad _ _
  ·rw [decide_eq_false h1,if_neg h1];exact ae _ _
 ·rw [decide_eq_false h0,ad,if_neg h0];exact ae _ _
theorem ZL (hk:Fu k) (ret:List Cl×Int→Option S) {i:Int} {q:List Cl} (hq:RF q) {l:List Cl} (hl:am l) (hlen:l.length<2147483648):
  ∀ (r p:List Cl) (m:Nat) (h:List Cl),l=p++r→r.length<m→RF h→kP k ret l i q m h (p.length:Int)=ret (aR (dA i q) h r):=by
 intro r
 induction r with
 |nil=>
  intro p m h e hm hh
  obtain ⟨m,rfl,hm'⟩:=ak hm
  simp only [kP,ql,aA e,ad];rfl
 |cons x r ih=>
  intro p m h e hm hh
  obtain ⟨m,rfl,hm'⟩:=ak hm
  obtain ⟨e1,e2,e3,e4⟩:=az e (by omega)
  have hx:aL x:=hl x (by rw [e];simp)
  have hg:=gQ (jo i x)
  have key: ∀ (g:List Cl) (e:Int),(e=0→RF g)→(dA i q h x=if e=0 then bU h g else ([],e))→ov k ret (kP k ret l i q m) l i q h (p.length:Int) k g e=ret (aR (dA i q) h (x::r)):=by
   intro g e hge hput
   rw [abj hk _ _ _ _ _ hh hge,aR,hput]
   by_cases h0:e=0
   ·rw [if_pos h0,if_pos h0]
    by_cases h1:(bU h g).2=0
    ·rw [if_pos h1,if_pos h1,e3]
     exact ih (p++[x]) m _ e4 hm' (Ht hh.2 (hge h0).2 h1)
    ·rw [if_neg h1,if_neg h1]
   ·rw [if_neg h0,if_neg h0,if_neg h0]
  have em: ∀ (f:List Cl×Int→Option S),jc k [Cl.mk (dj x.pos i) (dj x.neg i)] q f=f (da [bO i x] q):=fun f=>yH hk hg hq f
  simp only [kP,ql,e1,ae,e2,Option.bind_some,ah hk,yJ hk hx.1,yJ hk hx.2,gR hk hx.1,gR hk hx.2,em,M5 hk hq.2 hq.lt,hq.right,if_true,a7]
  cases hp:bF x.pos i with
  |true=>
   rw [ae]
   by_cases h1:(da [bO i x] q).2=0
   ·have hA:RF (da [bO i x] q).1:=jB hg.2 hq.2 h1
    rw [decide_eq_true h1,ae]
    cases hn:bF x.neg i with
    |true=>
     rw [ae]
     by_cases h2:(cK q).2=0
     ·rw [decide_eq_true h2,ae,yH hk hA (iy h2)]
      exact key _ _ (fun h0=>jB hA.2 (iy h2).2 h0) (by unfold dA dP eN;simp only [hp,hn,h1,h2,if_true])
     ·rw [decide_eq_false h2,ad]
      exact key _ _ (fun h0=>absurd h0 h2) (by unfold dA dP eN;simp only [hp,hn,h1,h2,if_true,if_false])
    |false=>
     rw [ad]
     exact key _ _ (fun _=>hA) (by unfold dA dP eN;simp only [hp,hn,h1,if_true,if_false,Bool.false_eq_true])
   ·rw [decide_eq_false h1,ad]
    exact key _ _ (fun h0=>absurd h0 h1) (by unfold dA dP;simp only [hp,h1,if_true,if_false])
  |false=>
   rw [ad]
   cases hn:bF x.neg i with
   |true=>
    rw [ae]
    by_cases h2:(cK q).2=0
    ·have em2: ∀ (f:List Cl×Int→Option S),jc k [Cl.mk (dj x.pos i) (dj x.neg i)] (cK q).1 f=f (da [bO i x] (cK q).1):=fun f=>yH hk hg (iy h2) f
     rw [decide_eq_true h2,ae,em2]
     exact key _ _ (fun h0=>jB hg.2 (iy h2).2 h0) (by unfold dA dP eN;simp only [hp,hn,h2,if_true,if_false,Bool.false_eq_true])
    ·rw [decide_eq_false h2,ad]
     exact key _ _ (fun h0=>absurd h0 h2) (by unfold dA dP eN;simp only [hp,hn,h2,if_true,if_false,Bool.false_eq_true])
   |false=>
    rw [ad]
    exact key [bO i x] 0 (fun _=>hg) (by unfold dA dP eN;simp only [hp,hn,if_true,if_false,Bool.false_eq_true])
theorem adb (hk:Fu k) {f r:List Cl} {i:Int} (hf:am f) (hr:am r) (h1:f.length<2147483648) (h2:r.length<2147483648) (ret:List Cl×Int→Option S):wj k f i r ret=ret (gO f i r):=by
 simp only [wj,EQ,ah hk,f0 hk hf h1,f0 hk hr h2,aK]
 unfold gO kl
 cases ha:be f with
 |false=>rw [Bool.not_false,ae];rfl
 |true=>
  rw [Bool.not_true,ad]
  cases hb:be r with
  |false=>rw [Bool.not_false,ae];rfl
  |true=>
   rw [Bool.not_true,ad]
   by_cases h3:i<0
   ·rw [if_pos h3,decide_eq_false (by omega)];rfl
   ·by_cases h4:i≥24
    ·rw [if_neg h3,if_pos h4,decide_eq_false (by omega)];rfl
    ·rw [if_neg h3,if_neg h4,decide_eq_true (by omega)]
     exact ZL hk ret ((fH hr).1 hb) hf h1 f [] k [] rfl (by have:4294967296≤k:=hk;omega) tz
theorem aaa {m n b:Nat}:(dN m n b).1<16777216:=by
 have h1:m&&&M24<16777216:=Nat.lt_of_le_of_lt Nat.and_le_right (by decide)
 have h2:fA m n≤m&&&M24:=Nat.and_le_left
 unfold dN
 split
 ·show fA m n<_;omega
 ·split
  ·show 0<_;omega
  ·split
   ·show 0<_;omega
   ·exact Nat.or_lt_two_pow (n:=24) (by have:(2:Nat)^24=16777216:=(by decide);omega) (by have:(2:Nat)^24=16777216:=(by decide);omega)
theorem HZ (s i b:Int):0≤(ca s i b).1∧(ca s i b).1<16777216:=by
 unfold ca
 split
 ·exact ⟨by decide,by decide⟩
 ·have:= @aaa s.toNat i.toNat b.toNat
  exact ⟨Int.natCast_nonneg _,by show (((dN s.toNat i.toNat b.toNat).1:Nat):Int)<_;omega⟩
theorem HW (c:Cl) (i b:Int):RC (cJ c i b).1:=by
 unfold cJ
 split
 ·split
  ·split
   ·exact ⟨HZ _ _ _,HZ _ _ _⟩
   ·exact mO
  ·exact mO
 ·exact mO
def cz (i b:Int) (h:List Cl) (c:Cl):List Cl×Int:=(h++[(cJ c i b).1],(cJ c i b).2)
def ba (f:List Cl) (i b:Int):List Cl×Int:=if be f then if (aR (cz i b) [] f).2=0 then a8 (aR (cz i b) [] f).1 else ([],(aR (cz i b) [] f).2) else ([],2)
theorem G8 {i b:Int}: ∀ {r h:List Cl},am h→am (aR (cz i b) h r).1∧(aR (cz i b) h r).1.length≤h.length+r.length:=by
 intro r
 induction r with
 |nil=>intro h hh;exact ⟨hh,by show h.length≤_;omega⟩
 |cons c r ih=>
  intro h hh
  unfold aR
  split
  ·have:=ih (h:=(cz i b h c).1) (eM hh fun d hd=>by simp at hd;subst hd;exact (HW c i b).ok)
   refine ⟨this.1,Nat.le_trans this.2 ?_⟩
   unfold cz;simp;omega
  ·exact ⟨fun d hd=>(by cases hd),by show 0≤_;omega⟩
theorem Y1 (hk:Fu k) (ret:List Cl×Int→Option S) {i b:Int} (hi:aE i) (hb:aE b) {l:List Cl} (hl:am l) (hlen:l.length<2147483648):
  ∀ (r p:List Cl) (m:Nat) (h:List Cl),l=p++r→r.length<m→h.length+r.length<4294967296→n9 k ret i b l m h (p.length:Int)=ret (aR (cz i b) h r):=by
 intro r
 induction r with
 |nil=>
  intro p m h e hm hh
  obtain ⟨m,rfl,hm'⟩:=ak hm
  simp only [n9,ux,aA e,ad];rfl
 |cons x r ih=>
  intro p m h e hm hh
  obtain ⟨m,rfl,hm'⟩:=ak hm
  obtain ⟨e1,e2,e3,e4⟩:=az e (by omega)
  have hx:aL x:=hl x (by rw [e];simp)
  simp only [List.length_cons] at hh
  simp only [n9,ux,e1,ae,e2,Option.bind_some,ah hk,AI,N9,acw hk hx hi hb,a7,e3]
  rw [aV (by simp;omega)]
  show ab (!decide ((cJ x i b).2=0)) _ _=_
  by_cases h0:(cJ x i b).2=0
  ·rw [decide_eq_true h0,Bool.not_true,ad,ih (p++[x]) m _ e4 hm' (by simp;omega),aR,if_pos (show (cz i b h x).2=0 from h0)];rfl
  ·rw [decide_eq_false h0,Bool.not_false,ae,aR,if_neg (show ¬ (cz i b h x).2=0 from h0)];rfl
theorem tG (hk:Fu k) {f:List Cl} {i b:Int} (hf:am f) (hlen:f.length<1073741824) (hi:aE i) (hb:aE b) (ret:List Cl×Int→Option S):j6 k f i b ret=ret (ba f i b):=by
 have hlo:=G8 (i:=i) (b:=b) (r:=f) (h:=[]) (fun d hd=>by cases hd)
 simp only [List.length_nil] at hlo
 have hfold: ∀ (g:List Cl×Int→Option S),vW k f [] i b g=g (aR (cz i b) [] f):=fun g=>by
  simp only [vW,Er]
  exact Y1 hk g hi hb hf (by omega) f [] k [] rfl (by have:4294967296≤k:=hk;omega) (by simp;omega)
 simp only [j6,N8,ah hk,DF hk (l:=[f]) (by simpa using ⟨hf,by omega⟩) (by simp),ri,En,hfold,jM hk hlo.1 (show _<2147483648 by omega)]
 have e:[f].all be=be f:=by simp
 unfold ba
 cases hr:be f with
 |true=>
  rw [e,hr,if_pos rfl,if_pos rfl]
  rw [show ((0:Int)==0)=true from rfl,Bool.not_true,ad,a7]
  by_cases h0:(aR (cz i b) [] f).2=0
  ·rw [decide_eq_true h0,if_pos h0];exact ad _ _
  ·rw [decide_eq_false h0,if_neg h0];exact ae _ _
 |false=>
  have e1: ∀ (x y:List Cl×Int),(if false=true then x else y)=y:=fun x y=>if_neg (by decide)
  rw [e,hr,if_neg (by decide),e1];exact ae _ _
theorem ZD (hk:Fu k) (ret:List Cl×Int→Option S) {i b:Int} (hi:aE i) (hb:aE b) {l:List Cl} (hl:am l) (hlen:l.length<1073741824):
  ∀ (r p:List Cl) (m:Nat) (h:List Cl),l=p++r→r.length<m→am h→h.length+r.length<2147483648→ot k ret l i b m h (p.length:Int)=ret (if (aR (cz i b) h r).2=0 then a8 (aR (cz i b) h r).1 else ([],(aR (cz i b) h r).2)):=by
 intro r
 induction r with
 |nil=>
  intro p m h e hm hok hh
  obtain ⟨m,rfl,hm'⟩:=ak hm
  simp only [List.length_nil] at hh
  simp only [ot,uP,aA e,ad,ah hk,mT hk hok (show h.length<2147483648 by omega)]
  rw [aR,if_pos rfl]
 |cons x r ih=>
  intro p m h e hm hok hh
  obtain ⟨m,rfl,hm'⟩:=ak hm
  obtain ⟨e1,e2,e3,e4⟩:=az e (by omega)
  have hx:aL x:=hl x (by rw [e];simp)
  simp only [List.length_cons] at hh
  simp only [ot,uP,e1,ae,e2,Option.bind_some,ah hk,acY hk hx hi hb,a7,e3]
  by_cases h0:(cJ x i b).2=0
  ·rw [decide_eq_true h0,Bool.not_true,ad,aV (by simp;omega),ih (p++[x]) m _ e4 hm' (eM hok fun d hd=>by simp at hd;subst hd;exact (HW x i b).ok) (by simp;omega),aR,if_pos (show (cz i b h x).2=0 from h0)];rfl
  ·rw [decide_eq_false h0,Bool.not_false,ae,aR,if_neg (show ¬ (cz i b h x).2=0 from h0)]
   rw [if_neg (show ¬ (([]:List Cl),(cz i b h x).2).2=0 from h0)];rfl
theorem yG (hk:Fu k) {f:List Cl} {i b:Int} (hf:am f) (hlen:f.length<1073741824) (hi:aE i) (hb:aE b) (ret:List Cl×Int→Option S):lP k f i b ret=ret (ba f i b):=by
 simp only [lP,EM,ah hk,f0 hk hf (show f.length<2147483648 by omega)]
 unfold ba
 cases hr:be f with
 |true=>
  rw [Bool.not_true,ad,if_pos rfl]
  exact ZD hk ret hi hb hf hlen f [] k [] rfl (by have:4294967296≤k:=hk;omega) (fun d hd=>by cases hd) (by simp;omega)
 |false=>
  rw [Bool.not_false,ae,if_neg (by decide)]
theorem gI {f:List Cl} {i b:Int} (h:(ba f i b).2=0):RF (ba f i b).1:=by
 unfold ba at h ⊢
 split
 ·next hr=>
  rw [if_pos hr] at h
  split
  ·next h0=>
   rw [if_pos h0] at h
   exact oQ (G8 fun d hd=>by cases hd).1 h
  ·next h0=>rw [if_neg h0] at h;exact absurd h h0
 ·next hr=>rw [if_neg hr] at h;exact absurd h (by decide)
theorem afd {f:List Cl} {i b:Int} (h:(ba f i b).2≠0):(ba f i b).1=[]:=by
 unfold ba at h ⊢
 split
 ·next hr=>
  rw [if_pos hr] at h
  split
  ·next h0=>rw [if_pos h0] at h;exact BW h
  ·rfl
 ·rfl
end Go.Proofs.YtapmagaejigpnaaGreatDoor
namespace Go.Proofs.YtapmagaejigpnaaGreatDoor
open Go PI
set_option linter.unusedVariables false
set_option linter.unusedSimpArgs false
set_option maxRecDepth 20000
variable {S:Type} {k:Nat}
def o0 (s:Nat) (f:List Cl):Nat:=f.foldl (fun s c=>s|||(c.pos.toNat|||c.neg.toNat)) s
def eH (f:List Cl):Nat:=o0 0 f&&&M24
def gn (f:List Cl):Int:=((eH f:Nat):Int)
def fc (f:List Cl) (i:Nat):Bool:=f.any fun c=>c.pos.toNat.testBit i||c.neg.toNat.testBit i
theorem aa7 (i:Nat): ∀ {f:List Cl} {s:Nat},(o0 s f).testBit i=(s.testBit i||fc f i):=by
 intro f
 induction f with
 |nil=>intro s;simp [o0,fc]
 |cons c f ih=>
  intro s
  show (o0 (s|||(c.pos.toNat|||c.neg.toNat)) f).testBit i=_
  rw [ih,Nat.testBit_or,Nat.testBit_or,Bool.or_assoc];simp [fc]
theorem afq: ∀ {f:List Cl} {s:Nat},am f→s<4294967296→o0 s f<4294967296:=by
 intro f
 induction f with
 |nil=>intro s _ h;exact h
 |cons c f ih=>
  intro s hf h
  have hc:=hf c (by simp)
  have h1:=hc.1.1;have h2:=hc.1.2;have h3:=hc.2.1;have h4:=hc.2.2
  have h32:(2:Nat)^32=4294967296:=by decide
  exact ih (fun d hd=>hf d (by simp [hd])) (Nat.or_lt_two_pow (n:=32) h (Nat.or_lt_two_pow (n:=32) (by omega) (by omega)))
theorem A4 (f:List Cl) (i:Nat):(eH f).testBit i=(fc f i&&decide (i<24)):=by
 rw [eH,Nat.testBit_and,fM,aa7,Nat.zero_testBit,Bool.false_or]
theorem A3 (f:List Cl):eH f<16777216:=Nat.lt_of_le_of_lt Nat.and_le_right (by decide)
theorem YN (hk:Fu k) (ret:Int→Option S) {l:List Cl} (hl:am l) (hlen:l.length<4294967296):
  ∀ (r p:List Cl) (m:Nat) (s:Nat),l=p++r→r.length<m→s<4294967296→n5 k ret l m (s:Int) (p.length:Int)=ret (((o0 s r&&&M24:Nat):Int)):=by
 intro r
 induction r with
 |nil=>
  intro p m s e hm hs
  obtain ⟨m,rfl,hm'⟩:=ak hm
  simp only [n5,ut,aA e,ad,ah hk,tF hk (U32.of hs)]
  unfold dj
  rw [if_neg (by omega)];rfl
 |cons x r ih=>
  intro p m s e hm hs
  obtain ⟨m,rfl,hm'⟩:=ak hm
  obtain ⟨e1,e2,e3,e4⟩:=az e (by omega)
  have hx:aL x:=hl x (by rw [e];simp)
  have ho:U32 (dz x.pos x.neg):=Cx hx.1 hx.2
  have hq:s|||(x.pos.toNat|||x.neg.toNat)<4294967296:=by
   have h1:=hx.1.1;have h2:=hx.1.2;have h3:=hx.2.1;have h4:=hx.2.2
   have h32:(2:Nat)^32=4294967296:=by decide
   exact Nat.or_lt_two_pow (n:=32) hs (Nat.or_lt_two_pow (n:=32) (by omega) (by omega))
  have es:dz (s:Int) (dz x.pos x.neg)=((s|||(x.pos.toNat|||x.neg.toNat):Nat):Int):=by simp [dz]
  simp only [n5,ut,e1,ae,e2,Option.bind_some,o8 hx.1 hx.2,o8 (U32.of hs) ho,e3,es]
  exact ih (p++[x]) m _ e4 hm' hq
theorem DE (hk:Fu k) {f:List Cl} (hf:am f) (hlen:f.length<4294967296) (ret:Int→Option S):nk k f ret=ret (gn f):=by
 simp only [nk,Em]
 exact YN hk ret hf hlen f [] k 0 rfl (by have:4294967296≤k:=hk;omega) (by decide)
theorem Xy (s:Int) (i:Nat) (hi:i<24):bF s (i:Int)=s.toNat.testBit i:=by
 unfold bF;rw [decide_eq_true (by omega),Bool.true_and];rfl
theorem ZA (hk:Fu k) (ret:Int→Option S) (rec0:List Int→Int→Option S) {l:List Cl} (hl:am l) (hlen:l.length<4294967296) (o:List Int) (ho:o.length≤64) (i:Nat) (hi:i<24):
  ∀ (r p:List Cl) (m:Nat) (b:Bool),l=p++r→r.length<m→mj k ret rec0 l o (i:Int) m b (p.length:Int)=rec0 (if b||fc r i then o++[(i:Int)] else o) ((i+1:Nat):Int):=by
 intro r
 induction r with
 |nil=>
  intro p m b e hm
  obtain ⟨m,rfl,hm'⟩:=ak hm
  have e2:(i:Int)+1=((i+1:Nat):Int):=by simp
  simp only [mj,uO,aA e,ad,fc,List.any_nil,Bool.or_false]
  rw [dq (by omega) (by omega),e2]
  cases b with
  |true=>rw [ae,aV (by simp;omega)];rfl
  |false=>rw [ad];rfl
 |cons x r ih=>
  intro p m b e hm
  obtain ⟨m,rfl,hm'⟩:=ak hm
  obtain ⟨e1,e2,e3,e4⟩:=az e (by omega)
  have hx:aL x:=hl x (by rw [e];simp)
  have eu:fc (x::r) i=((x.pos.toNat.testBit i||x.neg.toNat.testBit i)||fc r i):=by simp [fc]
  simp only [mj,uO,e1,ae,e2,Option.bind_some,ah hk,gR hk hx.1,gR hk hx.2,Xy _ _ hi,e3,eu]
  cases b with
  |true=>rw [ae,ih (p++[x]) m true e4 hm'];rfl
  |false=>
   rw [ad]
   cases hp:x.pos.toNat.testBit i with
   |true=>rw [ae,ih (p++[x]) m true e4 hm'];rfl
   |false=>rw [ad,ih (p++[x]) m _ e4 hm'];rfl
def km (f:List Cl) (n:Nat):List Nat:=(List.range n).filter (fc f)
theorem Zz (hk:Fu k) (ret:Int→Option S) {f:List Cl} (hf:am f) (hlen:f.length<1073741824): ∀ (d i m:Nat),i+d=24→d<m→kN k ret f m (ints (km f i)) (i:Int)=ret ((b8 (km f 24):Nat):Int):=by
 have hl: ∀n,n≤24→(km f n).length≤24:=fun n hn=>by
  have:=List.length_filter_le (fc f) (List.range n)
  rw [List.length_range] at this;unfold km;omega
 intro d
 induction d with
 |zero=>
  intro i m e hm
  obtain ⟨m,rfl,hm'⟩:=ak hm
  have:i=24:=by omega
  subst this
  simp only [kN,qj,aK,ah hk]
  rw [if_neg (by omega),pG hk _ (by have:=hl 24 (by omega);omega) fun x hx=>by
   have:=(List.mem_filter.1 hx).1;simpa using this]
 |succ d ih=>
  intro i m e hm
  obtain ⟨m,rfl,hm'⟩:=ak hm
  have hk':4294967296≤k:=hk
  have hli:=hl i (by omega)
  simp only [kN,qj,aK]
  rw [if_pos (by omega)]
  have:=ZA hk ret (kN k ret f m) hf (by omega) (ints (km f i)) (by rw [df];omega) i (by omega) f [] k false rfl (by omega)
  simp only [List.length_nil] at this
  rw [show (0:Int)=((0:Nat):Int) from rfl,this,Bool.false_or,←ih (i+1) m (by omega) (by omega)]
  congr 1
  unfold km
  rw [List.range_succ,List.filter_append]
  cases hu:fc f i<;>simp [ints,hu]
theorem M2 (hk:Fu k) {f:List Cl} (hf:am f) (hlen:f.length<1073741824) (ret:Int→Option S):rq k f ret=ret (gn f):=by
 simp only [rq,EK]
 have:=Zz hk ret hf hlen 24 0 k (by omega) (by have:4294967296≤k:=hk;omega)
 refine Eq.trans this ?_
 congr 2
 apply Nat.eq_of_testBit_eq
 intro j
 rw [mU (km f 24) (List.nodup_range.filter _),A4,Bool.eq_iff_iff]
 simp [km]
 exact ⟨fun h=>⟨h.2,h.1⟩,fun h=>⟨h.2,h.1⟩⟩
def cA (f:List Cl) (d:Int):Bool:=decide (∀i∈bL (eH f),(i:Int)<d)
theorem Nc (hk:Fu k) {f:List Cl} {d:Int} (hf:am f) (hlen:f.length<4294967296) (hd:0≤d) (hd':d<9223372036854775808) (ret:Bool→Option S):kj k f d ret=ret (cA f d):=by
 simp only [kj,Pn,aK,ah hk,DE hk hf hlen]
 by_cases h:d≥24
 ·rw [if_pos h];congr 1
  rw [cA,eq_comm,decide_eq_true_eq]
  intro i hi;have:=(mem_bitsN.1 hi).1;omega
 ·rw [if_neg h]
  obtain ⟨n,rfl⟩: ∃n:Nat,d=n:=⟨d.toNat,by omega⟩
  rw [ga n (by omega),nd (by omega),Int.toNat_natCast,Nat.min_eq_left (by omega)]
  congr 1
  rw [gn,Bm,cA,Bool.eq_iff_iff]
  simp only [beq_iff_eq,decide_eq_true_eq]
  have hdiv:(eH f/2^n=0)↔eH f<2^n:=Nat.div_eq_zero_iff_lt (Nat.two_pow_pos n)
  constructor
  ·intro h0 i hi
   have h1:=mem_bitsN.1 hi
   apply Classical.byContradiction
   intro h2
   have:eH f<2^i:=Nat.lt_of_lt_of_le (hdiv.1 (by omega)) (Nat.pow_le_pow_right (by decide) (by omega))
   rw [Nat.testBit_lt_two_pow this] at h1;cases h1.2
  ·intro h0
   have:eH f<2^n:=by
    apply Nat.lt_pow_two_of_testBit
    intro j hj
    cases hb:(eH f).testBit j with
    |false=>rfl
    |true=>have:=h0 j (mem_bitsN.2 ⟨m_ (A3 f) hb,hb⟩);omega
   have:=hdiv.2 this
   omega
theorem UF (m:Nat):(bL m).Pairwise (· < ·):=List.Pairwise.filter _ List.pairwise_lt_range
theorem MT (hk:Fu k) {f:List Cl} {d:Int} (hf:am f) (hlen:f.length<1073741824) (ret:Bool→Option S):rz k f d ret=ret (cA f d):=by
 have hlt:=A3 f
 simp only [rz,OR,ah hk,M2 hk hf hlen,gn,pF hk (show eH f<4294967296 by omega),df]
 have hs:=UF (eH f)
 have hl:=fN (eH f)
 unfold cA
 generalize bL (eH f)=l at hs hl
 by_cases h0:l=[]
 ·subst h0;simp [ae]
 ·have hpos:0<l.length:=List.length_pos_iff.2 h0
  have hb:((l.length:Int)==0)=false:=by rw [beq_eq_false_iff_ne];omega
  have e1:(l.length:Int)-1=((l.length-1:Nat):Int):=by omega
  rw [hb,ad,dq (by omega) (by omega),e1,w9,BE,List.getElem?_eq_getElem (by omega)]
  simp only [Option.map_some,Option.bind_some]
  congr 1
  rw [Bool.eq_iff_iff,decide_eq_true_eq,decide_eq_true_eq]
  constructor
  ·intro h i hi
   obtain ⟨j,hj,rfl⟩:=List.getElem_of_mem hi
   have:l[j]≤l[l.length-1]:=by
    by_cases hjl:j=l.length-1
    ·subst hjl;exact Nat.le_refl _
    ·exact Nat.le_of_lt (List.pairwise_iff_getElem.1 hs j (l.length-1) hj (by omega) (by omega))
   have h':((l[l.length-1]:Nat):Int)<d:=h
   omega
  ·intro h;exact h _ (List.getElem_mem _)
end Go.Proofs.YtapmagaejigpnaaGreatDoor
namespace Go.Proofs.YtapmagaejigpnaaGreatDoor
open Go PI
set_option linter.unusedVariables false
set_option linter.unusedSimpArgs false
set_option maxRecDepth 20000
variable {S:Type} {k:Nat}
def iX (c:Cl):Bool:= !bw c
def cq (l:List Cl):List Cl:=l.filter iX
def bt (f:List Cl):Bool:=be f&&f.all fun c=> !bw c
def RFa (f:List Cl):Prop:=RF f∧ ∀c∈f,bw c=false
theorem fZ {f:List Cl} (h:am f):bt f=true↔RFa f:=by
 unfold bt RFa
 rw [Bool.and_eq_true,fH h,List.all_eq_true]
 simp
theorem RFa.right {f:List Cl} (h:RFa f):bt f=true:=(fZ h.1.2).2 h
theorem FT {l:List Cl} (h: ∀c∈l,bw c=false):cq l=l:=List.filter_eq_self.2 fun c hc=>by unfold iX;rw [h c hc];rfl
theorem Am {l:List Cl} {c:Cl} (h:c∈cq l):c∈l∧bw c=false:=by
 have:=List.mem_filter.1 h
 refine ⟨this.1, ?_⟩
 have h2:=this.2
 unfold iX at h2
 simpa using h2
theorem FV {l:List Cl} (h:am l):am (cq l):=fun c hc=>h c (Am hc).1
theorem HT {l:List Cl} (hl:am l) (hc: ∀c∈l,bw c=false) (h:(a8 l).2=0):RFa (a8 l).1:=by
 refine ⟨oQ hl h,fun c hcm=> ?_⟩
 have h':a8 l=((a8 l).1,0):=Prod.ext rfl h
 rw [(oP h').1] at hcm
 exact hc c (mem_mins.1 hcm).1
theorem Dj:RFa []:=⟨tz,fun c hc=>by cases hc⟩
theorem yy {c:Cl} (h:RC c) (h':bw c=false):RFa [c]:=⟨gQ h,fun d hd=>by simp at hd;subst hd;exact h'⟩
theorem FU (l:List Cl):(cq l).length≤l.length:=List.length_filter_le _ _
theorem YJ (hk:Fu k) (ret:Int→Option S) {l:List Cl} (hl:am l) (hlen:l.length<2147483648):
  ∀ (r p:List Cl) (m:Nat),l=p++r→r.length<m→ ∃v:Int,decide (v≥0)=r.any bw∧oJ k ret l m (p.length:Int)=ret v:=by
 intro r
 induction r with
 |nil=>
  intro p m h hm
  obtain ⟨m,rfl,hm'⟩:=ak hm
  exact ⟨-1,rfl,by simp only [oJ,vg,aA h,ad]⟩
 |cons x r ih=>
  intro p m h hm
  obtain ⟨m,rfl,hm'⟩:=ak hm
  obtain ⟨e1,e2,e3,e4⟩:=az h (by omega)
  have hx:aL x:=hl x (by rw [h];simp)
  obtain ⟨v,hv,hr⟩:=ih (p++[x]) m e4 hm'
  simp only [oJ,vg,e1,ae,e2,Option.bind_some,ah hk,MD hk hx,e3,hr,List.any_cons]
  cases hb:bw x with
  |true=>exact ⟨(p.length:Int),by simp,by rw [ae]⟩
  |false=>exact ⟨v,by rw [hv];rfl,by rw [ad]⟩
theorem Us (f:List Cl):(!f.any bw)=f.all fun c=> !bw c:=by
 induction f with
 |nil=>rfl
 |cons c f ih=>rw [List.any_cons,List.all_cons,Bool.not_or,ih]
theorem tH (hk:Fu k) {f:List Cl} (hf:am f) (hlen:f.length<2147483648) (ret:Bool→Option S):j5 k f ret=ret (bt f):=by
 obtain ⟨v,hv,hr⟩:=YJ hk (fun r1:Int=>(fun r2:Bool=>ret (!r2)) (decide (r1≥0))) hf hlen f [] k rfl (by have:4294967296≤k:=hk;omega)
 simp only [j5,NZ,ah hk,pD hk hf hlen,AX,Pd,AZ,Fc]
 unfold bt
 cases be f with
 |true=>
  rw [ae,Bool.true_and,←Us]
  refine hr.trans ?_
  simp only [hv]
 |false=>rw [ad,Bool.false_and]
theorem Y0 (hk:Fu k) (ret:Int→Option S) {l:List (List Cl)} (hl: ∀f∈l,am f∧f.length<2147483648) (hlen:l.length<4294967296):
  ∀ (r p:List (List Cl)) (m:Nat),l=p++r→r.length<m→n4 k ret l m (p.length:Int)=ret (if r.all bt then 0 else 2):=by
 intro r
 induction r with
 |nil=>
  intro p m h hm
  obtain ⟨m,rfl,hm'⟩:=ak hm
  simp only [n4,ur,aA h,ad];rfl
 |cons x r ih=>
  intro p m h hm
  obtain ⟨m,rfl,hm'⟩:=ak hm
  obtain ⟨e1,e2,e3,e4⟩:=az h (by omega)
  have hx:=hl x (by rw [h];simp)
  simp only [n4,ur,e1,ae,e2,Option.bind_some,ah hk,tH hk hx.1 hx.2,e3,ih (p++[x]) m e4 hm']
  by_cases hr:bt x=true
  ·have:(x::r).all bt=r.all bt:=by rw [List.all_cons,hr,Bool.true_and]
   rw [hr,Bool.not_true,ad,this]
  ·rw [Bool.not_eq_true] at hr
   have:(x::r).all bt=false:=by rw [List.all_cons,hr,Bool.false_and]
   rw [hr,Bool.not_false,ae,this,if_neg (by decide)]
theorem acH (hk:Fu k) {l:List (List Cl)} (hl: ∀f∈l,am f∧f.length<2147483648) (hlen:l.length<4294967296) (ret:Int→Option S):vR k l ret=ret (if l.all bt then 0 else 2):=by
 simp only [vR,Ek]
 exact Y0 hk ret hl hlen l [] k rfl (by have:4294967296≤k:=hk;omega)
theorem Zn (hk:Fu k) (ret:Bool→Option S) {l:List Cl} (hl: ∀c∈l,RC c) (hlen:l.length<2147483648):
  ∀ (r p:List Cl) (m:Nat),l=p++r→r.length<m→ox k ret l m (p.length:Int)=ret (r.all fun c=> !bw c):=by
 intro r
 induction r with
 |nil=>
  intro p m h hm
  obtain ⟨m,rfl,hm'⟩:=ak hm
  simp only [ox,uW,aA h,ad];rfl
 |cons x r ih=>
  intro p m h hm
  obtain ⟨m,rfl,hm'⟩:=ak hm
  obtain ⟨e1,e2,e3,e4⟩:=az h (by omega)
  have hx:RC x:=hl x (by rw [h];simp)
  simp only [ox,uW,e1,ae,e2,Option.bind_some,ah hk,MY hk hx,e3,ih (p++[x]) m e4 hm',List.all_cons]
  cases bw x with
  |true=>rw [ae];rfl
  |false=>rw [ad];rfl
theorem jN (hk:Fu k) {f:List Cl} (hf:am f) (hlen:f.length<2147483648) (ret:Bool→Option S):fS k f ret=ret (bt f):=by
 simp only [fS,EV,ah hk,f0 hk hf hlen]
 unfold bt
 cases hr:be f with
 |true=>
  have h:=(fH hf).1 hr
  rw [Bool.not_true,ad,Bool.true_and]
  exact Zn hk ret (fun c hc=>h.rc hc) hlen f [] k rfl (by have:4294967296≤k:=hk;omega)
 |false=>rw [Bool.not_false,ae,Bool.false_and]
def fW (l:List Cl):List Cl×Int:=a8 (cq l)
def eo (f:List Cl):List Cl×Int:=if be f then fW f else ([],2)
def fE (f:List Cl):List Cl×Int:=if be f then if (cK f).2=0 then fW (cK f).1 else ([],(cK f).2) else ([],2)
theorem BV {l:List Cl} (hl:am l) (h:(fW l).2=0):RFa (fW l).1:=HT (FV hl) (fun c hc=>(Am hc).2) h
theorem xF {f:List Cl} (h:(eo f).2=0) (hf:am f):RFa (eo f).1:=by
 unfold eo at h ⊢
 split
 ·next hr=>rw [if_pos hr] at h;exact BV hf h
 ·next hr=>rw [if_neg hr] at h;exact absurd h (by decide)
theorem Ct {f:List Cl} (h:(fE f).2=0) (hf:am f):RFa (fE f).1:=by
 unfold fE at h ⊢
 split
 ·next hr=>
  rw [if_pos hr] at h
  split
  ·next h0=>rw [if_pos h0] at h;exact BV (iy h0).2 h
  ·next h0=>rw [if_neg h0] at h;exact absurd h h0
 ·next hr=>rw [if_neg hr] at h;exact absurd h (by decide)
theorem ML (hk:Fu k) {c:Cl} (hc:aL c) (ret:Cl×Bool→Option S):rg k c ret=ret (c,iX c):=by
 simp only [rg,N3,ah hk,MD hk hc];rfl
theorem Y7 (hk:Fu k) (ret:List Cl→Option S) {l:List Cl} (hl:am l) (hlen:l.length<2147483648):
  ∀ (r p:List Cl) (m:Nat) (o:List Cl),l=p++r→r.length<m→o.length+r.length<4294967296→nZ k ret l m (p.length:Int) o=ret (o++cq r):=by
 intro r
 induction r with
 |nil=>
  intro p m o h hm ho
  obtain ⟨m,rfl,hm'⟩:=ak hm
  simp only [nZ,uo,aA h,ad,cq,List.filter_nil,List.append_nil]
 |cons x r ih=>
  intro p m o h hm ho
  obtain ⟨m,rfl,hm'⟩:=ak hm
  obtain ⟨e1,e2,e3,e4⟩:=az h (by omega)
  have hx:aL x:=hl x (by rw [h];simp)
  simp only [List.length_cons] at ho
  simp only [nZ,uo,e1,ae,e2,Option.bind_some,ah hk,ML hk hx,e3]
  cases hb:iX x with
  |true=>
   rw [ae,aV (by simp;omega),ih (p++[x]) m (o++[x]) e4 hm' (by simp;omega)]
   unfold cq
   rw [List.filter_cons_of_pos hb,List.append_assoc];rfl
  |false=>
   rw [ad,ih (p++[x]) m o e4 hm' (by omega)]
   unfold cq
   rw [List.filter_cons_of_neg (by rw [hb];decide)]
theorem acJ (hk:Fu k) {l:List Cl} (hl:am l) (hlen:l.length<2147483648) (ret:List Cl→Option S):vP k l ret=ret (cq l):=by
 simp only [vP,Ei]
 have:=Y7 hk ret hl hlen l [] k [] rfl (by have:4294967296≤k:=hk;omega) (by simp;omega)
 simpa using this
theorem MM (hk:Fu k) {f:List Cl} (hf:am f) (hlen:f.length<2147483648) (ret:List Cl×Int→Option S):rf k f ret=ret (eo f):=by
 have:=FU f
 simp only [rf,NX,ah hk,pD hk hf hlen,acJ hk hf hlen,jM hk (FV hf) (show (cq f).length<2147483648 by omega)]
 unfold eo
 cases be f with
 |true=>rw [Bool.not_true,ad,if_pos rfl];rfl
 |false=>rw [Bool.not_false,ae,if_neg (by decide)]
theorem acE (hk:Fu k) {f:List Cl} (hf:am f) (hlen:f.length<2147483648) (ret:List Cl×Int→Option S):vK k f ret=ret (fE f):=by
 simp only [vK,NY,ah hk,acA hk hf hlen,a7]
 unfold fE
 cases be f with
 |true=>
  rw [if_pos rfl,if_pos rfl]
  by_cases h0:(cK f).2=0
  ·have hr:=iy h0
   rw [decide_eq_true h0,Bool.not_true,ad,if_pos h0,MM hk hr.2 hr.lt]
   unfold eo
   rw [if_pos hr.right]
  ·rw [decide_eq_false h0,Bool.not_false,ae,if_neg h0]
 |false=>
  have e1: ∀ (x y:List Cl×Int),(if false=true then x else y)=y:=fun x y=>if_neg (by decide)
  rw [e1,e1];exact ae _ _
theorem Zo (hk:Fu k) (ret:List Cl×Int→Option S) {l:List Cl} (hl: ∀c∈l,RC c) (hlen:l.length<1073741824):
  ∀ (r p:List Cl) (m:Nat) (o:List Cl),l=p++r→r.length<m→am o→o.length+r.length<2147483648→oy k ret l m o (p.length:Int)=ret (a8 (o++cq r)):=by
 intro r
 induction r with
 |nil=>
  intro p m o h hm hok ho
  obtain ⟨m,rfl,hm'⟩:=ak hm
  simp only [List.length_nil] at ho
  simp only [oy,uX,aA h,ad,cq,List.filter_nil,List.append_nil,ah hk,mT hk hok (show o.length<2147483648 by omega)]
 |cons x r ih=>
  intro p m o h hm hok ho
  obtain ⟨m,rfl,hm'⟩:=ak hm
  obtain ⟨e1,e2,e3,e4⟩:=az h (by omega)
  have hx:RC x:=hl x (by rw [h];simp)
  simp only [List.length_cons] at ho
  simp only [oy,uX,e1,ae,e2,Option.bind_some,ah hk,MY hk hx,e3]
  cases hb:bw x with
  |false=>
   rw [Bool.not_false,ae,aV (by simp;omega),ih (p++[x]) m (o++[x]) e4 hm' (eM hok fun c hc=>by simp at hc;subst hc;exact hx.ok) (by simp;omega)]
   unfold cq
   rw [List.filter_cons_of_pos (by unfold iX;rw [hb];rfl),List.append_assoc];rfl
  |true=>
   rw [Bool.not_true,ad,ih (p++[x]) m o e4 hm' hok (by omega)]
   unfold cq
   rw [List.filter_cons_of_neg (by unfold iX;rw [hb];decide)]
theorem yI (hk:Fu k) {l:List Cl} (hl: ∀c∈l,RC c) (hlen:l.length<1073741824) (ret:List Cl×Int→Option S):lQ k l ret=ret (fW l):=by
 simp only [lQ,EW]
 have:=Zo hk ret hl hlen l [] k [] rfl (by have:4294967296≤k:=hk;omega) (fun c hc=>by cases hc) (by simp;omega)
 simpa [fW] using this
theorem ac1 (hk:Fu k) {f:List Cl} (hf:am f) (hlen:f.length<1073741824) (ret:List Cl×Int→Option S):wl k f ret=ret (eo f):=by
 simp only [wl,OL,ah hk,f0 hk hf (show f.length<2147483648 by omega)]
 unfold eo
 cases hr:be f with
 |true=>
  have h:=(fH hf).1 hr
  rw [Bool.not_true,ad,if_pos rfl,yI hk (fun c hc=>h.rc hc) hlen]
 |false=>rw [Bool.not_false,ae,if_neg (by decide)]
theorem ac2 (hk:Fu k) {f:List Cl} (hf:am f) (hlen:f.length<2147483648) (ret:List Cl×Int→Option S):rt k f ret=ret (fE f):=by
 simp only [rt,OM,ah hk,M5 hk hf hlen,a7]
 unfold fE
 cases be f with
 |true=>
  rw [if_pos rfl,if_pos rfl]
  by_cases h0:(cK f).2=0
  ·have hr:=iy h0
   rw [decide_eq_true h0,Bool.not_true,ad,if_pos h0,yI hk (fun c hc=>hr.rc hc) (by have:=hr.len;omega)]
  ·rw [decide_eq_false h0,Bool.not_false,ae,if_neg h0]
 |false=>
  have e1: ∀ (x y:List Cl×Int),(if false=true then x else y)=y:=fun x y=>if_neg (by decide)
  rw [e1,e1];exact ae _ _
def ei (f g:List Cl):List Cl×Int:=fW (meets f g)
def dW (f g:List Cl):List Cl×Int:=if bt f&&bt g then bU f g else ([],2)
theorem MN (hk:Fu k) {f g:List Cl} (hf:am f) (hg:am g) (h1:f.length<1073741824) (h2:g.length<1073741824) (ret:List Cl×Int→Option S):rh k f g ret=ret (bU f g):=by
 simp only [rh,N5,ah hk,List.nil_append]
 rw [aV (by simp;omega),aV (by omega),jM hk (eM hf hg) (by rw [List.length_append];omega)]
 rfl
theorem acC (hk:Fu k) {f g:List Cl} (hf:am f) (hg:am g) (h1:f.length<1073741824) (h2:g.length<1073741824) (ret:List Cl×Int→Option S):vJ k f g ret=ret (dW f g):=by
 simp only [vJ,NW,ah hk,acH hk (l:=[f,g]) (by simpa using ⟨⟨hf,by omega⟩,hg,by omega⟩) (by simp),MN hk hf hg h1 h2]
 have e:[f,g].all bt=(bt f&&bt g):=by simp
 unfold dW
 rw [e]
 cases (bt f&&bt g) with
 |true=>rw [if_pos rfl,if_pos rfl];exact ad _ _
 |false=>
  rw [if_neg (by decide),if_neg (by decide)];exact ae _ _
theorem XN {f g:List Cl} (hf: ∀c∈f,bw c=false) (hg: ∀c∈g,bw c=false):fW (f++g)=bU f g:=by
 unfold fW bU
 rw [FT fun c hc=>by
  rcases List.mem_append.1 hc with h|h
  ·exact hf c h
  ·exact hg c h]
theorem sr {f g:List Cl} (hf:RFa f) (hg:RFa g) (h:(bU f g).2=0):RFa (bU f g).1:=
 HT (eM hf.1.2 hg.1.2) (fun c hc=>by
  rcases List.mem_append.1 hc with h|h
  ·exact hf.2 c h
  ·exact hg.2 c h) h
theorem M1 (hk:Fu k) {f g:List Cl} (hf:am f) (hg:am g) (h1:f.length<268435456) (h2:g.length<268435456) (ret:List Cl×Int→Option S):fi k f g ret=ret (dW f g):=by
 simp only [fi,OK,ah hk,jN hk hf (show f.length<2147483648 by omega),jN hk hg (show g.length<2147483648 by omega),List.nil_append]
 unfold dW
 cases hr:bt f with
 |true=>
  rw [Bool.not_true,ad,Bool.true_and]
  cases hr2:bt g with
  |true=>
   have hf':=(fZ hf).1 hr
   have hg':=(fZ hg).1 hr2
   rw [Bool.not_true,ad,if_pos rfl,aV (by simp;omega),aV (by omega),yI hk (fun c hc=>by
    rcases List.mem_append.1 hc with h|h
    ·exact hf'.1.rc h
    ·exact hg'.1.rc h) (by rw [List.length_append];omega),XN hf'.2 hg'.2]
  |false=>rw [Bool.not_false,ae,if_neg (by decide)]
 |false=>rw [Bool.not_false,ae,Bool.false_and,if_neg (by decide)]
theorem acD (hk:Fu k) {b c:Cl} (hb:aL b) (hc:aL c) (ret:Cl×Bool→Option S):vQ k b c ret=ret (cD c b,iX (cD c b)):=by
 simp only [vQ,N6,ah hk,DC hk hc hb,ML hk (xz hc hb)]
theorem Y8 (hk:Fu k) (ret:List Cl→Option S) {c:Cl} (hc:aL c) {l:List Cl} (hl:am l) (hlen:l.length<2147483648):
  ∀ (r p:List Cl) (m:Nat) (o:List Cl),l=p++r→r.length<m→o.length+r.length<4294967296→nY k ret c l m (p.length:Int) o=ret (o++cq (r.map (cD c))):=by
 intro r
 induction r with
 |nil=>
  intro p m o h hm ho
  obtain ⟨m,rfl,hm'⟩:=ak hm
  simp only [nY,um,aA h,ad,List.map_nil,cq,List.filter_nil,List.append_nil]
 |cons x r ih=>
  intro p m o h hm ho
  obtain ⟨m,rfl,hm'⟩:=ak hm
  obtain ⟨e1,e2,e3,e4⟩:=az h (by omega)
  have hx:aL x:=hl x (by rw [h];simp)
  simp only [List.length_cons] at ho
  simp only [nY,um,e1,ae,e2,Option.bind_some,ah hk,acD hk hx hc,e3]
  cases hb:iX (cD c x) with
  |true=>
   rw [ae,aV (by simp;omega),ih (p++[x]) m (o++[cD c x]) e4 hm' (by simp;omega)]
   unfold cq
   rw [List.map_cons,List.filter_cons_of_pos hb,List.append_assoc];rfl
  |false=>
   rw [ad,ih (p++[x]) m o e4 hm' (by omega)]
   unfold cq
   rw [List.map_cons,List.filter_cons_of_neg (by rw [hb];decide)]
theorem acK (hk:Fu k) {c:Cl} (hc:aL c) {l:List Cl} (hl:am l) (hlen:l.length<2147483648) (ret:List Cl→Option S):vO k l c ret=ret (cq (l.map (cD c))):=by
 simp only [vO,Eh]
 have:=Y8 hk ret hc hl hlen l [] k [] rfl (by have:4294967296≤k:=hk;omega) (by simp;omega)
 simpa using this
theorem YY (hk:Fu k) (ret:List Cl×Int→Option S) {g f:List Cl} (hf:am f) (hg:am g) (hlf:f.length<32768) (hlg:g.length<32768):
  ∀ (r p:List Cl) (m:Nat) (o:List Cl),f=p++r→r.length<m→am o→o.length+r.length*g.length<1073741825→n1 k ret g f m (p.length:Int) o=ret (a8 (o++cq (meets r g))):=by
 intro r
 induction r with
 |nil=>
  intro p m o h hm hok ho
  obtain ⟨m,rfl,hm'⟩:=ak hm
  simp only [n1,uq,aA h,ad,ah hk]
  rw [jM hk hok (by omega)]
  simp [meets,cq]
 |cons x r ih=>
  intro p m o h hm hok ho
  obtain ⟨m,rfl,hm'⟩:=ak hm
  obtain ⟨e1,e2,e3,e4⟩:=az h (by omega)
  have hx:aL x:=hf x (by rw [h];simp)
  have hmul:(x::r).length*g.length=r.length*g.length+g.length:=by rw [List.length_cons,Nat.succ_mul]
  rw [hmul] at ho
  have hcl:=FU (g.map (cD x))
  rw [List.length_map] at hcl
  simp only [n1,uq,e1,ae,e2,Option.bind_some,ah hk,acK hk hx hg (show g.length<2147483648 by omega),e3]
  rw [aV (by omega),ih (p++[x]) m _ e4 hm' (eM hok fun c hc=>by
   obtain ⟨b,hb,rfl⟩:=List.mem_map.1 (Am hc).1
   exact xz hx (hg b hb)) (by rw [List.length_append];omega)]
  have:cq (meets (x::r) g)=cq (g.map (cD x))++cq (meets r g):=by simp [meets,cq]
  rw [this,List.append_assoc]
theorem acG (hk:Fu k) {f g:List Cl} (hf:am f) (hg:am g) (h1:f.length<32768) (h2:g.length<32768) (ret:List Cl×Int→Option S):nj k f g ret=ret (ei f g):=by
 simp only [nj,Ej]
 have hb:f.length*g.length<1073741824:=Nat.lt_of_le_of_lt (Nat.mul_le_mul (Nat.le_of_lt_succ h1) (Nat.le_of_lt_succ h2)) (by decide)
 have:=YY hk ret hf hg h1 h2 f [] k [] rfl (by have:4294967296≤k:=hk;omega) (fun c hc=>by cases hc) (by simp;omega)
 simpa [ei,fW] using this
theorem Zq (hk:Fu k) (ret:List Cl×Int→Option S) (rec0:List Cl→Int→Option S) {x:Cl} (hx:RC x) {g f:List Cl} {v:Int} (hfx:al f v=some x) (hg: ∀c∈g,RC c) (hlen:g.length<65536):
  ∀ (r p:List Cl) (m:Nat) (o:List Cl),g=p++r→r.length<m→o.length+r.length<1099511627776→mm k ret rec0 f g v m o (p.length:Int)=rec0 (o++r.map (cD x)) (IntKind.wrap .i64 (v+1)):=by
 intro r
 induction r with
 |nil=>
  intro p m o h hm ho
  obtain ⟨m,rfl,hm'⟩:=ak hm
  simp only [mm,uU,aA h,ad,List.map_nil,List.append_nil]
 |cons y r ih=>
  intro p m o h hm ho
  obtain ⟨m,rfl,hm'⟩:=ak hm
  obtain ⟨e1,e2,e3,e4⟩:=az h (by omega)
  have hy:RC y:=hg y (by rw [h];simp)
  simp only [List.length_cons] at ho
  simp only [mm,uU,e1,ae,e2,hfx,Option.bind_some,ah hk,MZ hk hx hy,e3]
  rw [aV (by simp;omega),ih (p++[y]) m (o++[cD x y]) e4 hm' (by simp;omega)]
  simp
theorem Zp (hk:Fu k) (ret:List Cl×Int→Option S) {g f:List Cl} (hf: ∀c∈f,RC c) (hg: ∀c∈g,RC c) (hlf:f.length<32768) (hlg:g.length<32768):
  ∀ (r p:List Cl) (m:Nat) (o:List Cl),f=p++r→r.length<m→(∀c∈o,RC c)→o.length+r.length*g.length<1073741824→kQ k ret f g m o (p.length:Int)=ret (fW (o++meets r g)):=by
 intro r
 induction r with
 |nil=>
  intro p m o h hm hok ho
  obtain ⟨m,rfl,hm'⟩:=ak hm
  simp only [kQ,qm,aA h,ad,ah hk]
  rw [yI hk hok (by omega)]
  simp [meets]
 |cons x r ih=>
  intro p m o h hm hok ho
  obtain ⟨m,rfl,hm'⟩:=ak hm
  obtain ⟨e1,e2,e3,e4⟩:=az h (by omega)
  have hx:RC x:=hf x (by rw [h];simp)
  have hmul:(x::r).length*g.length=r.length*g.length+g.length:=by rw [List.length_cons,Nat.succ_mul]
  rw [hmul] at ho
  have hk':4294967296≤k:=hk
  simp only [kQ,qm,e1,ae]
  have:=Zq hk ret (kQ k ret f g m) hx e2 hg (by omega) g [] k o rfl (by omega) (by omega)
  simp only [List.length_nil] at this
  rw [show (0:Int)=((0:Nat):Int) from rfl,this,e3,ih (p++[x]) m _ e4 hm' (fun c hc=>by
   rcases List.mem_append.1 hc with h|h
   ·exact hok c h
   ·obtain ⟨b,hb,rfl⟩:=List.mem_map.1 h
    exact Jp hx (hg b hb)) (by rw [List.length_append,List.length_map];omega)]
  simp [meets]
theorem ac0 (hk:Fu k) {f g:List Cl} (hf:RFa f) (hg:RFa g) (ret:List Cl×Int→Option S):kc k f g ret=ret (ei f g):=by
 have l1:=hf.1.len;have l2:=hg.1.len
 simp only [kc,ES,ah hk,jN hk hf.1.2 hf.1.lt,jN hk hg.1.2 hg.1.lt,hf.right,hg.right,Bool.not_true,ad]
 have hb:f.length*g.length≤64*64:=Nat.mul_le_mul l1 l2
 have:=Zp hk ret (fun c hc=>hf.1.rc hc) (fun c hc=>hg.1.rc hc) (by omega) (by omega) f [] k [] rfl (by have:4294967296≤k:=hk;omega) (fun c hc=>by cases hc) (by simp;omega)
 simpa [ei] using this
theorem s8 {f g:List Cl} (hf:am f) (hg:am g) (h:(ei f g).2=0):RFa (ei f g).1:=BV (Jq hf hg) h
theorem Xz {c:Cl} {i:Int} (h:bw c=false) (hp:bF c.pos i=true):bF c.neg i=false:=by
 cases hn:bF c.neg i with
 |false=>rfl
 |true=>
  exfalso
  unfold bF at hp hn
  rw [Bool.and_eq_true] at hp hn
  unfold bw at h
  rw [Bool.not_eq_false',decide_eq_true_eq] at h
  have:(c.pos.toNat&&&c.neg.toNat).testBit i.toNat=true:=by rw [Nat.testBit_and,hp.2,hn.2];rfl
  rw [h,Nat.zero_testBit] at this;cases this
theorem PN {s i:Int} {j:Nat} (h:(dj s i).toNat.testBit j=true):s.toNat.testBit j=true:=by
 unfold dj at h
 split at h
 ·rw [Int.toNat_natCast,jD,Nat.testBit_and,Bool.and_eq_true,Bool.and_eq_true] at h;exact h.1.1
 ·rw [Int.toNat_natCast,Nat.testBit_and,Bool.and_eq_true] at h;exact h.1
theorem UJ {c:Cl}:bw c=false↔ ∀j,¬ (c.pos.toNat.testBit j=true∧c.neg.toNat.testBit j=true):=by
 unfold bw
 rw [Bool.not_eq_false',decide_eq_true_eq]
 constructor
 ·intro h j ⟨h1,h2⟩
  have:(c.pos.toNat&&&c.neg.toNat).testBit j=true:=by rw [Nat.testBit_and,h1,h2];rfl
  rw [h,Nat.zero_testBit] at this;cases this
 ·intro h
  apply Nat.eq_of_testBit_eq
  intro j
  rw [Nat.zero_testBit,Nat.testBit_and]
  cases h1:c.pos.toNat.testBit j with
  |false=>rfl
  |true=>
   cases h2:c.neg.toNat.testBit j with
   |false=>rfl
   |true=>exact absurd ⟨h1,h2⟩ (h j)
theorem w8 {c:Cl} {i:Int} (h:bw c=false):bw (bO i c)=false:=by
 rw [UJ] at h ⊢
 exact fun j ⟨h1,h2⟩=>h j ⟨PN h1,PN h2⟩
def dZ (i:Int) (c:Cl) (h:List Cl) (q:List Cl×Int):List Cl×Int:=
 if q.2=0 then if (ei [bO i c] q.1).2=0 then bU h (ei [bO i c] q.1).1 else ([],(ei [bO i c] q.1).2) else ([],q.2)
def ck (i:Int) (r h:List Cl) (c:Cl):List Cl×Int:=
 if bF c.pos i then dZ i c h (eo r) else if bF c.neg i then dZ i c h (fE r) else bU h [bO i c]
def gN (f:List Cl) (i:Int) (r:List Cl):List Cl×Int:=if bt f&&be r&&kl i then aR (ck i r) [] f else ([],2)
theorem JI {i:Int} {c:Cl} {h:List Cl} {q:List Cl×Int} (hh:RFa h) (hq:q.2=0→RFa q.1) (h0:(dZ i c h q).2=0):RFa (dZ i c h q).1:=by
 unfold dZ at h0 ⊢
 split
 ·next h1=>
  rw [if_pos h1] at h0
  split
  ·next h2=>rw [if_pos h2] at h0;exact sr hh (s8 (gQ (jo i c)).2 (hq h1).1.2 h2) h0
  ·next h2=>rw [if_neg h2] at h0;exact absurd h0 h2
 ·next h1=>rw [if_neg h1] at h0;exact absurd h0 h1
theorem abg {i:Int} {r h:List Cl} {c:Cl} (hr:RF r) (hh:RFa h) (hc:bw c=false) (h0:(ck i r h c).2=0):RFa (ck i r h c).1:=by
 unfold ck at h0 ⊢
 split
 ·next h1=>rw [if_pos h1] at h0;exact JI hh (fun h=>xF h hr.2) h0
 ·next h1=>
  rw [if_neg h1] at h0
  split
  ·next h2=>rw [if_pos h2] at h0;exact JI hh (fun h=>Ct h hr.2) h0
  ·next h2=>rw [if_neg h2] at h0;exact sr hh (yy (jo i c) (w8 hc)) h0
theorem Xm {i:Int} {r:List Cl} (hr:RF r): ∀ {l h:List Cl},(∀c∈l,bw c=false)→RFa h→(aR (ck i r) h l).2=0→RFa (aR (ck i r) h l).1:=by
 intro l
 induction l with
 |nil=>intro h _ hh _;exact hh
 |cons c l ih=>
  intro h hl hh h0
  unfold aR at h0 ⊢
  split
  ·next h1=>
   rw [if_pos h1] at h0
   exact ih (fun d hd=>hl d (by simp [hd])) (abg hr hh (hl c (by simp)) h1) h0
  ·next h1=>rw [if_neg h1] at h0;exact absurd h0 h1
theorem abi {f r:List Cl} {i:Int} (hf:am f) (hr:am r) (h:(gN f i r).2=0):RFa (gN f i r).1:=by
 unfold gN at h ⊢
 split
 ·next hc=>
  rw [if_pos hc] at h
  simp only [Bool.and_eq_true] at hc
  exact Xm ((fH hr).1 hc.1.2) ((fZ hf).1 hc.1.1).2 Dj h
 ·next hc=>rw [if_neg hc] at h;exact absurd h (by decide)
theorem afp {r:List Cl} (hr:RF r) (h:(eo r).2=0):(eo r).1.length≤64:=(xF h hr.2).1.len
theorem Xd (hk:Fu k) (ret:List Cl×Int→Option S) (rec0:Int→List Cl→Option S) (i:Int) (r f:List Cl) {h:List Cl} {v:Int} {g:List Cl} {e:Int} (hh:RF h) (hg:e=0→RF g):
  nX k ret rec0 i r f v h k g e=if e=0 then if (bU h g).2=0 then rec0 (IntKind.wrap .i64 (v+1)) (bU h g).1 else ret ([],(bU h g).2) else ret ([],e):=by
 obtain ⟨q,hq⟩: ∃q,k=q+1:=⟨k-1,by have:4294967296≤k:=hk;omega⟩
 have: ∀j,j=q+1→nX k ret rec0 i r f v h j g e=ul k ret i r f v h rec0 g e:=by rintro j rfl;rfl
 rw [this k hq]
 simp only [ul,a7]
 by_cases h0:e=0
 ·have l1:=hh.len;have l2:=(hg h0).len
  rw [decide_eq_true h0,ae,if_pos h0,ah hk,MN hk hh.2 (hg h0).2 (by omega) (by omega)]
  by_cases h1:(bU h g).2=0
  ·rw [decide_eq_true h1,if_pos h1];exact ad _ _
  ·rw [decide_eq_false h1,if_neg h1];exact ae _ _
 ·rw [decide_eq_false h0,ad,if_neg h0];exact ae _ _
theorem YZ (hk:Fu k) (ret:List Cl×Int→Option S) {i:Int} {q:List Cl} (hq:RF q) {l:List Cl} (hl:am l) (hc: ∀c∈l,bw c=false) (hlen:l.length<2147483648):
  ∀ (r p:List Cl) (m:Nat) (h:List Cl),l=p++r→r.length<m→RFa h→kK k ret i q l m (p.length:Int) h=ret (aR (ck i q) h r):=by
 intro r
 induction r with
 |nil=>
  intro p m h e hm hh
  obtain ⟨m,rfl,hm'⟩:=ak hm
  simp only [kK,p_,aA e,ad];rfl
 |cons x r ih=>
  intro p m h e hm hh
  obtain ⟨m,rfl,hm'⟩:=ak hm
  obtain ⟨e1,e2,e3,e4⟩:=az e (by omega)
  have hx:aL x:=hl x (by rw [e];simp)
  have hxc:bw x=false:=hc x (by rw [e];simp)
  have hg:=yy (jo i x) (w8 hxc)
  have key: ∀ (g:List Cl) (e:Int),(e=0→RFa g)→(ck i q h x=if e=0 then bU h g else ([],e))→nX k ret (kK k ret i q l m) i q l (p.length:Int) h k g e=ret (aR (ck i q) h (x::r)):=by
   intro g e hge hput
   rw [Xd hk _ _ _ _ _ hh.1 (fun h=>(hge h).1),aR,hput]
   by_cases h0:e=0
   ·rw [if_pos h0,if_pos h0]
    by_cases h1:(bU h g).2=0
    ·rw [if_pos h1,if_pos h1,e3]
     exact ih (p++[x]) m _ e4 hm' (sr hh (hge h0) h1)
    ·rw [if_neg h1,if_neg h1]
   ·rw [if_neg h0,if_neg h0,if_neg h0]
  have em: ∀ (s:List Cl),RF s→ ∀ (f:List Cl×Int→Option S),nj k [Cl.mk (dj x.pos i) (dj x.neg i)] s f=f (ei [bO i x] s):=fun s hs f=>acG hk hg.1.2 hs.2 (by simp) (by have:=hs.len;omega) f
  simp only [kK,p_,e1,ae,e2,Option.bind_some,ah hk,tF hk hx.1,tF hk hx.2,pB hk hx.1,pB hk hx.2,MM hk hq.2 hq.lt,acE hk hq.2 hq.lt,a7]
  cases hp:bF x.pos i with
  |true=>
   rw [ae]
   by_cases h1:(eo q).2=0
   ·have ho:=xF h1 hq.2
    rw [decide_eq_true h1,ae,em _ ho.1]
    exact key _ _ (fun h0=>s8 hg.1.2 ho.1.2 h0) (by unfold ck dZ;simp only [hp,h1,if_true])
   ·rw [decide_eq_false h1,ad]
    exact key _ _ (fun h0=>absurd h0 h1) (by unfold ck dZ;simp only [hp,h1,if_true,if_false])
  |false=>
   rw [ad]
   cases hn:bF x.neg i with
   |true=>
    rw [ae]
    by_cases h1:(fE q).2=0
    ·have ho:=Ct h1 hq.2
     rw [decide_eq_true h1,ae,em _ ho.1]
     exact key _ _ (fun h0=>s8 hg.1.2 ho.1.2 h0) (by unfold ck dZ;simp only [hp,hn,h1,if_true,if_false,Bool.false_eq_true])
    ·rw [decide_eq_false h1,ad]
     exact key _ _ (fun h0=>absurd h0 h1) (by unfold ck dZ;simp only [hp,hn,h1,if_true,if_false,Bool.false_eq_true])
   |false=>
    rw [ad]
    exact key [bO i x] 0 (fun _=>hg) (by unfold ck;simp only [hp,hn,if_true,if_false,Bool.false_eq_true])
theorem acF (hk:Fu k) {f r:List Cl} {i:Int} (hf:am f) (hr:am r) (h1:f.length<2147483648) (h2:r.length<2147483648) (ret:List Cl×Int→Option S):vL k f i r ret=ret (gN f i r):=by
 simp only [vL,Eg,ah hk,tH hk hf h1,acz hk,pD hk hr h2]
 unfold gN kl
 cases ha:bt f with
 |false=>rw [Bool.not_false,ae];rfl
 |true=>
  rw [Bool.not_true,ad]
  by_cases hd:0≤i∧i<24
  ·rw [decide_eq_true hd,Bool.not_true,ad]
   cases hb:be r with
   |false=>rw [Bool.not_false,ae];rfl
   |true=>
    rw [Bool.not_true,ad]
    exact YZ hk ret ((fH hr).1 hb) hf ((fZ hf).1 ha).2 h1 f [] k [] rfl (by have:4294967296≤k:=hk;omega) Dj
  ·rw [decide_eq_false hd,Bool.not_false,ae,Bool.and_false,if_neg (by decide)]
theorem aan {i:Int} {c:Cl} (h:bw c=false):ei [bO i c] [⟨0,0⟩]=([bO i c],0):=by
 have e:meets [bO i c] [⟨0,0⟩]=[bO i c]:=by
  have h1:0≤(bO i c).pos:=withoutS_lt.1
  have h2:0≤(bO i c).neg:=withoutS_lt.1
  have:cD (bO i c) ⟨0,0⟩=bO i c:=by
   unfold cD dz
   simp only [Int.toNat_zero,Nat.or_zero]
   rw [Int.toNat_of_nonneg h1,Int.toNat_of_nonneg h2]
  simp [meets,this]
 unfold ei fW
 rw [e,FT fun d hd=>by simp at hd;subst hd;exact w8 h]
 exact (gQ (jo i c)).1
theorem Zr (hk:Fu k) (ret:List Cl×Int→Option S) {i:Int} {q:List Cl} (hq:RF q) {l:List Cl} (hl:am l) (hc: ∀c∈l,bw c=false) (hlen:l.length<2147483648):
  ∀ (r p:List Cl) (m:Nat) (h:List Cl),l=p++r→r.length<m→RFa h→mn k ret l i q m h (p.length:Int)=ret (aR (ck i q) h r):=by
 intro r
 induction r with
 |nil=>
  intro p m h e hm hh
  obtain ⟨m,rfl,hm'⟩:=ak hm
  simp only [mn,uV,aA e,ad];rfl
 |cons x r ih=>
  intro p m h e hm hh
  obtain ⟨m,rfl,hm'⟩:=ak hm
  obtain ⟨e1,e2,e3,e4⟩:=az e (by omega)
  have hx:aL x:=hl x (by rw [e];simp)
  have hxc:bw x=false:=hc x (by rw [e];simp)
  have hg:=yy (jo i x) (w8 hxc)
  have lh:=hh.1.len
  have em: ∀ (s:List Cl),RFa s→ ∀ (f:List Cl×Int→Option S),kc k [Cl.mk (dj x.pos i) (dj x.neg i)] s f=f (ei [bO i x] s):=fun s hs f=>ac0 hk hg hs f
  have ej: ∀ (s:List Cl),RFa s→ ∀ (f:List Cl×Int→Option S),fi k h s f=f (bU h s):=fun s hs f=>by
   have ls:=hs.1.len
   rw [M1 hk hh.1.2 hs.1.2 (by omega) (by omega)]
   unfold dW
   rw [hh.right,hs.right];rfl
  have key: ∀ (g:List Cl),RFa g→ck i q h x=bU h g→(fi k h g fun r10=>ab (!decide (r10.2=0)) (ret ([],r10.2)) (mn k ret l i q m r10.1 ((p++[x]).length:Int)))=ret (aR (ck i q) h (x::r)):=by
   intro g hge hput
   rw [ej g hge,aR,hput]
   by_cases h1:(bU h g).2=0
   ·rw [decide_eq_true h1,Bool.not_true,ad,if_pos h1]
    exact ih (p++[x]) m _ e4 hm' (sr hh hge h1)
   ·rw [decide_eq_false h1,Bool.not_false,ae,if_neg h1]
  have bad: ∀ (e:Int),e≠0→ck i q h x=([],e)→ret ([],e)=ret (aR (ck i q) h (x::r)):=by
   intro e he hput
   rw [aR,hput,if_neg he]
  simp only [mn,uV,e1,ae,e2,Option.bind_some,ah hk,yJ hk hx.1,yJ hk hx.2,gR hk hx.1,gR hk hx.2,ac1 hk hq.2 (show q.length<1073741824 by have:=hq.len;omega),ac2 hk hq.2 hq.lt,a7,e3]
  cases hp:bF x.pos i with
  |true=>
   rw [ae,Xz hxc hp,ad]
   by_cases h1:(eo q).2=0
   ·have ho:=xF h1 hq.2
    rw [decide_eq_true h1,ae,em _ ho]
    by_cases h2:(ei [bO i x] (eo q).1).2=0
    ·rw [decide_eq_true h2,ae]
     exact key _ (s8 hg.1.2 ho.1.2 h2) (by unfold ck dZ;simp only [hp,h1,h2,if_true])
    ·rw [decide_eq_false h2,ad,Bool.not_false,ae]
     exact bad _ h2 (by unfold ck dZ;simp only [hp,h1,h2,if_true,if_false])
   ·rw [decide_eq_false h1,ad,ad,Bool.not_false,ae]
    exact bad _ h1 (by unfold ck dZ;simp only [hp,h1,if_true,if_false])
  |false=>
   rw [ad]
   cases hn:bF x.neg i with
   |true=>
    rw [ae]
    by_cases h1:(fE q).2=0
    ·have ho:=Ct h1 hq.2
     rw [decide_eq_true h1,ae,em _ ho]
     by_cases h2:(ei [bO i x] (fE q).1).2=0
     ·rw [decide_eq_true h2,ae]
      exact key _ (s8 hg.1.2 ho.1.2 h2) (by unfold ck dZ;simp only [hp,hn,h1,h2,if_true,if_false,Bool.false_eq_true])
     ·rw [decide_eq_false h2,ad,Bool.not_false,ae]
      exact bad _ h2 (by unfold ck dZ;simp only [hp,hn,h1,h2,if_true,if_false,Bool.false_eq_true])
    ·rw [decide_eq_false h1,ad,ad,Bool.not_false,ae]
     exact bad _ h1 (by unfold ck dZ;simp only [hp,hn,h1,if_true,if_false,Bool.false_eq_true])
   |false=>
    rw [ad,em _ (yy mO (by decide)),aan hxc]
    rw [decide_eq_true rfl,ae]
    exact key [bO i x] hg (by unfold ck;simp only [hp,hn,if_true,if_false,Bool.false_eq_true])
theorem ac3 (hk:Fu k) {f r:List Cl} {i:Int} (hf:am f) (hr:am r) (h1:f.length<2147483648) (h2:r.length<2147483648) (ret:List Cl×Int→Option S):wm k f i r ret=ret (gN f i r):=by
 simp only [wm,EU,ah hk,jN hk hf h1,f0 hk hr h2,aK]
 unfold gN kl
 cases ha:bt f with
 |false=>rw [Bool.not_false,ae];rfl
 |true=>
  rw [Bool.not_true,ad]
  by_cases h3:i<0
  ·rw [if_pos h3,decide_eq_false (by omega),Bool.and_false,if_neg (by decide)]
  ·by_cases h4:i≥24
   ·rw [if_neg h3,if_pos h4,decide_eq_false (by omega),Bool.and_false,if_neg (by decide)]
   ·rw [if_neg h3,if_neg h4,decide_eq_true (by omega)]
    cases hb:be r with
    |false=>rw [Bool.not_false,ae];rfl
    |true=>
     rw [Bool.not_true,ad]
     exact Zr hk ret ((fH hr).1 hb) hf ((fZ hf).1 ha).2 h1 f [] k [] rfl (by have:4294967296≤k:=hk;omega) Dj
end Go.Proofs.YtapmagaejigpnaaGreatDoor
namespace Go.Proofs.YtapmagaejigpnaaGreatDoor
open Go PI
set_option linter.unusedVariables false
set_option linter.unusedSimpArgs false
mutual
def ay:Tm→Nat
 | .mk _ _ _ _ ks sys=>1+aI ks+aX sys
def aI:List Tm→Nat
 |[]=>0
 |t::l=>ay t+aI l
def aX:List (Br Tm)→Nat
 |[]=>0
 |b::l=>lf b+aX l
def lf:Br Tm→Nat
 | .mk _ ks=>aI ks
end
mutual
def au:Tm→Nat
 | .mk _ _ _ _ ks sys=>max (bk ks) (bN sys)+1
def bk:List Tm→Nat
 |[]=>0
 |t::l=>max (au t) (bk l)
def bN:List (Br Tm)→Nat
 |[]=>0
 |b::l=>max (rQ b) (bN l)
def rQ:Br Tm→Nat
 | .mk _ ks=>bk ks
end
theorem mV (b:Br Tm):lf b=aI b.kids:=by cases b;rw [lf]
theorem nH (b:Br Tm):rQ b=bk b.kids:=by cases b;rw [rQ]
theorem Nj (t:Tm):1≤ay t:=by cases t;rw [ay];omega
theorem yK: ∀ {l:List Tm} {x:Tm},x∈l→ay x≤aI l:=by
 intro l
 induction l with
 |nil=>intro x h;cases h
 |cons t l ih=>
  intro x h
  rw [aI]
  rcases List.mem_cons.1 h with rfl|h
  ·omega
  ·have:=ih h;omega
theorem Ni: ∀ {l:List (Br Tm)} {b:Br Tm},b∈l→aI b.kids≤aX l:=by
 intro l
 induction l with
 |nil=>intro x h;cases h
 |cons t l ih=>
  intro x h
  rw [aX,mV]
  rcases List.mem_cons.1 h with rfl|h
  ·omega
  ·have:=ih h;omega
theorem Gb: ∀ {l:List Tm} {x:Tm},x∈l→au x≤bk l:=by
 intro l
 induction l with
 |nil=>intro x h;cases h
 |cons t l ih=>
  intro x h
  rw [bk]
  rcases List.mem_cons.1 h with rfl|h
  ·omega
  ·have:=ih h;omega
theorem UY: ∀ {l:List (Br Tm)} {b:Br Tm},b∈l→bk b.kids≤bN l:=by
 intro l
 induction l with
 |nil=>intro x h;cases h
 |cons t l ih=>
  intro x h
  rw [bN,nH]
  rcases List.mem_cons.1 h with rfl|h
  ·omega
  ·have:=ih h;omega
theorem lk {Q:Tm→Prop} (h: ∀kd n nm r ks sys,(∀x∈ks,Q x)→(∀b∈sys,∀x∈b.kids,Q x)→Q (.mk kd n nm r ks sys)) (t:Tm):Q t:=by
 have: ∀m t,ay t≤m→Q t:=by
  intro m
  induction m with
  |zero=>intro t ht;have:=Nj t;omega
  |succ m ih=>
   intro t ht
   cases t with
   |mk kd n nm r ks sys=>
    rw [ay] at ht
    refine h _ _ _ _ _ _ (fun x hx=>ih x ?_) fun b hb x hx=>ih x ?_
    ·have:=yK hx;omega
    ·have:=Ni hb;have:=yK hx;omega
 exact this _ t (Nat.le_refl _)
def kidsT:List Int:=[-1,0,0,0,2,1,2,2,2,1,1,3,1,3,2,2,1,1,1,0,0,0,4,1,0,0,1,5,2]
def ef (kd:Int):Int:=if kd<0∨kd>28 then-1 else kidsT.getD kd.toNat 0
def dE (kd i:Int):Int:=if (i=1∧(kd=4∨kd=7))∨(i=0∧(kd=5∨kd=22∨kd=27)) then 1 else 0
def bK (kd i:Int):Int:=if i=0∧(kd=11∨kd=12∨kd=14) then 1 else 0
def b9 (kd:Int):Int:=if kd=16 then 2 else if kd=15∨kd=17∨kd=18 then 1 else 0
def av (kd:Int):Int:=if kd=15 then 1 else 0
theorem vn (kd i:Int):0≤dE kd i∧dE kd i≤1:=by unfold dE;split<;>omega
theorem gi (kd i:Int):0≤bK kd i∧bK kd i≤1:=by unfold bK;split<;>omega
theorem dY (kd:Int):0≤av kd∧av kd≤1:=by unfold av;split<;>omega
def dX (c:UInt8):Bool:=(decide (97≤c.toNat)&&decide (c.toNat≤122))||(decide (65≤c.toNat)&&decide (c.toNat≤90))||decide (c.toNat=95)
def ig (c:UInt8):Bool:=decide (48≤c.toNat)&&decide (c.toNat≤57)
def jC:List UInt8→Bool
 |[]=>false
 |c::l=>dX c&&l.all fun d=>dX d||ig d
def cX (kd dims:Int) (b:Br Tm):Bool:=decide ((b.kids.length:Int)=b9 kd)&&(bt b.face&&cA b.face dims)
def ep (vars dims:Int):Tm→Bool
 | .mk kd n nm r ks sys=>
  (decide (ef kd=ks.length)&&(decide (kd=1∨n=0)&&(decide (kd=2∨nm.size=0)&&decide (b9 kd=0→sys.length=0))))&&
  (if kd=1 then decide (r.length=0)&&(decide (0≤n)&&decide (vars<0∨n<vars))
   else if kd=2 then decide (r.length=0)&&jC nm.data.toList
   else if kd=13∨kd=21∨kd=26 then be r&&cA r dims
   else if kd=14 then bt r&&cA r dims
   else sys.all (cX kd dims)&&decide (r.length=0))
def dp (vars v:Int):Int:=if vars<0 then vars else vars+v
mutual
def bq (bd:Bool) (vars dims:Int):Tm→Bool
 | .mk kd n nm r ks sys=> !(bd&&decide (dims>24))&&(ep vars dims (.mk kd n nm r ks sys)&&(bZ bd vars dims kd 0 ks&&cR bd vars dims kd sys))
def bZ (bd:Bool) (vars dims kd:Int) (i:Nat):List Tm→Bool
 |[]=>true
 |t::l=>bq bd (dp vars (dE kd i)) (dims+bK kd i) t&&bZ bd vars dims kd (i+1) l
def cR (bd:Bool) (vars dims kd:Int):List (Br Tm)→Bool
 |[]=>true
 |b::l=>pX bd vars dims kd b&&cR bd vars dims kd l
def pX (bd:Bool) (vars dims kd:Int):Br Tm→Bool
 | .mk _ ks=>dr bd vars dims kd ks
def dr (bd:Bool) (vars dims kd:Int):List Tm→Bool
 |[]=>true
 |t::l=>bq bd vars (dims+av kd) t&&dr bd vars dims kd l
end
def cx (t:Tm):Int:=if au t>200 then 62 else if ay t>20000 then 221 else if bq false (-1) 24 t then 0 else 100
mutual
def OkT:Tm→Prop
 | .mk kd n nm r ks sys=>(aE kd∧aE n∧nm.size<1073741824∧am r∧r.length<1073741824∧ks.length<1073741824∧sys.length<1073741824)∧ce ks∧bY sys
def ce:List Tm→Prop
 |[]=>True
 |t::l=>OkT t∧ce l
def bY:List (Br Tm)→Prop
 |[]=>True
 |b::l=>pW b∧bY l
def pW:Br Tm→Prop
 | .mk f ks=>(am f∧f.length<1073741824∧ks.length<1073741824)∧ce ks
end
theorem okK_iff: ∀ {l:List Tm},ce l↔ ∀t∈l,OkT t:=by
 intro l
 induction l with
 |nil=>rw [ce];simp
 |cons t l ih=>rw [ce,ih];simp
theorem mF {b:Br Tm}:pW b↔(am b.face∧b.face.length<1073741824∧b.kids.length<1073741824)∧ ∀t∈b.kids,OkT t:=by
 cases b;rw [pW,okK_iff]
theorem okS_iff: ∀ {l:List (Br Tm)},bY l↔ ∀b∈l,(am b.face∧b.face.length<1073741824∧b.kids.length<1073741824)∧ ∀t∈b.kids,OkT t:=by
 intro l
 induction l with
 |nil=>rw [bY];simp
 |cons t l ih=>rw [bY,ih,mF];simp
theorem OkT.node {kd n nm r ks sys} (h:OkT (.mk kd n nm r ks sys)):aE kd∧aE n∧nm.size<1073741824∧am r∧r.length<1073741824∧ks.length<1073741824∧sys.length<1073741824:=by rw [OkT] at h;exact h.1
theorem OkT.kid {kd n nm r ks sys x} (h:OkT (.mk kd n nm r ks sys)) (hx:x∈ks):OkT x:=by rw [OkT] at h;exact okK_iff.1 h.2.1 x hx
theorem OkT.br {kd n nm r ks sys b} (h:OkT (.mk kd n nm r ks sys)) (hb:b∈sys):(am b.face∧b.face.length<1073741824∧b.kids.length<1073741824)∧ ∀t∈b.kids,OkT t:=by rw [OkT] at h;exact okS_iff.1 h.2.2 b hb
theorem Uj {bd:Bool} {vars dims kd:Int}: ∀ {l:List Tm},dr bd vars dims kd l=l.all (bq bd vars (dims+av kd)):=by
 intro l
 induction l with
 |nil=>rw [dr];rfl
 |cons t l ih=>rw [dr,ih];rfl
theorem Aa {bd:Bool} {vars dims kd:Int}: ∀ {l:List (Br Tm)},cR bd vars dims kd l=l.all fun b=>b.kids.all (bq bd vars (dims+av kd)):=by
 intro l
 induction l with
 |nil=>rw [cR];rfl
 |cons b l ih=>cases b;rw [cR,ih,pX,Uj];rfl
end Go.Proofs.YtapmagaejigpnaaGreatDoor
namespace Go.Proofs.YtapmagaejigpnaaGreatDoor
open Go PI
set_option linter.unusedVariables false
set_option linter.unusedSimpArgs false
set_option maxRecDepth 100000
section
variable {H:Type} {enc:TypeId×Value→H} {w:World} {base:Nat} {spare:Nat→Bool} {held:Bool} {o:Obj} {N:aF} {g:Gh UU}
noncomputable abbrev iH (enc:TypeId×Value→H) (w:World) (base:Nat) (spare:Nat→Bool) (held:Bool):=DataW.trod enc Tryz.prog w base spare held
def mZ (o:Obj) (w:World) (N:aF) (g:Gh UU) (e:ET) (x:EL e) (cs:List Value):Prop:= ∀ (k:Nat) (p:PU),(cu e x)[k]? =some p→ ∃v,cs[k]? =some v∧Rep (LL o) w N g v p
theorem Al {l:List (DataW H)}:l.length≤Rows.uptoBulkAll l:=by
 induction l with
 |nil=>simp [Rows.uptoBulkAll]
 |cons x r ih=>
  have:1≤Rows.uptoBulk x:=by
   cases x with
   |lit l=>cases l<;>simp [Rows.uptoBulk]
   |_=>simp [Rows.uptoBulk]
  simp only [Rows.uptoBulkAll,List.length_cons];omega
theorem build {α β:Type} {R:Nat→β→α→Prop}: ∀ (elems:List β) (s:Nat),(∀i d,elems[i]? =some d→ ∃x,R (s+i) d x)→ ∃l:List α,l.length=elems.length∧ ∀i d,elems[i]? =some d→ ∃x,l[i]? =some x∧R (s+i) d x:=by
 intro elems
 induction elems with
 |nil=>intro s h;exact ⟨[],rfl,fun i d h=>by simp at h⟩
 |cons d r ih=>
  intro s h
  obtain ⟨x,hx⟩:=h 0 d rfl
  obtain ⟨l,hl,hr⟩:=ih (s+1) fun i d' hd=>by
   obtain ⟨x,hx⟩:=h (i+1) d' (by simpa using hd)
   exact ⟨x,by rw [show s+1+i=s+(i+1) by omega];exact hx⟩
  refine ⟨x::l,by simp [hl],fun i d' hd=> ?_⟩
  cases i with
  |zero=>injection hd with hd;subst hd;exact ⟨x,rfl,hx⟩
  |succ i=>
   obtain ⟨y,hy,hr⟩:=hr i d' (by simpa using hd)
   exact ⟨y,by simpa using hy,by rw [show s+(i+1)=s+1+i by omega];exact hr⟩
theorem Cw (hN: ∀b o,¬N b o) {e:ET} {tS tE:TypeId} (ht:Tryz.prog.underlying tS=some (.slice tE)) (hc:Tryz.prog.cellsOf tE=nP e) {Q:EL e→DataW H→Prop} {n:Nat} {cs:List Value} {d:DataW H} {pl:List MemPlace}
  (hel: ∀ (cs:List Value) (d:DataW H) (pl:List MemPlace),iH enc w base spare held n tE cs=some (d,pl)→ ∃x:EL e,mZ o w N g e x cs∧Q x d) (h:iH enc w base spare held (n+1) tS cs=some (d,pl)):
  ∃ (v:Value) (l:List (EL e)) (ds:List (DataW H)),cs=[v]∧Rep (LL o) w N g v (.sl (U:=UU) e l .none)∧l.length=ds.length∧(∀ (i:Nat) (x:EL e) (y:DataW H),l[i]? =some x→ds[i]? =some y→Q x y)∧Rows.uptoBulkAll ds+1≤Rows.uptoBulk d:=by
 rcases DataW.trod_slice ht h with ⟨rfl,hx⟩|⟨a,len,cap,elems,rest,m,hm,rfl,hx,hb,hl,hcp,hlen,hee,_,_⟩
 ·injection hx with hx _
  subst hx
  exact ⟨_,[],[],rfl,Rep.sl (X:=LL o) (N:=N) (g:=g) none 0 0 e (show List (EL e) from []) .none (fun _ _=>undef) rfl (Nat.le_refl _) trivial (fun j x hx=>by cases hx) (fun j x hx=>by cases hx),rfl,fun i x y h=>by simp at h,by simp [Rows.uptoBulkAll,Rows.uptoBulk]⟩
 ·obtain rfl:n=m:=by omega
  injection hx with hx _
  subst hx
  obtain ⟨l,hll,hlr⟩:=build (R:=fun i (y:DataW H×List MemPlace) (x:EL e)=> ∃cs',w.cells? base (a.add (i*Tryz.prog.cellsOf tE)) (Tryz.prog.cellsOf tE)=some cs'∧mZ o w N g e x cs'∧Q x y.1) elems 0 fun i y hy=>by
   have hi:i<len:=by rw [←hlen];exact (List.getElem?_eq_some_iff.1 hy).1
   have:=hee i hi
   rw [hy] at this
   obtain ⟨cs',h1,h2⟩:=Option.bind_eq_some_iff.1 this
   obtain ⟨x,hx1,hx2⟩:=hel cs' y.1 y.2 h2
   exact ⟨x,cs',by simpa using h1,hx1,hx2⟩
  have hget: ∀ (j:Nat) (x:EL e),l[j]? =some x→ ∃ (y:DataW H×List MemPlace) (cs':List Value),elems[j]? =some y∧w.cells? base (a.add (j*Tryz.prog.cellsOf tE)) (Tryz.prog.cellsOf tE)=some cs'∧mZ o w N g e x cs'∧Q x y.1:=fun j x hx=>by
   have hj:j<elems.length:=by rw [←hll];exact (List.getElem?_eq_some_iff.1 hx).1
   obtain ⟨x',hx',cs',h1,h2,h3⟩:=hlr j _ (List.getElem?_eq_getElem hj)
   rw [hx] at hx'
   injection hx' with hx'
   subst hx'
   exact ⟨_,cs',List.getElem?_eq_getElem hj,by simpa using h1,h2,h3⟩
  have hcell: ∀ (j:Nat) (x:EL e),l[j]? =some x→ ∀ (k:Nat) (p:PU),(cu e x)[k]? =some p→ ∃v,w.cell? (a.add (j*(LL o).esize e+k))=some v∧Rep (LL o) w N g v p:=fun j x hx k p hp=>by
   obtain ⟨y,cs',_,h1,h2,_⟩:=hget j x hx
   obtain ⟨v,hv,hr⟩:=h2 k p hp
   obtain ⟨_,hl',hcs⟩:=World.cells?_some h1
   have hk:k<Tryz.prog.cellsOf tE:=by rw [←hl'];exact (List.getElem?_eq_some_iff.1 hv).1
   have:=hcs k hk
   rw [hv,Go.Deep.add_add,hc] at this
   exact ⟨v,this,hr⟩
  refine ⟨_,l,elems.map (·.1),rfl,Rep.sl (X:=LL o) (some a) len cap e l .none (fun j k=>(w.cell? (a.add (j*(LL o).esize e+k))).getD undef) (by rw [←hlen];exact hll) hl trivial (fun j x hx k p hp=> ?_) (fun j x hx k p hp=> ?_),by simpa using hll,fun i x y hx hy=> ?_,by simp [Rows.uptoBulk]⟩
  ·obtain ⟨v,hv,_⟩:=hcell j x hx k p hp
   exact ⟨a,rfl,by simp [hv],hN _ _⟩
  ·obtain ⟨v,hv,hr⟩:=hcell j x hx k p hp
   simp only [hv];exact hr
  ·obtain ⟨y',cs',h1,_,_,h3⟩:=hget i x hx
   have:y=y'.1:=by
    rw [List.getElem?_map,h1] at hy
    injection hy with hy;exact hy.symm
   subst this
   exact h3
theorem JA {n:Nat} {cs:List Value} {d:DataW H} {pl:List MemPlace} (h:iH enc w base spare held n 3 cs=some (d,pl)): ∃z,cs=[.int .i64 z]∧aE z:=by
 obtain ⟨z,rfl,_,hw⟩:=DataW.trod_int Tryz.underlying3 h
 refine ⟨z,rfl, ?_⟩
 simp [Lit.wf,IntKind.has] at hw
 have h1:IntKind.i64.min= -9223372036854775808:=rfl
 have h2:IntKind.i64.max=9223372036854775807:=rfl
 unfold aE
 omega
theorem JB {n:Nat} {cs:List Value} {d:DataW H} {pl:List MemPlace} (h:iH enc w base spare held n 55 cs=some (d,pl)): ∃z,cs=[.int .u32 z]∧U32 z:=by
 obtain ⟨z,rfl,_,hw⟩:=DataW.trod_int Tryz.underlying55 h
 refine ⟨z,rfl, ?_⟩
 simp [Lit.wf,IntKind.has] at hw
 have h1:IntKind.u32.min=0:=rfl
 have h2:IntKind.u32.max=4294967295:=rfl
 unfold U32
 omega
def QC (c:Cl) (d:DataW H):Prop:=aL c
def QT (t:Tm) (d:DataW H):Prop:=ay t≤Rows.uptoBulk d∧(Rows.uptoBulk d<1073741824→OkT t)
def QB (b:Br Tm) (d:DataW H):Prop:=lf b≤Rows.uptoBulk d∧(Rows.uptoBulk d<1073741824→(am b.face∧b.face.length<1073741824∧b.kids.length<1073741824)∧ ∀t∈b.kids,OkT t)
theorem aa5 {n:Nat} {cs:List Value} {d:DataW H} {pl:List MemPlace} (h:iH enc w base spare held n 61 cs=some (d,pl)): ∃x:EL ET.C,mZ o w N g ET.C x cs∧QC (show Cl from x) d:=by
 obtain ⟨xs,m,rfl,_,hl,hlen,hf⟩:=DataW.trod_struct Tryz.underlying61 h
 have hl2:cs.length=2:=hl.trans (by kernel_rfl)
 match cs,hl2,xs,hlen with
 |[a,b],_,[y0,y1],_=>
 have h0:=hf 0 _ rfl
 have h1:=hf 1 _ rfl
 have c55:Tryz.prog.cellsOf 55=1:=by kernel_rfl
 simp [c55] at h0 h1
 obtain ⟨z0,e0,k0⟩:=JB h0
 obtain ⟨z1,e1,k1⟩:=JB h1
 obtain rfl:a= .int .u32 z0:=by simpa using e0
 obtain rfl:b= .int .u32 z1:=by simpa using e1
 refine ⟨(⟨z0,z1⟩:Cl),fun k p hp=> ?_,⟨k0,k1⟩⟩
 match k,hp with
 |0,hp=>cases hp;exact ⟨_,rfl,.int _ _⟩
 |1,hp=>cases hp;exact ⟨_,rfl,.int _ _⟩
 |k+2,hp=>simp [cu] at hp
theorem adO {l:List Tm} {ds:List (DataW H)} (hl:l.length=ds.length) (h: ∀ (i:Nat) (x:Tm) (y:DataW H),l[i]? =some x→ds[i]? =some y→QT x y):aI l≤Rows.uptoBulkAll ds∧(Rows.uptoBulkAll ds<1073741824→ ∀t∈l,OkT t):=by
 induction l generalizing ds with
 |nil=>rw [aI];exact ⟨Nat.zero_le _,fun _ t ht=>by cases ht⟩
 |cons t l ih=>
  cases ds with
  |nil=>cases hl
  |cons d ds=>
   obtain ⟨h1,h2⟩:=h 0 t d rfl rfl
   obtain ⟨i1,i2⟩:=ih (ds:=ds) (by simpa using hl) fun i x y hx hy=>h (i+1) x y (by simpa using hx) (by simpa using hy)
   rw [aI,Rows.uptoBulkAll]
   refine ⟨by omega,fun hb u hu=> ?_⟩
   rcases List.mem_cons.1 hu with rfl|hu
   ·exact h2 (by omega)
   ·exact i2 (by omega) u hu
theorem adP {l:List (Br Tm)} {ds:List (DataW H)} (hl:l.length=ds.length) (h: ∀ (i:Nat) (x:Br Tm) (y:DataW H),l[i]? =some x→ds[i]? =some y→QB x y):aX l≤Rows.uptoBulkAll ds∧(Rows.uptoBulkAll ds<1073741824→bY l):=by
 induction l generalizing ds with
 |nil=>rw [aX,bY];exact ⟨Nat.zero_le _,fun _=>trivial⟩
 |cons t l ih=>
  cases ds with
  |nil=>cases hl
  |cons d ds=>
   obtain ⟨h1,h2⟩:=h 0 t d rfl rfl
   obtain ⟨i1,i2⟩:=ih (ds:=ds) (by simpa using hl) fun i x y hx hy=>h (i+1) x y (by simpa using hx) (by simpa using hy)
   rw [aX,Rows.uptoBulkAll,bY,mF]
   exact ⟨by omega,fun hb=>⟨h2 (by omega),i2 (by omega)⟩⟩
theorem Cv (hN: ∀b o,¬N b o) {n:Nat} {cs:List Value} {d:DataW H} {pl:List MemPlace} (h:iH enc w base spare held n 22 cs=some (d,pl)):
  ∃ (v:Value) (l:List Cl),cs=[v]∧Rep (LL o) w N g v (cr l .none)∧am l∧l.length+1≤Rows.uptoBulk d:=by
 cases n with
 |zero=>cases h
 |succ n=>
  obtain ⟨v,l,ds,rfl,hr,hl,hq,hb⟩:=Cw (e:=ET.C) (Q:=fun x d=>QC (show Cl from x) d) hN Tryz.underlying22 (by kernel_rfl) (fun cs d pl h=>aa5 h) h
  refine ⟨v,l,rfl,hr,fun c hc=> ?_, ?_⟩
  ·obtain ⟨i,hi⟩:=List.getElem?_of_mem hc
   have hlt:i<ds.length:=by rw [←hl];exact (List.getElem?_eq_some_iff.1 hi).1
   exact hq i c _ hi (List.getElem?_eq_getElem hlt)
  ·have:=Al (l:=ds)
   have hl': @List.length Cl l=ds.length:=hl
   omega
theorem aa4 (hN: ∀b o,¬N b o): ∀ (n:Nat),
  (∀ (cs:List Value) (d:DataW H) (pl:List MemPlace),iH enc w base spare held n 26 cs=some (d,pl)→ ∃x:EL ET.T,mZ o w N g ET.T x cs∧QT (show Tm from x) d)∧
  (∀ (cs:List Value) (d:DataW H) (pl:List MemPlace),iH enc w base spare held n 63 cs=some (d,pl)→ ∃x:EL ET.B,mZ o w N g ET.B x cs∧QB (show Br Tm from x) d)∧
  (∀ (cs:List Value) (d:DataW H) (pl:List MemPlace),iH enc w base spare held n 23 cs=some (d,pl)→ ∃ (v:Value) (l:List Tm),cs=[v]∧Rep (LL o) w N g v (f7 l .none)∧aI l+1≤Rows.uptoBulk d∧l.length+1≤Rows.uptoBulk d∧(Rows.uptoBulk d<1073741824→ ∀t∈l,OkT t))∧
  (∀ (cs:List Value) (d:DataW H) (pl:List MemPlace),iH enc w base spare held n 24 cs=some (d,pl)→ ∃ (v:Value) (l:List (Br Tm)),cs=[v]∧Rep (LL o) w N g v (gS l .none)∧aX l+1≤Rows.uptoBulk d∧l.length+1≤Rows.uptoBulk d∧(Rows.uptoBulk d<1073741824→bY l)):=by
 intro n
 induction n with
 |zero=>exact ⟨fun cs d pl h=>(by cases h),fun cs d pl h=>(by cases h),fun cs d pl h=>(by cases h),fun cs d pl h=>(by cases h)⟩
 |succ n ih=>
 obtain ⟨iT,iB,iK,iS⟩:=ih
 have c3:Tryz.prog.cellsOf 3=1:=by kernel_rfl
 have c9:Tryz.prog.cellsOf 9=1:=by kernel_rfl
 have c22:Tryz.prog.cellsOf 22=1:=by kernel_rfl
 have c23:Tryz.prog.cellsOf 23=1:=by kernel_rfl
 have c24:Tryz.prog.cellsOf 24=1:=by kernel_rfl
 refine ⟨fun cs d pl h=> ?_,fun cs d pl h=> ?_,fun cs d pl h=> ?_,fun cs d pl h=> ?_⟩
 ·obtain ⟨xs,m,hm,hx,hl,hlen,hf⟩:=DataW.trod_struct Tryz.underlying26 h
  obtain rfl:n=m:=by omega
  injection hx with hx _
  subst hx
  have hl6:cs.length=6:=hl.trans (by kernel_rfl)
  match cs,hl6,xs,hlen with
  |[a0,a1,a2,a3,a4,a5],_,[y0,y1,y2,y3,y4,y5],_=>
  have h0:=hf 0 _ rfl
  have h1:=hf 1 _ rfl
  have h2:=hf 2 _ rfl
  have h3:=hf 3 _ rfl
  have h4:=hf 4 _ rfl
  have h5:=hf 5 _ rfl
  simp [c3,c9,c22,c23,c24] at h0 h1 h2 h3 h4 h5
  obtain ⟨z0,e0,k0⟩:=JA h0
  obtain ⟨z1,e1,k1⟩:=JA h1
  obtain ⟨s,e2,k2,_⟩:=DataW.trod_string Tryz.underlying9 h2
  obtain ⟨v3,l3,e3,r3,k3,m3⟩:=Cv (o:=o) (g:=g) hN h3
  obtain ⟨v4,l4,e4,r4,k4,m4,q4⟩:=iK _ _ _ h4
  obtain ⟨v5,l5,e5,r5,k5,m5,q5⟩:=iS _ _ _ h5
  obtain rfl:a0= .int .i64 z0:=by simpa using e0
  obtain rfl:a1= .int .i64 z1:=by simpa using e1
  obtain rfl:a2= .string s:=by simpa using e2
  obtain rfl:a3=v3:=by simpa using e3
  obtain rfl:a4=v4:=by simpa using e4
  obtain rfl:a5=v5:=by simpa using e5
  have hs:s.size<Rows.uptoBulk y2.1:=by
   rw [k2]
   simp [Rows.uptoBulk]
  refine ⟨Tm.mk z0 z1 s l3 l4 l5,fun k p hp=> ?_, ?_,fun hb=> ?_⟩
  ·match k,hp with
   |0,hp=>cases hp;exact ⟨_,rfl,.int _ _⟩
   |1,hp=>cases hp;exact ⟨_,rfl,.int _ _⟩
   |2,hp=>cases hp;exact ⟨_,rfl,.str _⟩
   |3,hp=>cases hp;exact ⟨_,rfl,r3⟩
   |4,hp=>cases hp;exact ⟨_,rfl,r4⟩
   |5,hp=>cases hp;exact ⟨_,rfl,r5⟩
   |k+6,hp=>simp [cu] at hp
  ·show ay _≤_
   rw [ay]
   simp only [List.map_cons,List.map_nil,Rows.uptoBulk,Rows.uptoBulkAll]
   omega
  ·simp only [List.map_cons,List.map_nil,Rows.uptoBulk,Rows.uptoBulkAll] at hb
   show OkT _
   rw [OkT,okK_iff]
   exact ⟨⟨k0,k1,by omega,k3,by omega,by omega,by omega⟩,q4 (by omega),q5 (by omega)⟩
 ·obtain ⟨xs,m,hm,hx,hl,hlen,hf⟩:=DataW.trod_struct Tryz.underlying63 h
  obtain rfl:n=m:=by omega
  injection hx with hx _
  subst hx
  have hl2:cs.length=2:=hl.trans (by kernel_rfl)
  match cs,hl2,xs,hlen with
  |[a0,a1],_,[y0,y1],_=>
  have h0:=hf 0 _ rfl
  have h1:=hf 1 _ rfl
  simp [c22,c23] at h0 h1
  obtain ⟨v3,l3,e3,r3,k3,m3⟩:=Cv (o:=o) (g:=g) hN h0
  obtain ⟨v4,l4,e4,r4,k4,m4,q4⟩:=iK _ _ _ h1
  obtain rfl:a0=v3:=by simpa using e3
  obtain rfl:a1=v4:=by simpa using e4
  refine ⟨Br.mk l3 l4,fun k p hp=> ?_, ?_,fun hb=> ?_⟩
  ·match k,hp with
   |0,hp=>cases hp;exact ⟨_,rfl,r3⟩
   |1,hp=>cases hp;exact ⟨_,rfl,r4⟩
   |k+2,hp=>simp [cu] at hp
  ·show lf _≤_
   rw [lf]
   simp only [List.map_cons,List.map_nil,Rows.uptoBulk,Rows.uptoBulkAll]
   omega
  ·simp only [List.map_cons,List.map_nil,Rows.uptoBulk,Rows.uptoBulkAll] at hb
   exact ⟨⟨k3,by show l3.length<_;omega,by show l4.length<_;omega⟩,q4 (by omega)⟩
 ·obtain ⟨v,l,ds,rfl,hr,hl,hq,hb⟩:=Cw (e:=ET.T) (Q:=fun x d=>QT (show Tm from x) d) hN Tryz.underlying23 (by kernel_rfl) iT h
  obtain ⟨s1,s2⟩:=adO (l:=l) hl hq
  have:=Al (l:=ds)
  have hl': @List.length Tm l=ds.length:=hl
  exact ⟨v,l,rfl,hr,by omega,by omega,fun hd=>s2 (by omega)⟩
 ·obtain ⟨v,l,ds,rfl,hr,hl,hq,hb⟩:=Cw (e:=ET.B) (Q:=fun x d=>QB (show Br Tm from x) d) hN Tryz.underlying24 (by kernel_rfl) iB h
  obtain ⟨s1,s2⟩:=adP (l:=l) hl hq
  have:=Al (l:=ds)
  have hl': @List.length (Br Tm) l=ds.length:=hl
  exact ⟨v,l,rfl,hr,by omega,by omega,fun hd=>s2 (by omega)⟩
end
end Go.Proofs.YtapmagaejigpnaaGreatDoor
namespace Go.Proofs
open Go.Shelf
def Tryz.sortCl_ren:Go.Shelf.Ren:=⟨fun|6=>151|15=>195|14=>194|28=>221|29=>222|20=>213|21=>214|22=>215|23=>216|24=>217|25=>218|26=>219|27=>220|46=>229|47=>230|48=>231|49=>232|50=>233|57=>242|n=>n,fun|22=>22|24=>61|25=>152|3=>3|39=>57|0=>0|53=>55|55=>168|4=>4|46=>184|45=>183|50=>188|5=>5|9=>9|66=>193|70=>197|76=>202|77=>124|n=>n,fun|n=>n⟩
theorem Tryz.sortCl:Go.Proofs.SlLaysF0.n6 Tryz.prog Tryz.sortCl_ren:={
 mixed:=by kernel_rfl
 f6:=⟨Tryz.f151.name,by decide,Tryz.func151.trans (congrArg some (by kernel_rfl))⟩
 f14:=⟨Tryz.f194.name,by decide,Tryz.func194.trans (congrArg some (by kernel_rfl))⟩
 f15:=Tryz.func195.trans (congrArg some (by kernel_rfl))
 f20:=⟨Tryz.f213.name,by decide,Tryz.func213.trans (congrArg some (by kernel_rfl))⟩
 f21:=⟨Tryz.f214.name,by decide,Tryz.func214.trans (congrArg some (by kernel_rfl))⟩
 f22:=⟨Tryz.f215.name,by decide,Tryz.func215.trans (congrArg some (by kernel_rfl))⟩
 f23:=⟨Tryz.f216.name,by decide,Tryz.func216.trans (congrArg some (by kernel_rfl))⟩
 f24:=⟨Tryz.f217.name,by decide,Tryz.func217.trans (congrArg some (by kernel_rfl))⟩
 f25:=⟨Tryz.f218.name,by decide,Tryz.func218.trans (congrArg some (by kernel_rfl))⟩
 f26:=⟨Tryz.f219.name,by decide,Tryz.func219.trans (congrArg some (by kernel_rfl))⟩
 f27:=⟨Tryz.f220.name,by decide,Tryz.func220.trans (congrArg some (by kernel_rfl))⟩
 f28:=Tryz.func221.trans (congrArg some (by kernel_rfl))
 f29:=Tryz.func222.trans (congrArg some (by kernel_rfl))
 f46:=⟨Tryz.f229.name,by decide,Tryz.func229.trans (congrArg some (by kernel_rfl))⟩
 f47:=Tryz.func230.trans (congrArg some (by kernel_rfl))
 f48:=Tryz.func231.trans (congrArg some (by kernel_rfl))
 f49:=⟨Tryz.f232.name,by decide,Tryz.func232.trans (congrArg some (by kernel_rfl))⟩
 f50:=⟨Tryz.f233.name,by decide,Tryz.func233.trans (congrArg some (by kernel_rfl))⟩
 f57:=⟨Tryz.f242.name,by decide,Tryz.func242.trans (congrArg some (by kernel_rfl))⟩
 t0:=Tryz.underlying0
 a0:=Tryz.isAgg0
 z0:=Tryz.sizeOf0
 v0:=Tryz.zeroValue0
 t3:=Tryz.underlying3
 a3:=Tryz.isAgg3
 z3:=Tryz.sizeOf3
 v3:=Tryz.zeroValue3
 t4:=Tryz.underlying4
 a4:=Tryz.isAgg4
 z4:=Tryz.sizeOf4
 v4:=Tryz.zeroValue4
 t5:=Tryz.underlying5
 a5:=Tryz.isAgg5
 z5:=Tryz.sizeOf5
 v5:=Tryz.zeroValue5
 t9:=Tryz.underlying9
 a9:=Tryz.isAgg9
 z9:=Tryz.sizeOf9
 v9:=Tryz.zeroValue9
 t22:=Tryz.underlying22
 a22:=Tryz.isAgg22
 z22:=Tryz.sizeOf22
 v22:=Tryz.zeroValue22
 t25:=Tryz.underlying152
 a25:=Tryz.isAgg152
 z25:=Tryz.sizeOf152
 v25:=Tryz.zeroValue152
 t39:=Tryz.underlying57
 a39:=Tryz.isAgg57
 z39:=Tryz.sizeOf57
 v39:=Tryz.zeroValue57
 t45:=Tryz.underlying183
 a45:=Tryz.isAgg183
 z45:=Tryz.sizeOf183
 v45:=Tryz.zeroValue183
 t46:=Tryz.underlying184
 a46:=Tryz.isAgg184
 z46:=Tryz.sizeOf184
 v46:=Tryz.zeroValue184
 t50:=Tryz.underlying188
 a50:=Tryz.isAgg188
 z50:=Tryz.sizeOf188
 v50:=Tryz.zeroValue188
 t53:=Tryz.underlying55
 a53:=Tryz.isAgg55
 z53:=Tryz.sizeOf55
 v53:=Tryz.zeroValue55
 t55:=Tryz.underlying168
 a55:=Tryz.isAgg168
 z55:=Tryz.sizeOf168
 v55:=Tryz.zeroValue168
 t66:=Tryz.underlying193
 a66:=Tryz.isAgg193
 z66:=Tryz.sizeOf193
 v66:=Tryz.zeroValue193
 t70:=Tryz.underlying197
 a70:=Tryz.isAgg197
 z70:=Tryz.sizeOf197
 v70:=Tryz.zeroValue197
 t76:=Tryz.underlying202
 a76:=Tryz.isAgg202
 z76:=Tryz.sizeOf202
 v76:=Tryz.zeroValue202
 t77:=Tryz.underlying124
 a77:=Tryz.isAgg124
 z77:=Tryz.sizeOf124
 v77:=Tryz.zeroValue124}
end Go.Proofs
namespace Go.Proofs.YtapmagaejigpnaaGreatDoor
open Go PI
set_option linter.unusedVariables false
set_option maxRecDepth 100000
noncomputable section
def Xf:Nat:=224
def ae0:Nat:=234
def ae1:Nat:=243
def aeY:Nat:=244
def Xg:Nat:=114
def aeX:Nat:=151
def aeZ:Nat:=152
noncomputable def Dp {S:Type}:List PU→List (Box UU)→(Out UU→Option S)→Option S
 |[.int .u32 y0],[],κ=>te y0 fun r=>κ (.ret (lg r .none) [])
 |_,_,_=> .none
noncomputable def Dq {S:Type}:List PU→List (Box UU)→(Out UU→Option S)→Option S
 |[.sl .C y0 .none],[],κ=>o9 y0 fun r=>κ (.ret (cr r .none) [])
 |_,_,_=> .none
end
end Go.Proofs.YtapmagaejigpnaaGreatDoor
namespace Go.Proofs
open Go.Shelf Go.RowKit
set_option maxHeartbeats 1000000 in
theorem Tryz.tz32_core (x k idx:Nat) (w:World) (hx0:((x:Int)==0)=false)
  (key:bits BinOp.and IntKind.u32 (x:Int) (-(x:Int)%4294967296)*125613361%4294967296/134217728=(idx:Int))
  (hi:idx<32) (hk:k<32) (hcell:w.cell? ⟨0,idx,none⟩=some (.int .u8 k)):
  Calls Tryz.prog 244 #[.int .u32 x] w fun e w'=>e= .returned (.int .i64 k)∧w'=w:=by
 go_enter Tryz.func244,Tryz.ntmps244
 go_wp2_with (simp only [key])
 go_ret
 exact ⟨rfl,rfl⟩
theorem Tryz.tz32 (x:Nat) (hx:x<4294967296) (h0:x≠0) (w:World) (hT:TabAt 0 Lib.deBruijn32tab w):
  Calls Tryz.prog 244 #[.int .u32 x] w fun e w'=>e= .returned (.int .i64 (Lib.ctz 32 x))∧w'=w:=by
 obtain ⟨hlow,hk⟩:=Lib.lowest_bit 32 x h0 hx
 obtain ⟨hi,htab⟩:=Lib.deBruijn32_at _ hk
 have hcell:=hT _ hi
 rw [htab] at hcell
 exact Tryz.tz32_core x _ _ w (by simp;omega) (tz32_key x _ hx h0 hlow) hi hk hcell
end Go.Proofs
namespace Go.Proofs.YtapmagaejigpnaaGreatDoor
open Go Go.Shelf Go.RowKit
attribute [local go_sem] Oper.semAt_some
def ez (s:Nat):List Nat:=(List.range 24).filter s.testBit
theorem aeh (s:Nat) (h0:s≠0) (h:s<16777216):ez s=Lib.ctz 32 s::ez (s&&&(s-1))∧s&&&(s-1)<s:=by
 obtain ⟨m,hm,hk⟩:=Lib.ctzFrom_spec 32 s (by omega) (by omega)
 have e:Lib.ctz 32 s=Lib.ctzFrom 32 s:=by simp [Lib.ctz,h0]
 rw [e]
 generalize Lib.ctzFrom 32 s=t at hm hk
 have hs:s=2^(t+1)*m+2^t:=by
  rw [hm,Nat.mul_add,Nat.mul_one,Nat.pow_succ,←Nat.mul_assoc]
 have hp:0<2^t:=Nat.two_pow_pos t
 have hp2:2^(t+1)=2^t*2:=Nat.pow_succ 2 t
 have hs1:s-1=2^(t+1)*m+(2^t-1):=by omega
 have b1: ∀j,s.testBit j=if j<t+1 then decide (t=j) else m.testBit (j-(t+1)):=fun j=>by
  rw [hs,Nat.testBit_two_pow_mul_add _ (by omega),Nat.testBit_two_pow]
 have b2: ∀j,(s-1).testBit j=if j<t+1 then decide (j<t) else m.testBit (j-(t+1)):=fun j=>by
  rw [hs1,Nat.testBit_two_pow_mul_add _ (by omega),Nat.testBit_two_pow_sub_one]
 have b3: ∀j,(s&&&(s-1)).testBit j=if j<t+1 then false else m.testBit (j-(t+1)):=fun j=>by
  rw [Nat.testBit_and,b1,b2]
  by_cases hj:j<t+1
  ·rw [if_pos hj,if_pos hj,if_pos hj]
   by_cases ht:t=j
   ·rw [decide_eq_true ht,decide_eq_false (by omega)];rfl
   ·rw [decide_eq_false ht];rfl
  ·rw [if_neg hj,if_neg hj,if_neg hj,Bool.and_self]
 have b4:s&&&(s-1)=2^(t+1)*m:=by
  apply Nat.eq_of_testBit_eq
  intro j
  rw [b3]
  have:2^(t+1)*m=2^(t+1)*m+0:=rfl
  rw [this,Nat.testBit_two_pow_mul_add _ (by omega),Nat.zero_testBit]
 have ht:t<24:=by
  apply Nat.lt_of_not_le
  intro hle
  have:2^24≤2^t:=Nat.pow_le_pow_right (by decide) hle
  have h24:(2:Nat)^24=16777216:=by decide
  omega
 refine ⟨?_,by omega⟩
 unfold ez
 have hr:List.range 24=List.range t++(t::(List.range (23-t)).map (fun j=>t+1+j)):=by
  apply List.ext_getElem
  ·simp;omega
  ·intro i h1 h2
   simp only [List.getElem_range]
   by_cases hi:i<t
   ·rw [List.getElem_append_left (by simpa using hi)];simp
   ·rw [List.getElem_append_right (by simpa using hi)]
    simp only [List.length_range]
    by_cases he:i=t
    ·subst he;simp
    ·obtain ⟨d,rfl⟩: ∃d,i=t+1+d:=⟨i-t-1,by omega⟩
     simp only [show t+1+d-t=d+1 by omega,List.getElem_cons_succ,List.getElem_map,List.getElem_range]
 rw [hr,List.filter_append,List.filter_append]
 have f1:(List.range t).filter s.testBit=[]:=List.filter_eq_nil_iff.2 fun j hj=>by
  have:=List.mem_range.1 hj
  rw [b1,if_pos (by omega),decide_eq_false (by omega)];decide
 have f2:(List.range t).filter (s&&&(s-1)).testBit=[]:=List.filter_eq_nil_iff.2 fun j hj=>by
  have:=List.mem_range.1 hj
  rw [b3,if_pos (by omega)];decide
 rw [f1,f2,List.nil_append,List.nil_append,List.filter_cons_of_pos (by rw [b1,if_pos (by omega)];simp),List.filter_cons_of_neg (by rw [b3,if_pos (by omega)];decide)]
 congr 1
 apply List.filter_congr
 intro j hj
 obtain ⟨d,_,rfl⟩:=List.mem_map.1 hj
 rw [b1,b3,if_neg (by omega),if_neg (by omega)]
theorem aef:ez 0=[]:=List.filter_eq_nil_iff.2 fun j _=>by rw [Nat.zero_testBit];decide
theorem aeg (s:Nat):(ez s).length≤24:=by
 have:=List.length_filter_le s.testBit (List.range 24)
 simpa [ez] using this
theorem XE (s:Int) (w:World):Calls Tryz.prog 234 #[.int .u32 s] w fun e w'=>e= .returned (.func (.func 243) #[] #[.pointer (some ⟨w.heap.size,0,none⟩)])∧w'=w.alloc (.cells #[.int .u32 s] 55):=by
 go_enter Tryz.func234,Tryz.ntmps234
 go_wp2
 go_ret
 exact ⟨rfl,rfl⟩
def B5:Code:=(Code.region 3 #[{dst:=some 4,op:=Op.assign (Operand.tmp 7),type:=3,pos:= "mask.go:57",after:= #[],guard:=none}] false)
def B6:Code:=(Code.block 1 (Code.region 4 #[{dst:=some 8,op:=Op.load 142 (Operand.tmp 3),type:=142,pos:= "mask.go:58",after:= #[],guard:=none},{dst:=some 9,op:=Op.move (Operand.tmp 4),type:=3,pos:= "mask.go:58",after:= #[],guard:=none},{dst:=some 10,op:=Op.buildSlice 142 1 #[(0,Operand.tmp 9)],type:=142,pos:= "mask.go:58",after:= #[{on:=1,ground:=Ground.data}],guard:=none},{dst:=some 11,op:=Op.call {callee:=Callee.builtin Builtin.append,args:= #[Operand.tmp 8,Operand.tmp 10],argTypes:= #[142,142]},type:=142,pos:= "mask.go:58",after:= #[{on:=0,ground:=Ground.data},{on:=2,ground:=Ground.data}],guard:=none},{dst:=none,op:=Op.store 142 (Operand.tmp 3) (Operand.tmp 11),type:=0,pos:= "mask.go:58",after:= #[{on:=3,ground:=Ground.data},{on:=3,ground:=Ground.chain},{on:=0,ground:=Ground.phase},{on:=1,ground:=Ground.phase},{on:=2,ground:=Ground.phase},{on:=3,ground:=Ground.phase}],guard:=none}] false))
def gL (fn:FuncId) (s0:Int) (fv:Value) (Bo D:Nat) (st:LoopState) (pend:Option Code):Loop:=
 {state:=st,pending:=pend,fn,tmps:= #[.int .u32 s0,undef,.slice none 0 0,.pointer (some ⟨Bo,0,none⟩),undef,.int .u32 s0,fv,undef,undef,undef,undef,undef,undef],params:= #[7],assign:=B5,body:=B6,defers:=D}
def eU (x:Nat):Value:= .int .i64 (x:Int)
structure LsAt (w0:World) (fn:FuncId) (s0:Int) (fv:Value) (Bo l D:Nat) (ss:List Nat) (W:World):Prop where
 box: ∃v,W.heap[Bo]? =some (.cells #[v] 142 (0,0))∧W.ownsRow w0.heap.size 3 1 v ss.length (ss.map eU)
 L:W.heap[l]? =some (.loop (gL fn s0 fv Bo D .ready none))
 K:W.heap[D]? =some (.deferred (some []))
 below:Below w0.heap.size w0 W
theorem o_ (W:World) (l:Nat) (o:Obj):W.grownBy (W.putObj l o) (some l):=
 ⟨rfl,rfl,rfl,by simp,fun k _ hk=>World.putObj_heap_other (fun e=>hk (by rw [e]))⟩
theorem DQ (W:World) (b:Nat) (v:Value):W.grownBy (W.setCell ⟨b,0,none⟩ v) (some b):=
 ⟨rfl,rfl,rfl,(KeepsWalks.setCell W _ v).size,fun k _ hk=>Below.heap_setCell _ _ _ k (fun e=>hk (by rw [e]))⟩
theorem kZ {W:World} {base:Nat} {e:TypeId} {size:Nat} {v:Value} {k:Nat} {xs:List Value} (h:W.ownsRow base e size v k xs) {j:Nat} {o:Obj} (hj:W.heap[j]? =some o) (hno: ∀cur,o≠ .cells cur e (0,0)):
  v.ownBlock=none∨v.ownBlock≠some j:=by
 rcases h.2 with ⟨rfl,_⟩|⟨g,cap,cur,rfl,_,hgb,_⟩
 ·exact .inl rfl
 ·refine .inr fun e'=> ?_
  have:g=j:=by simpa [Value.ownBlock] using e'
  subst this;rw [hgb] at hj;cases hj;exact hno cur rfl
theorem lH {W:World} {B:Nat} {v:Value} {t:TypeId} (h:W.heap[B]? =some (.cells #[v] t (0,0))):W.cell? ⟨B,0,none⟩=some v∧W.frozen? ⟨B,0,none⟩=false:=by
 constructor<;>simp [World.cell?,World.frozen?,h]
theorem Aj {W:World} {B:Nat} {v:Value} {t:TypeId} (v':Value) (h:W.heap[B]? =some (.cells #[v] t (0,0))):(W.setCell ⟨B,0,none⟩ v').heap[B]? =some (.cells #[v'] t (0,0)):=by
 obtain ⟨hlt,hk⟩:=Array.getElem?_eq_some_iff.1 h
 show (W.heap.modify B _)[B]? =_
 rw [Array.getElem?_eq_getElem (by rw [Array.size_modify];exact hlt),Array.getElem_modify_self,hk]
 rfl
theorem XF:(Tryz.prog.info? 3).map (fun i=>(i.zero,i.size,i.bytes))=some (some (.int .i64 0),1,8):=by kernel_rfl
set_option maxRecDepth 100000 in
set_option maxHeartbeats 2000000 in
theorem aai (F:Fence) (m:Nat) (w0:World) (fn:FuncId) (hfn:F.fn fn) (s0:Int) (fv:Value) (Bo Bi l D:Nat) (hBl:Bo≠l) (hDl:D≠l) (hDB:D≠Bo) (hBiBo:Bi≠Bo) (hBil:Bi≠l) (h0B:w0.heap.size≤Bo) (h0l:w0.heap.size≤l)
  (ss:List Nat) (x:Nat) (c:Value) (W:World) (h:LsAt w0 fn s0 fv Bo l D ss W) (hi0:W.heap[Bi]? =some (.cells #[c] 55 (0,0))) (hlen:ss.length<24):
  YieldAt F m Tryz.prog l #[eU x] W fun e W'=>e= .returned (.bool true)∧LsAt w0 fn s0 fv Bo l D (ss++[x]) W'∧W'.heap[Bi]? =some (.cells #[c] 55 (0,0)):=by
 obtain ⟨i0,hi,hz0,hz1,hz2⟩:=info_parts XF
 obtain ⟨v,hv,hrow⟩:=h.box
 refine ⟨fn,#[.int .u32 s0,undef,.slice none 0 0,.pointer (some ⟨Bo,0,none⟩),undef,.int .u32 s0,fv,.int .i64 (x:Int),undef,undef,undef,undef,undef],B5,B6,by simpa [gL,eU] using run_yield (P:=Tryz.prog) (args:= #[eU x]) h.L rfl,roundIn_of_wpIn hfn ?_⟩
 have hl:l<W.heap.size:=(Array.getElem?_eq_some_iff.1 h.L).1
 have hbr:=run_beginRound (P:=Tryz.prog) h.L rfl
 obtain ⟨W2,hW2⟩: ∃W2,W.putObj l (.loop {gL fn s0 fv Bo D .ready none with state:= .busy})=W2:=⟨_,rfl⟩
 rw [hW2] at hbr
 have hg2:W.grownBy W2 (some l):=by rw [←hW2];exact o_ _ _ _
 have hv2:W2.heap[Bo]? =some (.cells #[v] 142 (0,0)):=by rw [←hW2];exact (World.putObj_heap_other hBl).trans hv
 have hi2:W2.heap[Bi]? =some (.cells #[c] 55 (0,0)):=by rw [←hW2];exact (World.putObj_heap_other hBil).trans hi0
 have hK2:W2.heap[D]? =some (.deferred (some [])):=by rw [←hW2];exact (World.putObj_heap_other hDl).trans h.K
 have hL2:W2.heap[l]? =some (.loop {gL fn s0 fv Bo D .ready none with state:= .busy}):=by rw [←hW2];exact World.putObj_heap_same hl
 have hrow2:W2.ownsRow w0.heap.size 3 1 v ss.length (ss.map eU):=hrow.kept hg2 (kZ hrow h.L (fun cur e=>by cases e))
 have hb2:Below w0.heap.size w0 W2:=h.below.grown hg2 h.below.size (fun k e=>by cases e;exact h0l)
 obtain ⟨hc2,hf2⟩:=lH hv2
 have hBlt:Bo<W2.heap.size:=(Array.getElem?_eq_some_iff.1 hv2).1
 have hBilt:Bi<W2.heap.size:=(Array.getElem?_eq_some_iff.1 hi2).1
 have hl2:l<W2.heap.size:=(Array.getElem?_eq_some_iff.1 hL2).1
 have hDlt:D<W2.heap.size:=(Array.getElem?_eq_some_iff.1 hK2).1
 have ne_of: ∀ {j:Nat} {o:Obj},W2.heap[j]? =some o→(∀cur,o≠ .cells cur 3 (0,0))→some j≠v.ownBlock:=fun hj hno=>by
  rcases kZ hrow2 hj hno with e|e
  ·rw [e];simp
  ·exact fun e'=>e e'.symm
 clear hW2
 have hml:24≤maxLen:=by unfold maxLen;omega
 unfold B5
 gi_wp2_with (rw [Oper.semAt_eq _ _ _ (fun c h=>by cases h)];go_simp;try go_bits)
 unfold B6
 gi_wp2_with (first
  |(gi_at_builtin;refine wpListIn_append_own _ rfl _ _ 142 rfl w0.heap.size 3 i0 (.int .i64 0) 1 8 Tryz.underlying142 hi hz0 hz1 hz2 rfl (by decide) _ _ _ rfl (hrow2.alloc _) ⟨W2.heap.size,0,none⟩ 1 1 [eU x] rfl rfl (cell_one_new _ _ _) (by simp [Value.oneCell',eU]) (by omega) (by omega) (by have:=hb2.size;simp;omega) ?_;intro v' w3 hown' hg3 hnil3
    have hv3:w3.heap[Bo]? =some (.cells #[v] 142 (0,0)):=(hg3.block Bo (by simp;omega) (ne_of hv2 (fun cur e=>by cases e))).trans ((Below.heap_alloc _ _ Bo hBlt).trans hv2)
    obtain ⟨hc3,hf3⟩:=lH hv3
    obtain ⟨g',cap',cur',rfl,hbase',hgb',hr1,hr2,hr3,hr4⟩: ∃g' cap' cur',v'= .slice (some ⟨g',0,none⟩) (ss.length+1) cap'∧w0.heap.size≤g'∧w3.heap[g']? =some (.cells cur' 3 (0,0))∧ss.length+1≤cap'∧cap'≤maxLen∧cur'.size=cap'*1∧cur'.toList.take ((ss.length+1)*1)=ss.map eU++[eU x]:=by
     rcases hown'.2 with ⟨_,h0⟩|h'
     ·exact absurd h0 (by omega)
     ·exact h'
    go_frame)
  |(rw [Oper.semAt_eq _ _ _ (fun c h=>by cases h)];go_simp;try go_bits))
 have hg3':(W2.alloc (.cells #[eU x] 3)).grownBy w3 v.ownBlock:=hg3
 have hL3:w3.heap[l]? =some (.loop {gL fn s0 fv Bo D .ready none with state:= .busy}):=(hg3'.block l (by simp;omega) (ne_of hL2 (fun cur e=>by cases e))).trans ((Below.heap_alloc _ _ l hl2).trans hL2)
 have hK3:w3.heap[D]? =some (.deferred (some [])):=(hg3'.block D (by simp;omega) (ne_of hK2 (fun cur e=>by cases e))).trans ((Below.heap_alloc _ _ D hDlt).trans hK2)
 have hi3:w3.heap[Bi]? =some (.cells #[c] 55 (0,0)):=(hg3'.block Bi (by simp;omega) (ne_of hi2 (fun cur e=>by cases e))).trans ((Below.heap_alloc _ _ Bi hBilt).trans hi2)
 obtain ⟨w4,hw4⟩: ∃w4,w3.setCell ⟨Bo,0,none⟩ (.slice (some ⟨g',0,none⟩) (ss.length+1) cap')=w4:=⟨_,rfl⟩
 rw [hw4]
 have hg4:w3.grownBy w4 (some Bo):=by rw [←hw4];exact DQ _ _ _
 have hv4:w4.heap[Bo]? =some (.cells #[.slice (some ⟨g',0,none⟩) (ss.length+1) cap'] 142 (0,0)):=by rw [←hw4];exact Aj _ hv3
 have hL4:w4.heap[l]? =some (.loop {gL fn s0 fv Bo D .ready none with state:= .busy}):=(hg4.block l (Array.getElem?_eq_some_iff.1 hL3).1 (fun e=>hBl (by cases e;rfl))).trans hL3
 have hK4:w4.heap[D]? =some (.deferred (some [])):=(hg4.block D (Array.getElem?_eq_some_iff.1 hK3).1 (fun e=>hDB (by cases e;rfl))).trans hK3
 have hi4:w4.heap[Bi]? =some (.cells #[c] 55 (0,0)):=(hg4.block Bi (Array.getElem?_eq_some_iff.1 hi3).1 (fun e=>hBiBo (by cases e;rfl))).trans hi3
 have hrow4:=hown'.kept hg4 (kZ hown' hv3 (fun cur e=>by cases e))
 have hl4:l<w4.heap.size:=(Array.getElem?_eq_some_iff.1 hL4).1
 have hb3:Below w0.heap.size w0 w3:=(hb2.alloc hb2.size _).grown hg3' (by have:=hb2.size;simp;omega) (fun k e=>(hrow2.lt k e).1)
 have hb4:Below w0.heap.size w0 w4:=hb3.grown hg4 hb3.size (fun k e=>by cases e;exact h0B)
 clear hw4
 refine ⟨_,_,run_endRound none hL4,rfl,⟨⟨_,(World.putObj_heap_other hBl).trans hv4, ?_⟩,World.putObj_heap_same hl4,(World.putObj_heap_other hDl).trans hK4,hb4.grown (o_ _ _ _) hb4.size (fun k e=>by cases e;exact h0l)⟩,(World.putObj_heap_other hBil).trans hi4⟩
 have:=hrow4.kept (o_ w4 l (.loop {{gL fn s0 fv Bo D .ready none with state:= .busy} with state:=if (none:Option Code).isNone then .ready else .done,pending:=none})) (kZ hrow4 hL4 (fun cur e=>by cases e))
 simpa using this
def BY (Bi:Nat) (w:World):Nat:=match w.cell? ⟨Bi,0,none⟩ with
 |some v=>(intOf v).toNat
 |none=>0
theorem HV {Bi:Nat} {w:World} {n:Nat} {t:TypeId} (h:w.heap[Bi]? =some (.cells #[.int .u32 (n:Int)] t (0,0))):BY Bi w=n:=by
 unfold BY;rw [(lH h).1];simp [intOf]
theorem Ug {w0 W:World} (hT:TabAt 0 Lib.deBruijn32tab w0) (hb:Below w0.heap.size w0 W):TabAt 0 Lib.deBruijn32tab W:=fun j hj=>by
 have h:=hT j hj
 have h0:0<w0.heap.size:=World.block_lt_of_cell? w0 ⟨0,j,none⟩ h
 exact (hb.cell (p:=⟨0,j,none⟩) h0).trans h
theorem Uq (s:Int):bits .and .u32 s 16777215=(((BitVec.ofInt 32 s).toNat&&&16777215:Nat):Int):=by
 have hx:(BitVec.ofInt 32 s).toNat&&&16777215<2^32:=Nat.and_lt_two_pow _ (by omega)
 show IntKind.u32.wrap ((BitVec.ofInt 32 s&&&BitVec.ofInt 32 16777215).toNat:Int)=_
 rw [BitVec.toNat_and,wrap_u32',show (BitVec.ofInt 32 16777215).toNat=16777215 from by decide]
 omega
def gK (s:Int):Nat:=(BitVec.ofInt 32 s).toNat&&&16777215
theorem Ur (s:Nat) (h0:s≠0) (h:s<4294967296):bits .and .u32 (s:Int) ((s:Int)-1)=((s&&&(s-1):Nat):Int):=by
 have:(s:Int)-1=((s-1:Nat):Int):=by omega
 rw [this];exact bits_and_u32_nat s (s-1) h (by omega)
set_option maxRecDepth 100000 in
set_option maxHeartbeats 2000000 in
theorem aah (F:Fence) (n:Nat) (h243:F.fn 243) (h244:F.fn 244) (hro:F.round=none) (hn:1≤n) (w0:World) (fn:FuncId) (hfn:F.fn fn) (s0:Int) (fv:Value) (Bo Bi l D:Nat) (hBl:Bo≠l) (hDl:D≠l) (hDB:D≠Bo) (hBiBo:Bi≠Bo) (hBil:Bi≠l) (hBiD:Bi≠D)
  (h0B:w0.heap.size≤Bo) (h0l:w0.heap.size≤l) (h0i:w0.heap.size≤Bi) (hT:TabAt 0 Lib.deBruijn32tab w0) (s:Int) (W:World) (h:LsAt w0 fn s0 fv Bo l D [] W) (hi0:W.heap[Bi]? =some (.cells #[.int .u32 s] 55 (0,0)))
  (htz: ∀ (x:Nat),x<4294967296→x≠0→ ∀W',TabAt 0 Lib.deBruijn32tab W'→CallsIn F (n-1) Tryz.prog 244 #[.int .u32 x] W' fun e w'=>e= .returned (.int .i64 (Lib.ctz 32 x))∧w'=W'):
  CallsIn F n Tryz.prog 243 #[.func (.yield l) #[] #[],.pointer (some ⟨Bi,0,none⟩)] W fun e W'=>(∃v,e= .returned v)∧LsAt w0 fn s0 fv Bo l D (ez (gK s)) W':=by
 obtain ⟨hc0,hf0⟩:=lH hi0
 have ha:bits .and .u32 s 16777215=((gK s:Nat):Int):=Uq s
 have hsl:gK s<16777216:=Nat.lt_of_le_of_lt Nat.and_le_right (by decide)
 generalize gK s=q at ha hsl ⊢
 refine callsIn_of_wp Tryz.func243 rfl h243 ?_ hro
 simp only [Tryz.ntmps243,List.size_toArray,List.length_cons,List.length_nil,Nat.reduceAdd,Nat.reduceSub,Array.replicate_succ,Array.replicate_zero,List.push_toArray,List.append_toArray,List.nil_append,List.cons_append]
 gi_wp2
 have hi1:=Aj (.int .u32 (q:Int)) hi0
 have hA1:LsAt w0 fn s0 fv Bo l D [] (W.setCell ⟨Bi,0,none⟩ (.int .u32 (q:Int))):=by
  obtain ⟨v,hv,hrow⟩:=h.box
  exact ⟨⟨v,(Below.heap_setCell _ _ _ Bo (fun e=>hBiBo e.symm)).trans hv,hrow.kept (DQ _ _ _) (kZ hrow hi0 (fun cur e=>by cases e))⟩,(Below.heap_setCell _ _ _ l (fun e=>hBil e.symm)).trans h.L,(Below.heap_setCell _ _ _ D (fun e=>hBiD e.symm)).trans h.K,h.below.setCell h0i _⟩
 gi_loopw [] (fun wr=> ∃ (pre:List Nat) (c:Nat),c<16777216∧pre++ez c=ez q∧LsAt w0 fn s0 fv Bo l D pre wr∧wr.heap[Bi]? =some (.cells #[.int .u32 (c:Int)] 55 (0,0)))
  (fun wr=>BY Bi wr)
 case atStart=>exact ⟨[],q,hsl,rfl,hA1,hi1⟩
 case round=>
  obtain ⟨pre,c,hc,hp,hA,hb⟩:=hrel
  clear hc0 hf0 ha hi1 hA1
  obtain ⟨hc1,hf1⟩:=lH hb
  by_cases hz:c=0
  ·subst hz
   rw [aef,List.append_nil] at hp
   gi_wp2
   go_end0
   exact ⟨⟨_,rfl⟩,hp▸hA⟩
  ·have hne:((c:Int)==0)=false:=by simp;omega
   have hne': ¬ ((c:Int)=0):=by omega
   have hstep:=aeh c hz hc
   have hpl:pre.length<24:=by
    have h1:=aeg q
    have h2:=congrArg List.length hp
    rw [hstep.1,List.length_append,List.length_cons] at h2
    omega
   obtain ⟨fn',tmps,assign,body,hy,hR⟩:=aai F (n-1) w0 fn hfn s0 fv Bo Bi l D hBl hDl hDB hBiBo hBil h0B h0l pre (Lib.ctz 32 c) (.int .u32 (c:Int)) wr hA hb hpl
   have hT1:=Ug hT hA.below
   have hap:=Ur c hz (by omega)
   unfold eU at hy
   have hyH:Hid (Lib.ctz 32 c=Lib.ctz 32 c):=rfl
   gi_wp2_with (gi_at_call 244;refine (htz c (by omega) hz _ hT1).mono ?_;rintro e w' ⟨rfl,rfl⟩)
   refine hR.mono ?_
   rintro e W3 ⟨rfl,hA3,hb3⟩
   obtain ⟨hc3,hf3⟩:=lH hb3
   clear hc1 hf1 hA hy hR hT1
   gi_wp2
   have hb4:=Aj (.int .u32 ((c&&&(c-1):Nat):Int)) hb3
   have hlt:=hstep.2
   go_roundw
   case rel=>
    refine ⟨pre++[Lib.ctz 32 c],c&&&(c-1),by omega, ?_, ?_,hb4⟩
    ·rw [←hp,hstep.1,List.append_assoc];rfl
    ·obtain ⟨v,hv,hrow⟩:=hA3.box
     exact ⟨⟨v,(Below.heap_setCell _ _ _ Bo (fun e=>hBiBo e.symm)).trans hv,hrow.kept (DQ _ _ _) (kZ hrow hb3 (fun cur e=>by cases e))⟩,(Below.heap_setCell _ _ _ l (fun e=>hBil e.symm)).trans hA3.L,(Below.heap_setCell _ _ _ D (fun e=>hBiD e.symm)).trans hA3.K,hA3.below.setCell h0i _⟩
   case measure=>rw [HV hb4,HV hb];exact hlt
set_option maxRecDepth 100000 in
set_option maxHeartbeats 2000000 in
theorem aaf (F:Fence) (n:Nat) (h224:F.fn 224) (h234:F.fn 234) (h243:F.fn 243) (h244:F.fn 244) (hro:F.round=none) (hn:3≤n) (s:Int) (w:World) (hT:TabAt 0 Lib.deBruijn32tab w)
  (hin: ∀W,CallsIn F (n-1) Tryz.prog 234 #[.int .u32 s] W fun e w'=>e= .returned (.func (.func 243) #[] #[.pointer (some ⟨W.heap.size,0,none⟩)])∧w'=W.alloc (.cells #[.int .u32 s] 55))
  (htz: ∀ (x:Nat),x<4294967296→x≠0→ ∀W',TabAt 0 Lib.deBruijn32tab W'→CallsIn F (n-1-1) Tryz.prog 244 #[.int .u32 x] W' fun e w'=>e= .returned (.int .i64 (Lib.ctz 32 x))∧w'=W'):
  CallsIn F n Tryz.prog 224 #[.int .u32 s] w fun e w'=> ∃v:Value,e= .returned v∧w'.ownsRow w.heap.size 3 1 v (ez (gK s)).length ((ez (gK s)).map eU)∧Below w.heap.size w w':=by
 have h1:1≤n:=by omega
 have eg: ∀args w,(callFunc 243 args).run Tryz.prog w= .ok (.enter 243 args) w:=enters_of Tryz.func243 (by kernel_rfl) rfl
 refine callsIn_of_wp_marks Tryz.func224 rfl h224 ?_ hro
 simp only [Tryz.ntmps224,List.size_toArray,List.length_cons,List.length_nil,Nat.reduceAdd,Nat.reduceSub,Array.replicate_succ,Array.replicate_zero,List.push_toArray,List.append_toArray,List.nil_append,List.cons_append]
 gi_wp2_with (gi_at_call 234;refine (hin _).mono ?_;rintro e w' ⟨rfl,rfl⟩)
 refine wpIn_rangeFunc ?_
 intro fn hfn
 rw [hro]
 obtain ⟨fv,hfv⟩: ∃fv:Value,fv= .func (.func 243) #[] #[.pointer (some ⟨w.heap.size+1,0,none⟩)]:=⟨_,rfl⟩
 obtain ⟨W0,hW0⟩: ∃W0,(w.alloc (.cells #[.slice none 0 0] 142)).alloc (.cells #[.int .u32 s] 55)=W0:=⟨_,rfl⟩
 have hs0:W0.heap.size=w.heap.size+2:=by rw [←hW0];simp
 have hv0:W0.heap[w.heap.size]? =some (.cells #[.slice none 0 0] 142 (0,0)):=by rw [←hW0];exact (Below.heap_alloc _ _ _ (by simp)).trans (World.alloc_heap_new w _)
 have hi0:W0.heap[w.heap.size+1]? =some (.cells #[.int .u32 s] 55 (0,0)):=by
  rw [←hW0];have:=World.alloc_heap_new (w.alloc (.cells #[.slice none 0 0] 142)) (.cells #[.int .u32 s] 55);rwa [World.size_alloc] at this
 have hb0:Below w.heap.size w W0:=by rw [←hW0];exact ((Below.refl _ w).alloc (Nat.le_refl _) _).alloc (by simp) _
 rw [hW0]
 obtain ⟨W1,hW1⟩: ∃W1,(W0.alloc (.deferred (some []))).alloc (.loop (gL fn s fv w.heap.size W0.heap.size .ready none))=W1:=⟨_,rfl⟩
 have hold: ∀k,k<W0.heap.size→W1.heap[k]? =W0.heap[k]? :=fun k hk=>by
  rw [←hW1];exact (Below.heap_alloc _ _ k (by simp;omega)).trans (Below.heap_alloc _ _ k hk)
 have hb1:Below w.heap.size w W1:=by rw [←hW1];exact (hb0.alloc hb0.size _).alloc (by have:=hb0.size;simp;omega) _
 have hM:LsAt w fn s fv w.heap.size (W0.heap.size+1) W0.heap.size [] W1:=
  ⟨⟨_,(hold w.heap.size (by omega)).trans hv0,⟨rfl,.inl ⟨rfl,rfl⟩⟩⟩,
   by rw [←hW1];have:=World.alloc_heap_new (W0.alloc (.deferred (some []))) (.loop (gL fn s fv w.heap.size W0.heap.size .ready none));rwa [World.size_alloc] at this,
   by rw [←hW1];exact (Below.heap_alloc _ _ _ (by simp)).trans (World.alloc_heap_new W0 _),hb1⟩
 refine ⟨W0.heap.size+1,[{target:= .collected W0.heap.size,args:= #[]}],W1,{target:= .fn (.func 243) #[.pointer (some ⟨w.heap.size+1,0,none⟩)],args:= #[.func (.yield (W0.heap.size+1)) #[] #[]]},W1,243,
  #[.func (.yield (W0.heap.size + 1)) #[] #[]] ++ #[.pointer (some ⟨w.heap.size + 1, 0, none⟩)], W1, ?_, ?_, ?_, ?_, fun _ => h1, ?_⟩
 ·rw [←hW1,hfv];exact run_enterLoop_outer _ _ _ _ _
 ·simp [resolve,go_sem]
 ·intro f' hf';simp [Target.leads] at hf';subst hf';exact h243
 ·simp [invoke,go_sem,eg]
 ·refine (aah F (n-1) h243 h244 hro (by omega) w fn hfn s fv w.heap.size (w.heap.size+1) (W0.heap.size+1) W0.heap.size (by omega) (by omega) (by omega) (by omega) (by omega) (by omega) (Nat.le_refl _) (by omega) (by omega) hT s W1 hM ((hold _ (by omega)).trans hi0) htz).mono ?_
  rintro e W2 ⟨⟨v0,rfl⟩,h2⟩
  obtain ⟨v,hv,hrow⟩:=h2.box
  have hend:=run_endLoop (P:=Tryz.prog) h2.L (by simp [gL])
  obtain ⟨W3,hW3⟩: ∃W3,W2.putObj (W0.heap.size+1) (.loop {gL fn s fv w.heap.size W0.heap.size .ready none with state:= .exhausted})=W3:=⟨_,rfl⟩
  rw [hW3] at hend
  have hg3:W2.grownBy W3 (some (W0.heap.size+1)):=by rw [←hW3];exact o_ _ _ _
  have hv3:W3.heap[w.heap.size]? =some (.cells #[v] 142 (0,0)):=by rw [←hW3];exact (World.putObj_heap_other (by omega)).trans hv
  have hK3:W3.heap[W0.heap.size]? =some (.deferred (some [])):=by rw [←hW3];exact (World.putObj_heap_other (by omega)).trans h2.K
  have hrow3:=hrow.kept hg3 (kZ hrow h2.L (fun cur e=>by cases e))
  have hb3:Below w.heap.size w W3:=h2.below.grown hg3 h2.below.size (fun k e=>by cases e;omega)
  obtain ⟨hc3,hf3⟩:=lH hv3
  clear hW3
  refine ⟨none,W3,hend, ?_⟩
  clear hfv
  gi_wp2
  rw [show (w.heap.size+1+1)=W0.heap.size by omega]
  refine ⟨by simp,.inl ⟨_,_,rfl,run_takeDeferred hK3, ?_⟩⟩
  exact ⟨_,results_tmp rfl _ _ _,v,rfl,hrow3.kept (o_ _ _ _) (kZ hrow3 hK3 (fun cur e=>by cases e)),hb3.grown (o_ _ _ _) hb3.size (fun k e=>by cases e;omega)⟩
end Go.Proofs.YtapmagaejigpnaaGreatDoor
namespace Go.Proofs.YtapmagaejigpnaaGreatDoor
open Go PI Go.Shelf Go.RowKit
set_option linter.unusedVariables false
set_option linter.unusedSimpArgs false
set_option maxRecDepth 100000
def af (o:Obj):Prop:= ∃ (cur:Array Value) (e:TypeId) (fr:Nat×Nat),o= .cells cur e fr∧ ∀j,j<Lib.deBruijn32tab.length→cur[j]? =some (.int .u8 (Lib.deBruijn32tab.getD j 0))
theorem ad0 {o:Obj} (ho:af o) {w:World} (h:w.heap[0]? =some o):TabAt 0 Lib.deBruijn32tab w:=fun j hj=>by
 obtain ⟨cur,e,fr,rfl,hc⟩:=ho
 have:=hc j hj
 simp [World.cell?,h,this]
theorem aae (s:Int) (w:World) (hT:TabAt 0 Lib.deBruijn32tab w):Calls Tryz.prog 224 #[.int .u32 s] w fun e w'=> ∃v:Value,e= .returned v∧w'.ownsRow w.heap.size 3 1 v (ez (gK s)).length ((ez (gK s)).map eU)∧Below w.heap.size w w':=
 callsIn_wide.1 (aaf Fence.wide 5 trivial trivial trivial trivial rfl (by omega) s w hT (fun W=>callsIn_wide.2 (XE s W)) fun x hx h0 W' hT'=>callsIn_wide.2 (Tryz.tz32 x hx h0 W' hT'))
theorem aal (s:Int):oU s=(ez (gK s)).map fun n:Nat=>(n:Int):=by
 unfold oU ez gK
 have:(List.range 24).filter ((BitVec.ofInt 32 s).toNat&&&16777215).testBit=(List.range 24).filter fun i=>(BitVec.ofInt 32 s).getLsbD i:=List.filter_congr fun i hi=>by
  have hi:i<24:=List.mem_range.1 hi
  have h24:(16777215:Nat)=2^24-1:=by decide
  rw [Nat.testBit_and,h24,Nat.testBit_two_pow_sub_one,decide_eq_true hi,Bool.and_true];rfl
 rw [this];rfl
theorem Ux {X:Link VV Tryz.prog} {w w':World} {vs:Array Value} {N0:aF} {ν:Nat→Nat} {δ:Nat→Option Nat} {args:List PU} (hg:Given X w vs N0 ν δ args []) (hb:Below w.heap.size w w'):
  Back X w w' N0 ν δ 0 args.length ν (fun _=>none) [] where
 ext:=⟨hb.os,hb.tape,hb.output,hb.size,fun b hlt _=>hb.block b hlt⟩
 le:=Nat.le_refl _
 old:=fun i h=>absurd h (Nat.not_lt_zero i)
 new:=fun i _ h=>absurd h (Nat.not_lt_zero i)
 dnew:=fun j b h=>by cases h
 bnd:={
  inj:=fun i j h=>absurd h (Nat.not_lt_zero i)
  lt:=fun i h=>absurd h (Nat.not_lt_zero i)
  dlt:=fun j b h=>by cases h
  dinj:=fun i j b h=>by cases h
  dν:=fun j b h=>by cases h
  n0:=fun b o h=>⟨Nat.lt_of_lt_of_le (hg.bnd.n0 b o h).1 hb.size,fun i h=>absurd h (Nat.not_lt_zero i),fun j h=>by cases h⟩}
 boxes:=fun k b h=>by simp at h
theorem ad9 {S:Type} (o:Obj) (ho:af o) (vs:List PU) (bs:List (Box UU)) (κ:Out UU→Option S) (x:S) (h:Dp vs bs κ=some x): ∃out,bW (LL o) Xf vs bs out∧κ out=some x:=by
 unfold Dp at h
 split at h
 case h_2=>cases h
 rename_i κ y
 refine ⟨_, ?_,h⟩
 refine ⟨⟨Tryz.f224,Tryz.func224,by kernel_rfl,rfl⟩,fun w vs N0 ν δ hg=> ?_⟩
 have hs:vs.size=1:=hg.size
 have h0:=hg.args 0 _ rfl
 obtain ⟨v0,hv0⟩: ∃v0,vs= #[v0]:=by
  obtain ⟨l⟩:=vs
  match l,hs with
  |[v],_=>exact ⟨v,rfl⟩
 subst hv0
 have h0:Rep (LL o) w _ _ v0 (.int .u32 y):=h0
 cases h0
 have hT:=ad0 ho (hg.glob 0 o (by simp [LL])).1
 refine (aae y w hT).mono ?_
 rintro e w' ⟨v,rfl,hrow,hb⟩
 refine ⟨ν,fun _=>none,Ux hg hb, ?_⟩
 show Rep (LL o) w' _ _ v (.sl ET.I (oU y) .none)
 rw [aal]
 generalize ez (gK y)=ts at hrow
 obtain ⟨hl,hr⟩:=hrow
 rcases hr with ⟨rfl,hn⟩|⟨g,cap,cur,rfl,hg0,hgb,hc,hc',hsz,htk⟩
 ·have:ts=[]:=List.length_eq_zero_iff.1 hn
  subst this
  exact .sl none 0 0 _ _ _ (fun _ _=>undef) rfl (Nat.le_refl _) trivial (fun j x hx=>by cases hx) (fun j x hx=>by cases hx)
 ·have hcell: ∀j x,(ts.map fun n:Nat=>(n:Int))[j]? =some x→cur.getD j undef= .int .i64 x∧w'.cell? ⟨g,j,none⟩=some (.int .i64 x):=by
   intro j x hx
   rw [List.getElem?_map] at hx
   cases ht:ts[j]? with
   |none=>rw [ht] at hx;cases hx
   |some n=>
    rw [ht] at hx
    injection hx with hx
    have hj:j<ts.length:=(List.getElem?_eq_some_iff.1 ht).1
    have h1:(cur.toList.take (ts.length*1))[j]? =some (eU n):=by rw [htk,List.getElem?_map,ht];rfl
    rw [List.getElem?_take_of_lt (by omega)] at h1
    have h2:cur[j]? =some (.int .i64 x):=by rw [←Array.getElem?_toList,h1,←hx];rfl
    refine ⟨?_,by simp [World.cell?,hgb,h2]⟩
    rw [Array.getD_eq_getD_getElem?,h2];rfl
  refine Rep.sl (X:=LL o) (some ⟨g,0,none⟩) ts.length cap ET.I (show List Int from ts.map fun n:Nat=>(n:Int)) .none (fun j k=>cur.getD (j+k) undef) (List.length_map _) hc trivial (fun j x hx k p hp=> ?_) (fun j x hx k p hp=> ?_)
  ·match k,hp with
   |0,hp=>
    obtain ⟨h1,h2⟩:=hcell j x hx
    refine ⟨_,rfl, ?_, ?_⟩
    ·have:(⟨g,0,none⟩:Addr).add (j*(LL o).esize ET.I+0)=⟨g,j,none⟩:=by
      rw [Addr.add_lit'];show (⟨g,0+(j*1+0),none⟩:Addr)=_;congr 1;omega
     rw [this,h2];rw [Nat.add_zero,h1]
    ·rintro (hN|⟨i,hi,_⟩|⟨i,hi⟩)
     ·have:=(hg.bnd.n0 _ _ hN).1
      simp at this;omega
     ·exact absurd hi (Nat.not_lt_zero i)
     ·cases hi
   |k+1,hp=>simp [VV,cu] at hp
  ·match k,hp with
   |0,hp=>
    obtain ⟨h1,h2⟩:=hcell j x hx
    rw [Nat.add_zero,h1]
    have:p= .int .i64 x:=by simpa [VV,cu] using hp.symm
    subst this
    exact .int _ _
   |k+1,hp=>simp [VV,cu] at hp
end Go.Proofs.YtapmagaejigpnaaGreatDoor
namespace Go.Proofs.YtapmagaejigpnaaGreatDoor
open Go PI Go.Shelf Go.RowKit Go.Sort
set_option linter.unusedVariables false
set_option linter.unusedSimpArgs false
set_option maxRecDepth 100000
def lK (a b:Int):Int:=if a<b then-1 else if b<a then 1 else 0
def g5 (x y:Cl):Int:=if x.pos=y.pos then lK x.neg y.neg else lK x.pos y.pos
def ee (x:Cl):List Value:=[.int .u32 x.pos,.int .u32 x.neg]
theorem BF (a:Int) (W:World):Calls Tryz.prog 223 #[.int .u32 a] W fun e w'=>e= .returned (.bool false)∧w'=W:=by
 go_enter Tryz.func223,Tryz.ntmps223
 go_wp2
 go_ret
 exact ⟨by simp,rfl⟩
set_option maxHeartbeats 1000000 in
theorem FZ (a b:Int) (W:World):Calls Tryz.prog 196 #[.int .u32 a,.int .u32 b] W fun e w'=>e= .returned (.int .i64 (lK a b))∧w'=W:=by
 unfold lK
 by_cases h1:a<b
 ·rw [if_pos h1]
  go_enter Tryz.func196,Tryz.ntmps196
  go_wp2_with (go_at_call 223;refine (BF _ _).mono ?_;rintro e w' ⟨rfl,rfl⟩)
  go_ret
  exact ⟨rfl,rfl⟩
 ·rw [if_neg h1]
  by_cases h2:b<a
  ·rw [if_pos h2]
   go_enter Tryz.func196,Tryz.ntmps196
   go_wp2_with (go_at_call 223;refine (BF _ _).mono ?_;rintro e w' ⟨rfl,rfl⟩)
   go_ret
   exact ⟨rfl,rfl⟩
  ·rw [if_neg h2]
   go_enter Tryz.func196,Tryz.ntmps196
   go_wp2_with (go_at_call 223;refine (BF _ _).mono ?_;rintro e w' ⟨rfl,rfl⟩)
   go_ret
   exact ⟨rfl,rfl⟩
set_option maxHeartbeats 1000000 in
theorem US (x y:Cl) (W:World):Calls Tryz.prog 152 #[.agg (ee x).toArray,.agg (ee y).toArray] W fun e w'=>e= .returned (.int .i64 (g5 x y))∧ ∃q os',w'=grow (W.drewN q) os':=by
 obtain ⟨a,b⟩:=x
 obtain ⟨a',b'⟩:=y
 have h1:=FZ a a'
 have h2:=FZ b b'
 unfold g5
 simp only [ee]
 generalize lK a a'=r1 at h1 ⊢
 generalize lK b b'=r2 at h2 ⊢
 by_cases h:a=a'
 ·rw [if_pos h]
  go_enter Tryz.func152,Tryz.ntmps152
  go_wp2_with (go_at_call 196;refine (h2 _).mono ?_;rintro e w' ⟨rfl,rfl⟩)
  go_ret
  exact ⟨rfl,0,_,by rw [alloc_eq_grow,alloc_eq_grow,grow_grow];rfl⟩
 ·rw [if_neg h]
  go_enter Tryz.func152,Tryz.ntmps152
  go_wp2_with (go_at_call 196;refine (h1 _).mono ?_;rintro e w' ⟨rfl,rfl⟩)
  go_ret
  exact ⟨rfl,0,_,by rw [alloc_eq_grow,alloc_eq_grow,grow_grow];rfl⟩
theorem sF (x y:Cl):ltOf g5 x y=(decide (x.pos<y.pos)||(decide (x.pos=y.pos)&&decide (x.neg<y.neg))):=by
 have h:g5 x y<0↔(x.pos<y.pos∨x.pos=y.pos∧x.neg<y.neg):=by
  unfold g5 lK
  split<;>split<;>first|omega|(split<;>omega)
 rw [Bool.eq_iff_iff]
 simp only [ltOf,decide_eq_true_eq,Bool.or_eq_true,Bool.and_eq_true]
 exact h
theorem adQ:SWO (ltOf g5) where
 irrefl x:=by rw [sF];simp
 trans x y z h1 h2:=by rw [sF] at*;simp at*;omega
 ntrans x y z h1 h2:=by rw [sF] at*;simp at*;omega
theorem aeb (x y:Cl) (h1:ltOf g5 x y=false) (h2:ltOf g5 y x=false):x=y:=by
 rw [sF] at*;simp at*
 obtain ⟨a,b⟩:=x
 obtain ⟨a',b'⟩:=y
 simp at*
 omega
theorem Xw:(fun x y:Cl=> !ltOf g5 y x)=jY:=by
 funext x y
 rw [sF,Bool.eq_iff_iff]
 simp [jY]
 omega
instance:Inhabited Cl:=⟨⟨0,0⟩⟩
theorem ady (b c:Nat) (d:List Cl) (w:World) (hH:HoldsK ee 2 w b 0 d.toArray) (hb:b<w.heap.size) (hsz:d.length<4611686018427387904):
  Calls Tryz.prog 151 #[.slice (some ⟨b,0,none⟩) d.length c,.func (.func 152) #[] #[]] w fun e w'=>e= .returned (.tuple #[])∧ ∃n os,w'=sortWorldK ee 2 w b 0 n (sortCl d).toArray os:=by
 have eg: ∀args w,(callFunc 152 args).run Tryz.prog w= .ok (.enter 152 args) w:=enters_of Tryz.func152 (by kernel_rfl) rfl
 have h:=AnyQ.slices_SortFunc_total Tryz.sortCl 2 Tryz.isAgg61 Tryz.sizeOf61 ee (fun _=>rfl) (fun x v hv=>by simp [ee] at hv;rcases hv with rfl|rfl<;>rfl) g5 adQ 152 #[] b 0 c d.toArray w eg (fun _ _ _ _ x y=>US x y _) hH hb hsz aeb
 rw [Xw] at h
 exact h
theorem adz (p:Option Addr) (c:Nat) (w:World):Calls Tryz.prog 151 #[.slice p 0 c,.func (.func 152) #[] #[]] w fun e w'=>e= .returned (.tuple #[])∧w'=w:=
 AnyF.slices_SortFunc_none Tryz.sortCl p c _ w
theorem adx {m:Nat} {d:Array Cl} {os:Array Obj} {w:World} {b k:Nat} (hk:k<w.heap.size) (hne:k≠b):(sortWorldK ee 2 w b 0 m d os).heap[k]? =w.heap[k]? :=by
 unfold sortWorldK putRowK putRow mapBlock
 rw [heap_grow_old _ _ (by simpa [ahead] using hk)]
 show (w.heap.modify b _)[k]? =_
 rw [Array.getElem?_modify,if_neg (Ne.symm hne)]
theorem adw {m:Nat} {d:Array Cl} {os:Array Obj} {w:World} {b:Nat} {cur:Array Value} {e:TypeId} {fr:Nat×Nat} (h:w.heap[b]? =some (.cells cur e fr)):
  (sortWorldK ee 2 w b 0 m d os).heap[b]? =some (.cells (putCells id 0 (flatK ee 2 d) cur) e fr):=by
 have hb:b<w.heap.size:=(Array.getElem?_eq_some_iff.1 h).1
 unfold sortWorldK putRowK putRow mapBlock
 rw [heap_grow_old _ _ (by simpa [ahead] using hb)]
 show (w.heap.modify b _)[b]? =_
 rw [Array.getElem?_modify,if_pos rfl,h];rfl
theorem UQ (x:Cl) {k:Nat} {p:PU} (hp:(cu .C x)[k]? =some p):k<2∧ ∀ (X:Link VV Tryz.prog) (w:World) (N:aF) (g:Gh UU),Rep X w N g (ee x)[k]! p:=by
 match k,hp with
 |0,hp=>cases hp;exact ⟨by omega,fun X w N g=> .int _ _⟩
 |1,hp=>cases hp;exact ⟨by omega,fun X w N g=> .int _ _⟩
 |k+2,hp=>simp [cu] at hp
theorem XA {w:World} {b c:Nat} {l:List Cl} {cur:Array Value} {e:TypeId} (hb:w.heap[b]? =some (.cells cur e (0,0))) (hs:cur.size=c*2) (hl:l.length≤c) (h: ∀ (j:Nat) (x:Cl),l[j]? =some x→ ∀k,k<2→w.cell? ⟨b,j*2+k,none⟩=some (ee x)[k]!):HoldsK ee 2 w b 0 l.toArray:=by
 intro t ht
 rw [size_flatK] at ht
 have ht':t<l.length*2:=by simpa using ht
 have hj:t/2<l.length:=by omega
 have hx:l[t/2]? =some l.toArray[t/2]! :=by simp [hj]
 refine ⟨?_, ?_⟩
 ·rw [get_flatK _ _ _ _ ht]
  have:=h _ _ hx (t%2) (Nat.mod_lt _ (by omega))
  rw [Nat.zero_add]
  rw [show t/2*2+t%2=t by omega] at this
  exact this
 ·simp [World.frozen?,hb]
theorem XG {f:Nat} {ps:List PU} {l l':List Cl} (h:BC f ps l=some l'):f=151∧ps=[.func 152 [] []]∧l'=sortCl l:=by
 unfold BC at h
 split at h
 ·injection h with h
  exact ⟨rfl,rfl,h.symm⟩
 ·cases h
theorem xd (o:Obj):jV (LL o):=by
 intro f ps e l l' h
 have hi:Ho f ps e l=some l':=h
 clear h
 cases e with
 |T=>cases hi
 |B=>cases hi
 |I=>cases hi
 |F=>cases hi
 |C=>
 obtain ⟨rfl,rfl,rfl⟩:=XG hi
 refine ⟨⟨Tryz.f151,Tryz.func151,by kernel_rfl,rfl⟩,fun w vs N0 δ hg hδ=> ?_⟩
 have hs:vs.size=2:=hg.size
 obtain ⟨v0,v1,rfl⟩: ∃v0 v1,vs= #[v0,v1]:=by
  obtain ⟨l⟩:=vs
  match l,hs with
  |[v,v'],_=>exact ⟨v,v',rfl⟩
 have h0:ObOK (LL o) w (NB N0 0 (fun _=>0) δ) (gB UU 0 fun _=>0) ET.C l v0 .wr (δ 0):=hg.args 0 _ rfl
 have h1:Rep (LL o) w (NB N0 0 (fun _=>0) δ) (gB UU 0 fun _=>0) v1 (.func 152 [] []):=hg.args 1 _ rfl
 cases h1 with
 |func _ _ _ xs ys ha hb _ _=>
 have ha':xs= #[]:=by simpa using ha
 have hb':ys= #[]:=by simpa using hb
 subst ha';subst hb'
 obtain ⟨A,n,c,rfl,hl,hc,hcell,hm⟩:=h0.val
 have hl: @List.length Cl l=n:=hl
 cases hD:δ 0 with
 |none=>
  rw [hD] at hm hcell
  obtain ⟨rfl,rfl,rfl⟩:=hm.1 rfl
  have:l=([]:List Cl):=List.length_eq_zero_iff.1 hl
  subst this
  refine (adz none 0 w).mono ?_
  rintro e w' ⟨rfl,rfl⟩
  refine ⟨rfl,.refl _ _, ?_⟩
  rw [hD] at h0
  have:sortCl []=[]:=by simp [sortCl]
  rw [this]
  exact h0
 |some b=>
  rw [hD] at hm hcell
  obtain ⟨hu,cur,rfl,hblk,hsz,hmax⟩:=hm
  have hbl:b<w.heap.size:=(Array.getElem?_eq_some_iff.1 hblk).1
  have hcs:cur.size=c*2:=hsz
  have hH:HoldsK ee 2 w b 0 l.toArray:=XA hblk hcs (hl▸hc) fun j x hx k hk=>by
   have hp: ∃p,(cu ET.C x)[k]? =some p∧p= .int .u32 (if k=0 then x.pos else x.neg):=by
    match k,hk with
    |0,_=>exact ⟨_,rfl,rfl⟩
    |1,_=>exact ⟨_,rfl,rfl⟩
   obtain ⟨p,hp,hpe⟩:=hp
   obtain ⟨a,v,ha,hv,hr,_⟩:=hcell j x hx k p hp
   injection ha with ha
   subst ha
   subst hpe
   have hv':w.cell? ⟨b,j*2+k,none⟩=some v:=by
    have:(⟨b,0,none⟩:Addr).add (j*(LL o).esize ET.C+k)=⟨b,j*2+k,none⟩:=by
     rw [Addr.add_lit'];show (⟨b,0+(j*2+k),none⟩:Addr)=_;congr 1;omega
    rw [this] at hv;exact hv
   rw [hv']
   cases hr
   match k,hk with
   |0,_=>rfl
   |1,_=>rfl
  have hlt: @List.length Cl l<4611686018427387904:=by
   have:n≤1099511627776:=hmax.2
   omega
  have hcall:=ady b c l w hH hbl hlt
  have he:(.slice (some ⟨b,0,none⟩) (@List.length Cl l) c:Value)= .slice (some ⟨b,0,none⟩) n c:=by rw [hl]
  rw [he] at hcall
  refine hcall.mono ?_
  rintro e w' ⟨rfl,m,os,rfl⟩
  have hlen:(sortCl l).length= @List.length Cl l:=List.length_mergeSort _
  have hH':=holdsK_sortWorldK_c ee 2 w b 0 l.toArray (sortCl l).toArray m os hH hbl hlen
  refine ⟨rfl,⟨rfl,rfl,rfl,size_sortWorldK_c ee 2 w b 0 m _ os,fun k hk hne=>adx hk fun e=>hne ?_⟩, ?_⟩
  ·subst e
   exact List.mem_append_right _ (List.mem_filterMap.2 ⟨0,by simp,hD⟩)
  ·refine ⟨_,n,c,rfl,hlen.trans hl,hc,fun j x hx k p hp=> ?_, ?_⟩
   ·obtain ⟨hk,hrep⟩:=UQ x hp
    have hj:j<(sortCl l).length:=(List.getElem?_eq_some_iff.1 hx).1
    have:=(hH'.cell (i:=j) (c:=k) (by simpa using hj) hk).1
    have he:(sortCl l).toArray[j]! =x:=by
     have:=List.getElem?_eq_some_iff.1 hx
     rw [getElem!_pos _ j (by simpa using hj)];exact this.2
    rw [he] at this
    refine ⟨_,_,rfl, ?_,hrep _ _ _ _,fun h=>by cases h⟩
    have e:(⟨b,0,none⟩:Addr).add (j*(LL o).esize ET.C+k)=⟨b,0+j*2+k,none⟩:=by
     rw [Addr.add_lit'];show (⟨b,0+(j*2+k),none⟩:Addr)=_;congr 1;omega
    show World.cell? _ (Addr.add _ _)=_
    rw [e];exact this
   ·exact ⟨hu,_,rfl,adw hblk,by simp [putCells];exact hcs,hmax⟩
end Go.Proofs.YtapmagaejigpnaaGreatDoor
namespace Go.Proofs.YtapmagaejigpnaaGreatDoor
open Go PI Go.ChangeShapes Go.WideShapes Go.ChangeAt Go.RowKit
set_option linter.unusedVariables false
set_option linter.unusedSimpArgs false
set_option maxRecDepth 100000
theorem own:ownKnob Tryz.prog.godebug=none:=by kernel_rfl
theorem Hc:Tryz.prog.globalNamed "math/bits.deBruijn32tab" =some 0:=by kernel_rfl
section
variable {H:Type} {enc:TypeId×Value→H}
structure Kept (W W':World):Prop where
 os:W'.os=W.os
 output:W'.output=W.output
 size:W.heap.size≤W'.heap.size
 block: ∀b,b<W.heap.size→W'.heap[b]? =W.heap[b]?
theorem Kept.sameAt {W W':World} (h:Kept W W') {p:MemPlace} (hp:p.block<W.heap.size):W.sameAt W' p:=by
 cases p with
 |cell b o=>simp only [World.sameAt,World.cell?];rw [h.block b hp]
 |map b=>exact h.block b hp
theorem Kept.kept {W W':World} (h:Kept W W') (may:MemPlace→Prop):W.keptBut W' may:=by
 refine ⟨h.os,h.output,fun i hi=> ?_⟩
 rw [h.block i hi]
 cases W.heap[i]? with
 |none=>rfl
 |some o=>cases o with
  |cells c t fr=>exact ⟨rfl,rfl,rfl,fun _ _=>rfl⟩
  |map es clock=>exact .inr ⟨rfl,rfl⟩
  |_=>rfl
theorem FG {W W':World} {sp:Nat→Bool} {held:Bool}: ∀ {ts:List TypeId} {vs:List Value} {ds:List (DataW H)} {ps:List MemPlace},
  DataW.TrodAll enc Tryz.prog W 0 sp held ts vs ds ps→(∀p∈ps,W.sameAt W' p)→DataW.TrodAll enc Tryz.prog W' 0 sp held ts vs ds ps
 |[],[],[],_,h,_=>h
 |_::_,_::_,_::_,_,⟨p,q,⟨n,h1⟩,h2,e⟩,hs=>
  ⟨p,q,⟨n,DataW.trod_carry n _ _ _ h1 fun x hx=>hs x (by rw [e];exact List.mem_append_left _ hx)⟩,FG h2 (fun x hx=>hs x (by rw [e];exact List.mem_append_right _ hx)),e⟩
theorem kids:Kids Tryz.prog (· <Tryz.prog.types.size):=kids_rows (by kernel_rfl) (by kernel_rfl)
theorem full: ∀t e,t<Tryz.prog.types.size→Tryz.prog.underlying t=some (.slice e)→0<Tryz.prog.cellsOf e:=slices_full_of Tryz.prog (by kernel_rfl)
theorem aba {f:Func} {s:ChangeSpec} (hv:s.vars=[]) {cV fresh handsOn again:Bool} {W W':World} {args:Array Value} {ds gs:List (DataW H)} {before:List MemPlace} (hf:f.resultTypes= #[4])
  (hT: ∀t∈f.params.toList,t<Tryz.prog.types.size) (hs:s.fn H ds={results:=[.lit (.bool true)],args:=ds})
  (hW:DataW.Whole enc Tryz.prog f.params.toList s.vars cV W args.toList ds gs before) (hk:Kept W W'):s.post enc Tryz.prog f cV fresh handsOn again W args (.bool true) W':=by
 have hold: ∀p∈before,(fun b=>decide (b<W.heap.size)) p.block=true:=fun p hp=>by simpa using hW.lt p hp
 have hlt: ∀p∈before,p.block<W.heap.size:=fun p hp=>by simpa using hW.lt p hp
 have hW0:=hW
 obtain ⟨p,q,hA,hV,rfl,hz,hn⟩:=hW
 rw [hv] at hV
 obtain ⟨rfl,rfl⟩:=trodVars_none hV
 rw [List.append_nil] at hold hlt hz hn hW0
 have hs':s.fn H (ds++[])={results:=[.lit (.bool true)],args:=ds}:=by rw [List.append_nil];exact hs
 have hr:(Value.bool true).resultList f.resultTypes.size=[.bool true]:=by rw [hf];rfl
 have hres: ∀ (b:Nat) (sp:Nat→Bool) (hd:Bool),DataW.TrodAll enc Tryz.prog W' b sp hd f.resultTypes.toList ((Value.bool true).resultList f.resultTypes.size) (s.fn H (ds++[])).results []:=fun b sp hd=>by
  rw [hr,hs',hf]
  exact trodAll_cons_mk (shut_bool Tryz.underlying4 _) trodAll_mk0
 have hargs: ∀sp:Nat→Bool,(∀p'∈p,sp p'.block=true)→DataW.TrodAll enc Tryz.prog W' 0 sp true f.params.toList args.toList (s.fn H (ds++[])).args p:=fun sp hsp=>by
  rw [hs']
  exact DataW.TrodAll.respare kids full hT (FG hA fun x hx=>hk.sameAt (hlt x hx)) hsp
 have hvars: ∀sp:Nat→Bool,DataW.TrodVars enc Tryz.prog W' sp s.vars (s.fn H (ds++[])).vars []:=fun sp=>by rw [hv,hs'];rfl
 refine ⟨ds,[],p,[],p,[],hW0,hres _ _ _,hargs _ hold,hvars _,World.keptBut_mono (fun p' hp=>hp.elim) (hk.kept fun _=>False),fun _=> ?_⟩
 refine ⟨fun j t r h1 h2=> ?_,_,_,([]++p)++[],⟨[]++p,[],trodAll_append (hargs _ (fun _ _=>rfl)) (hres _ _ _),hvars _,rfl, ?_, ?_⟩, ?_⟩
 ·rw [hf] at h1
  rw [hr] at h2
  match j,h1,h2 with
  |0,h1,h2=>cases h1;cases h2;exact okWide_bool_mk Tryz.underlying4 _
  |j+1,h1,h2=>simp at h2
 ·intro b off hp
  have hp':MemPlace.cell b off∈p:=by simpa using hp
  have:=hz b off hp'
  simp only [World.frozen?] at this ⊢
  rw [hk.block b (hlt _ hp')]
  exact this
 ·intro ha
  have:=hn ha
  simpa using this
 ·intro p' hp _
  simpa using hp
variable {w:World} {spare:Nat→Bool} {held:Bool} {o:Obj} {N:aF} {g:Gh UU}
theorem Ui {v:Value} {n:Nat} (h:v.cells.toList.length=n+2): ∃vs:Array Value,v= .agg vs∧vs.toList=v.cells.toList:=by
 cases v with
 |agg vs=>exact ⟨vs,rfl,rfl⟩
 |_=>simp [Value.cells] at h
theorem t7 (hN: ∀b o,¬N b o) {v:Value} {d:DataW H} {ps:List MemPlace} (h:DataW.Trod enc Tryz.prog w 0 spare held 26 v d ps): ∃t:Tm,Rep (LL o) w N g v (.agg (cu ET.T t))∧QT t d:=by
 obtain ⟨n,hn⟩:=h
 obtain ⟨t,hr,hq⟩:=(aa4 (o:=o) (g:=g) hN n).1 _ _ _ hn
 obtain ⟨_,_,_,_,hl,_,_⟩:=DataW.trod_struct Tryz.underlying26 hn
 have hl6:v.cells.toList.length=6:=hl.trans (by kernel_rfl)
 obtain ⟨vs,rfl,hvs⟩:=Ui (n:=4) hl6
 refine ⟨t,Rep.agg (X:=LL o) vs (cu ET.T t) (by rw [←Array.length_toList,hvs,hl6];rfl) fun j p hp=> ?_,hq⟩
 obtain ⟨v',hv',hr'⟩:=hr j p hp
 have:vs.getD j undef=v':=by
  have h2:vs[j]? =some v':=by rw [←Array.getElem?_toList,hvs];exact hv'
  rw [Array.getD_eq_getD_getElem?,h2];rfl
 rw [this];exact hr'
theorem aeP (hN: ∀b o,¬N b o) {W:World} {base:Nat} {v:Value} {d:DataW H} {ps:List MemPlace} (hv:Value.okWide Tryz.prog W .any base 22 v) (h:DataW.Trod enc Tryz.prog w 0 spare held 22 v d ps):
  ∃l:List Cl,Rep (LL o) w N g v (cr l .none)∧am l∧l.length+1≤Rows.uptoBulk d:=by
 obtain ⟨a,len,cap,rfl⟩:=okWide_slice Tryz.underlying22 hv
 obtain ⟨n,hn⟩:=h
 obtain ⟨c,l,hc,hr,hq⟩:=Cv (o:=o) (g:=g) hN hn
 obtain rfl:c= .slice a len cap:=by simpa [Value.cells] using hc.symm
 exact ⟨l,hr,hq⟩
theorem Xx {o:Obj} {W:World} (h0:W.heap[0]? =some o) {vs:Array Value} {ps:List PU} (hs:vs.size=ps.length) (hp:ps.all PV.notFresh=true)
  (h: ∀ (j:Nat) p,ps[j]? =some p→Rep (LL o) W (NB (fun _ _=>False) 0 (fun _=>0) fun _=>none) (gB UU 0 fun _=>0) (vs.getD j undef) p):Given (LL o) W vs (fun _ _=>False) (fun _=>0) (fun _=>none) ps [] where
 bnd:=⟨fun i j hi=>absurd hi (Nat.not_lt_zero i),fun i hi=>absurd hi (Nat.not_lt_zero i),fun j b h=>(by cases h),fun i j b h=>(by cases h),fun j b h=>(by cases h),fun b o h=>h.elim⟩
 size:=hs
 dom:=fun j b h=>by cases h
 glob:=fun b o' hb=>by
  simp [LL] at hb
  obtain ⟨rfl,rfl⟩:=hb
  exact ⟨h0,fun i hi=>absurd hi (Nat.not_lt_zero i),fun j h=>by cases h⟩
 args:=fun j p hj=>RepG.of (h j p hj)
 boxes:=fun k b h=>by simp at h
theorem xD: ∀b o,¬NB (fun _ _=>False) 0 (fun _=>0) (fun _=>none) b o:=by
 rintro b o (h|⟨k,hk,_⟩|⟨j,h⟩)
 ·exact h
 ·exact absurd hk (Nat.not_lt_zero k)
 ·cases h
theorem UI {o:Obj} {f:FuncId} {ps:List PU} (hok:bW (LL o) f ps [] (.ret (.bool true) [])) {W:World} {vs:Array Value} (hg:Given (LL o) W vs (fun _ _=>False) (fun _=>0) (fun _=>none) ps []):
  Calls Tryz.prog f vs W fun e W'=>e= .returned (.bool true)∧Kept W W':=by
 refine (hok.2 W vs _ _ _ hg).mono ?_
 rintro e W' he
 cases e with
 |returned rv=>
  obtain ⟨ν',δ',hb,hr⟩:=he
  have hr:Rep (LL o) W' _ _ rv (.bool true):=hr
  cases hr
  refine ⟨rfl,hb.ext.os,hb.ext.output,hb.ext.size,fun b hb'=>hb.ext.block b hb' fun hm=> ?_⟩
  simp [mD] at hm
 |panicked ch=>exact he.elim
 |outgrown=>exact he.elim
theorem ad1 {H:Type}:(Rows.laid_math_bits_deBruijn32tab:DataW H)=Lib.tabData .u8 (Lib.deBruijn32tab.map fun n:Nat=>(n:Int)):=rfl
theorem ad2 {W:World} (h:laidMetH Tryz.prog [("math/bits.deBruijn32tab",Rows.laid_math_bits_deBruijn32tab)] W): ∃o,af o∧W.heap[0]? =some o:=by
 have h':laidMet Tryz.prog [("math/bits.deBruijn32tab",Rows.laid_math_bits_deBruijn32tab)] W:=h
 rw [ad1] at h'
 have ht:Lib.TabIs Tryz.prog W "math/bits.deBruijn32tab" .u8 (Lib.deBruijn32tab.map fun n:Nat=>(n:Int)):=
  Lib.tabIs_of_head (rest:=[]) Hc (by kernel_rfl) Tryz.underlying205 Tryz.underlying5 (by kernel_rfl) (by kernel_rfl) h'
 have hc: ∀j,j<Lib.deBruijn32tab.length→W.cell? ⟨0,j,none⟩=some (.int .u8 (Lib.deBruijn32tab.getD j 0:Nat)):=fun j hj=>by
  rw [ht.cell Hc j (by simpa using hj)]
  simp [List.getD,hj]
 have h0:=hc 0 (by decide)
 cases hh:W.heap[0]? with
 |none=>simp [World.cell?,hh] at h0
 |some o=>
  cases o with
  |cells cur e fr=>
   refine ⟨_,⟨cur,e,fr,rfl,fun j hj=> ?_⟩,rfl⟩
   have:=hc j hj
   simpa [World.cell?,hh] using this
  |_=>simp [World.cell?,hh] at h0
end
end Go.Proofs.YtapmagaejigpnaaGreatDoor
