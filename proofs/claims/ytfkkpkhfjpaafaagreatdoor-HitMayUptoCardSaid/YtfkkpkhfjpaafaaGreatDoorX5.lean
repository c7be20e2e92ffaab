/- hypercubelaw17.HitMay returns true for every term and any numbers of variables and dimensions: what a term that may be becomes may be; the card with an upper bound of the input's bulk. -/
import Derived.Test.YtfkkpkhfjpaafaaGreatDoorX4
namespace Go.Proofs.YtfkkpkhfjpaafaaGreatDoor
open Go PI
set_option linter.unusedVariables false
set_option linter.unusedSimpArgs false
set_option maxRecDepth 20000
variable {S:Type} {k:Nat}
def gK:List (Br Tm)→Except Int (List (Br Tm))
 |[]=> .ok []
 |b::r=>bE (toE (agS b.face 0 1)) fun f=>bE (di [⟨3,0⟩] (AK b)) fun u=>bE (gK r) fun l=> .ok (.mk f [u]::l)
def amg (t a:Tm) (sys:List (Br Tm)):Except Int Tm:=bE (J6 0 1 t) fun t'=>bE (J6 0 1 a) fun a'=>bE (gK sys) fun l=>bE (J6 0 2 a) fun a2=> .ok (.mk 15 0 ByteArray.empty [] [t',a'] (l++[.mk [⟨0,1⟩] [a2]]))
theorem acQ: ∀ {r:List (Br Tm)} {e:Int},gK r= .error e→0<e∧e≤1000:=by
 intro r
 induction r with
 |nil=>intro e h;cases h
 |cons b r ih=>
  intro e h
  rcases be h with h|⟨_,_,h⟩<;>grind [be,T2,q_,li]
theorem uw {t a:Tm} {sys:List (Br Tm)} {e:Int} (h:amg t a sys= .error e):0<e∧e≤1000:=by
 rcases be h with h|⟨_,_,h⟩
 ·exact al3 h
 rcases be h with h|⟨_,_,h⟩
 ·exact al3 h
 rcases be h with h|⟨_,_,h⟩
 ·exact acQ h
 rcases be h with h|⟨_,_,h⟩
 ·exact al3 h
 simp_all
theorem acR: ∀ {r l:List (Br Tm)},(∀b∈r,b.kids=[AK b]∧Fm (AK b)∧aq b.face∧b.face.length<1073741824)→gK r= .ok l→ba l∧aO l≤201∧aI l≤r.length*20001∧l.length=r.length:=by
 intro r
 induction r with
 |nil=>
  intro l _ h
  injection h with h;grind [ba,aO,aI]
 |cons b r ih=>
  intro l hr h
  obtain ⟨f,h0,h⟩:=i8 h
  obtain ⟨u,h1,h⟩:=i8 h
  obtain ⟨l',h2,h⟩:=i8 h
  injection h with h;subst h
  obtain ⟨b1,b2,b3,b4⟩:=hr b (by simp)
  obtain ⟨i1,i2,i3,i4⟩:=ih (fun b hb=>hr b (by simp [hb])) h2
  obtain ⟨a1,a2,a3,a4⟩:=Jo b2 h1
  obtain ⟨g1,rfl⟩:=rR h0
  have hf:=kQ g1
  have:=hf.len
  refine ⟨?_, ?_, ?_,by simp [i4]⟩
  ·rw [ba,fc,aZ,aZ]
   exact ⟨⟨⟨hf.2,by omega,by simp⟩,a1,trivial⟩,i1⟩
  all_goals grind [aO,eB,aH,aI,fG,ay]
theorem NQ {l l':List (Br Tm)} (h:ba l) (h':ba l'):ba (l++l'):=by
 grind [NR]
theorem zF (l l':List (Br Tm)):aO (l++l')=max (aO l) (aO l'):=by
 induction l<;>grind [aO]
theorem R1 (l l':List (Br Tm)):aI (l++l')=aI l+aI l':=by
 induction l<;>grind [aI]
theorem agY:aq [⟨0,1⟩]:=fun c hc=>by grind [ag0]
theorem ux (hk:F3 k) {t a:Tm} {sys:List (Br Tm)} (ht:Fm t) (ha:Fm a) (hs:SyF sys) {x:Tm} (h:amg t a sys= .ok x):In k x∧0≤x.kind:=by
 obtain ⟨t',h1,h⟩:=i8 h
 obtain ⟨a',h2,h⟩:=i8 h
 obtain ⟨l,h3,h⟩:=i8 h
 obtain ⟨a2,h4,h⟩:=i8 h
 injection h with h;subst h
 have f1:=mD (by omega) ht h1
 have f2:=mD (by omega) ha h2
 have f4:=mD (by omega) ha h4
 obtain ⟨i1,i2,i3,i4⟩:=acR hs.kid h3
 have:=hs.len;have:=f1.dep;have:=f2.dep;have:=f4.dep;have:=f1.siz;have:=f2.siz;have:=f4.siz
 have hm:sys.length*20001≤20000*20001:=Nat.mul_le_mul_right _ hs.len
 refine ⟨⟨?_,hk.fd ?_, ?_⟩,(by decide:(0:Int)≤15)⟩
 ·rw [OkT,aZ,aZ,aZ]
  refine ⟨⟨by unfold aG;omega,by unfold aG;omega,by simp,fun c hc=>(by cases hc),by simp,by simp,by grind⟩,⟨f1.ok,f2.ok,trivial⟩,NQ i1 ?_⟩
  rw [ba,ba,fc,aZ,aZ]
  exact ⟨⟨⟨agY,by simp,by simp⟩,f4.ok,trivial⟩,trivial⟩
 all_goals grind [am,aH,zF,aO,eB,au,ay,R1,aI,fG]
theorem uI (hk:F3 k) (ret:Tm×Int→Option S) {a:Tm} {q:Int×Int×ByteArray×List Tm} {sys:List (Br Tm)} {c:Int} (hc:c≠0) (hsl:sys.length<1073741824):
  ∀ (r p acc:List (Br Tm)) (m:Nat),sys=p++r→0<m→acc.length<1073741824→gM k ret a q sys m c acc (p.length:Int)=ret (ao,c):=by
 intro r p acc m h hm ha
 obtain ⟨m,rfl⟩: ∃j,m=j+1:=⟨m-1,by omega⟩
 have hr: ∀ (b:Br Tm) (f:Unit→Option S),Option.bind (aw 1099511627776 acc.length [b].length) f=f ():=fun b f=>J5 (by grind) f
 cases r with
 |nil=>grind [gM,oQ,ad,ar,ag,Hh,rG]
 |cons x r=>
  obtain ⟨e1,e2,e3,e4⟩:=j3 h (by omega)
  grind [gM,oQ,ae,de,gn,ar,ag,Hh,rG]
theorem aeQ (hk:F3 k) (ret:Tm×Int→Option S) {a:Tm} (ha:Fm a) {q:Int×Int×ByteArray×List Tm} {sys:List (Br Tm)} (hsl:sys.length<1073741824) (hs: ∀b∈sys,b.kids=[AK b]∧Fm (AK b)∧aq b.face∧b.face.length<1073741824):
  ∀ (r p acc:List (Br Tm)) (m:Nat),sys=p++r→r.length<m→acc.length+r.length<1073741823→
   gM k ret a q sys m 0 acc (p.length:Int)=eE (bE (gK r) fun l=>bE (J6 0 2 a) fun a2=> .ok (l++[.mk [⟨0,1⟩] [a2]])) (fun l=>eQ k (.mk q.1 q.2.1 q.2.2.1 [] q.2.2.2 (acc++l)) 0 fun z=>ret (z.1,z.2.1)) fun e=>ret (ao,e):=by
 intro r
 induction r with
 |nil=>
  intro p acc m h hm hacc
  obtain ⟨m,rfl,hm'⟩:=i9 hm
  have hr: ∀ (b:Br Tm) (f:Unit→Option S),Option.bind (aw 1099511627776 acc.length [b].length) f=f ():=fun b f=>J5 (by grind) f
  have hup: ∀g:Tm×Int→Option S,hU k a 0 2 0 g=g (tE (J6 0 2 a)):=fun g=>RW hk ha (by omega) (by omega) g
  simp only [gM,oQ,akb h,ad,ag hk.fu,ar,hup,hr,gK,aD]
  cases hu:J6 0 2 a with
  |error e=>
   have he:=al3 hu
   show eQ k _ e _=ret (ao,e)
   grind [rG]
  |ok a2=>rfl
 |cons x r ih=>
  intro p acc m h hm hacc
  obtain ⟨m,rfl,hm'⟩:=i9 hm
  obtain ⟨e1,e2,e3,e4⟩:=j3 h (by omega)
  obtain ⟨x1,x2,x3,x4⟩:=hs x (by grind)
  have hg:af x.kids 0=some (AK x):=by rw [x1];rfl
  have hr: ∀ (b:Br Tm) (f:Unit→Option S),Option.bind (aw 1099511627776 acc.length [b].length) f=f ():=fun b f=>J5 (by grind) f
  have hrow: ∀g:List Cl×Int→Option S,tA k x.face 0 g=g (agS x.face 0 1):=fun g=>ajX hk x3 x4 g
  simp only [gM,oQ,e1,ae,e2,Option.bind_some,ag hk.fu,de,gn,bG,show decide ((0:Int)=0)=true from rfl,Bool.not_true,ad,ar,hrow,hg,hr]
  rw [gK,AS,AS]
  by_cases h1:(agS x.face 0 1).2=0
  ·rw [jF h1,aP,h1,Rd hk x2 QD,AS]
   cases h2:di [⟨3,0⟩] (AK x) with
   |error e=>
    have he:=li h2
    rw [e3]
    exact uI hk ret (show e≠0 by omega) hsl r (p++[x]) _ m e4 (by grind) (by grind)
   |ok u=>
    rw [aP,e3]
    refine (ih (p++[x]) (acc++[.mk (agS x.face 0 1).1 [u]]) m e4 hm' (by grind)).trans ?_
    rw [AS,AS]
    refine ad3 (fun l _=> ?_) fun _ _=>rfl
    grind [AS,aP]
  ·rw [iO h1,ai2 h1 hk,e3]
   exact uI hk ret h1 hsl r (p++[x]) _ m e4 (by grind) (by grind)
theorem aiO (hk:F3 k) {t a:Tm} {sys:List (Br Tm)} (ht:In k t) (ha:In k a) (hs:In k (J4 sys)) (ret:Tm×Int→Option S):yy k t a sys ret=ret (tE (soE [t,a,J4 sys] (amg t a sys))):=by
 have hin: ∀x∈[t,a,J4 sys],In k x:=fun x hx=>by
  grind
 have hfm:alE [t,a,J4 sys]=0→ ∀x∈[t,a,J4 sys],Fm x:=fun h=>wh (fun x hx=>(hin x hx).1) h
 have hsl:sys.length<1073741824:=hs.1.node.2.2.2.2.2.2
 have hb: ∀g:Int→Option S,m9 k [t,a,.mk 15 0 ByteArray.empty [] [.mk 3 0 ByteArray.empty [] [] [],.mk 3 0 ByteArray.empty [] [] []] sys] g=g (alE [t,a,J4 sys]):=fun g=>Re hk hin (by simp) g
 simp only [yy,Hr,ag hk.fu,ar,RY hk.fu,hb,hX,wm,RV hk (fun h=>hfm h t (by simp)) (show (0:Int)≤0∧(0:Int)≤1000000 by omega) (show (0:Int)≤1∧(1:Int)<9223372036854775808 by omega),
  RV hk (fun h=>hfm (ak3 h) a (by simp)) (show (0:Int)≤0∧(0:Int)≤1000000 by omega) (show (0:Int)≤1∧(1:Int)<9223372036854775808 by omega)]
 unfold soE
 have hfuel:sys.length<k:=by omega
 by_cases h0:alE [t,a,J4 sys]=0
 ·have fl:=hfm h0 t (by simp)
  have fa:=hfm h0 a (by simp)
  have sy:=iQ (hfm h0 (J4 sys) (by simp))
  have hlen:=sy.len
  rw [h0,if_pos rfl,T9]
  have hret:ret (tE (al_ (amg t a sys)))=eE (amg t a sys) (fun t=>eQ k t 0 fun z=>ret (z.1,z.2.1)) fun e=>ret (ao,e):=by
   unfold al_
   rw [amt _ ret,AS]
   refine ad3 (fun t ht=> ?_) fun _ _=>rfl
   rw [←amt _ ret]
   exact ((Rk hk (t:=t) (c:=0) (fun _=>(ux hk fl fa sy ht).1) ret).trans rfl).symm
  rw [hret]
  unfold amg
  rw [AS]
  cases h1:J6 0 1 t with
  |error e=>
   have he:=al3 h1
   show gM k ret a _ sys k (mE e 0 1 a).2 [] 0=ret (ao,e)
   rw [wz (show e≠0 by omega)]
   exact uI hk ret (show e≠0 by omega) hsl sys [] [] k rfl (by omega) (by simp)
  |ok t'=>
   rw [aP,AS]
   show gM k ret a (15,0,ByteArray.empty,[t',(mE 0 0 1 a).1]) sys k (mE 0 0 1 a).2 [] 0=_
   rw [T9]
   cases h2:J6 0 1 a with
   |error e=>
    have he:=al3 h2
    exact uI hk ret (show e≠0 by omega) hsl sys [] [] k rfl (by omega) (by simp)
   |ok a'=>
    rw [aP]
    refine (aeQ hk ret fa hsl sy.kid sys [] [] k rfl hfuel (by grind)).trans ?_
    rw [AS,AS]
    refine ad3 (fun l _=> ?_) fun _ _=>rfl
    rw [AS,AS]
    rfl
 ·rw [if_neg h0,wz h0]
  show gM k ret a _ sys k (mE (alE [t,a,J4 sys]) 0 1 a).2 [] 0=_
  rw [wz h0]
  exact uI hk ret h0 hsl sys [] [] k rfl (by omega) (by simp)
end Go.Proofs.YtfkkpkhfjpaafaaGreatDoor
namespace Go.Proofs.YtfkkpkhfjpaafaaGreatDoor
open Go PI
set_option linter.unusedVariables false
set_option linter.unusedSimpArgs false
set_option maxRecDepth 20000
variable {S:Type} {k:Nat}
def mM (c:Int) (x:Except Int Tm):Tm×Int:=if c=0 then tE x else (ao,c)
theorem kR (x:Except Int Tm):mM 0 x=tE x:=rfl
theorem n9 {c:Int} (h:c≠0) (x:Except Int Tm):mM c x=(ao,c):=if_neg h
theorem rJ (t:Tm) (e c:Int) (ret:Tm×Int→Option S):fP k t e c ret=ret (if c=0 then (if e=0 then (t,0) else (ao,e)) else (ao,c)):=by
 simp only [fP,S9,ar]
 by_cases hc:c=0
 ·subst hc
  rw [show ((0:Int)==0)=true from rfl,ae,if_pos rfl]
  by_cases he:e=0
  ·subst he;rfl
  ·rw [dj he,Bool.not_false,ae,if_neg he];rfl
 ·rw [dj hc,ad,if_neg hc,Bool.not_false,ae];rfl
theorem Lw (x:Except Int Tm) (hx: ∀e,x= .error e→e≠0) (c:Int):(if c=0 then (if (tE x).2=0 then ((tE x).1,(0:Int)) else (ao,(tE x).2)) else (ao,c))=mM c x:=by
 unfold mM
 split
 ·cases x with
  |ok t=>rfl
  |error e=>rw [if_neg (show (tE (.error e)).2≠0 from hx e rfl)];rfl
 ·rfl
theorem Az {f:(Tm×Int→Option S)→Option S} {x:Except Int Tm} (c:Int) (hf:c=0→ ∀g,f g=g (tE x)) (hx: ∀e,x= .error e→e≠0) (ret:Tm×Int→Option S):
  (ab (!(c==0)) (ret (ao,c)) (f fun r=>ret (if c=0 then (if r.2=0 then (r.1,0) else (ao,r.2)) else (ao,c))))=ret (mM c x):=by
 by_cases hc:c=0
 ·subst hc
  rw [show (!((0:Int)==0))=false from rfl,ad,hf rfl,←Lw x hx 0]
 ·rw [dj hc,Bool.not_false,ae,n9 hc]
theorem FP {x:Except Int Tm} (h: ∀e,x= .error e→0<e∧e≤1000): ∀e,x= .error e→e≠0:=fun e he=>by have:=h e he;omega
theorem ak4 {a b:Int} {t:Tm}: ∀e,wA a b t= .error e→0<e∧e≤1000:=fun e h=>z7 (fun e h=>al3 h) h
theorem aak {a b:Int} {t:Tm}: ∀e,pH a b t= .error e→0<e∧e≤1000:=fun e h=>z7 (fun e h=>amo t h) h
theorem aqn {i:Int} {r:List Cl} {t:Tm}: ∀e,an8 i r t= .error e→0<e∧e≤1000:=fun e h=>z7 (fun e h=>ws h) h
theorem wa (hk:F3 k) {t:Tm} {r:List Cl} {c:Int} (ht:c=0→In k t) (hr:RF r) (ret:Tm×Int→Option S):JL k t r c ret=ret (mM c (an8 0 r t)):=by
 simp only [JL,akG,ag hk.fu,dG,oI,ar,rJ]
 exact Az c (fun h g=>ap8 hk (ht h) (i:=0) (by decide) hr g) (FP aqn) ret
theorem vZ (hk:F3 k) {t:Tm} {c:Int} (ht:c=0→In k t) (ret:Tm×Int→Option S):JI k t c ret=ret (mM c (an8 0 [⟨0,0⟩] t)):=by
 simp only [JI,akD,ag hk.fu,pg,HM,ar,wa hk ht Qz]
theorem v6 (hk:F3 k) {t:Tm} {b c:Int} (ht:c=0→In k t) (hb:0≤b∧b<1000) (ret:Tm×Int→Option S):JJ k t b c ret=ret (mM c (pH 1 b t)):=by
 simp only [JJ,akE,ag hk.fu,dG,oI,ar,rJ]
 exact Az c (fun h g=>aiM hk (ht h) (f:=1) (b:=b) (by decide) (by omega) g) (FP aak) ret
theorem ajn (hk:F3 k) {t:Tm} {a b c:Int} (ht:c=0→In k t) (ha:0≤a∧a<1000) (hb:0≤b∧b<1000) (ret:Tm×Int→Option S):zb k t a b c ret=ret (mM c (wA a b t)):=by
 simp only [zb,S8,ag hk.fu,dG,oI,ar,rJ]
 exact Az c (fun h g=>aiH hk (ht h) (vb:=a) (db:=b) (by omega) (by omega) g) (FP ak4) ret
theorem v_ (hk:F3 k) {f:List Cl} {b c:Int} (hf:aq f) (hl:f.length<1073741824) (hb:0≤b∧b<1000) (ret:List Cl×Int→Option S):JK k f b c ret=ret (if c=0 then agS f 0 b else ([],c)):=by
 simp only [JK,akF,ag hk.fu,dG,oI,ar,rJ]
 by_cases hc:c=0
 ·subst hc
  rw [show (!((0:Int)==0))=false from rfl,ad,vX hk.fu hf hl (by unfold aG;omega) (by unfold aG;omega),if_pos rfl,if_pos rfl]
  split
  ·rename_i h;rw [show agS f 0 b=((agS f 0 b).1,(agS f 0 b).2) from rfl,h]
  ·rfl
 ·rw [dj hc,Bool.not_false,ae,if_neg hc]
def dM (c:Int) (t:Tm):Tm×Int:=if c=0 then (if bw t=0 then (t,0) else (ao,bw t)) else (ao,c)
def iP (x:Except Int Tm):Tm×Bool×Int:=match x with
 | .ok t=>if bw t=0 then (t,true,0) else (ao,false,bw t)
 | .error e=>(ao,false,e)
theorem Ry (hk:F3 k) {t:Tm} {c:Int} (ht:In k t) (ret:Tm×Bool×Int×Int→Option S):ly k t c ret=ret ((dM c t).1,(dM c t).2==0,(dM c t).2,(dM c t).2):=by
 simp only [ly,S5,ag hk.fu,dG,oI,ar,rJ,amv ht.1 ht.2.1 ht.dep]
 have:OkT (dM c t).1∧Fd k (am (dM c t).1):=by
  unfold dM
  split
  ·split
   ·exact ⟨ht.1,ht.2.1⟩
   ·exact ⟨(gQ hk).1,(gQ hk).2.1⟩
  ·exact ⟨(gQ hk).1,(gQ hk).2.1⟩
 exact vU (dM c t).1 this.1 _ this.2
theorem aae {t:Tm} (g:Tm×Bool×Int→Option S):g ((dM 0 t).1,(dM 0 t).2==0,(dM 0 t).2)=g (iP (.ok t)):=by
 unfold dM iP
 simp only [if_true]
 split
 ·rfl
 ·rename_i h;rw [dj h]
theorem JF {c:Int} (h:c≠0) {t:Tm} (g:Tm×Bool×Int→Option S):g ((dM c t).1,(dM c t).2==0,(dM c t).2)=g (iP (.error c)):=by
 unfold dM iP
 rw [if_neg h,dj h]
end Go.Proofs.YtfkkpkhfjpaafaaGreatDoor
namespace Go.Proofs.YtfkkpkhfjpaafaaGreatDoor
open Go PI
set_option linter.unusedVariables false
set_option linter.unusedSimpArgs false
set_option maxRecDepth 20000
abbrev En:=Nat→Prop
def hp (c:Cl) (j:Nat):Prop:=c.pos.toNat.testBit j=true
def hn (c:Cl) (j:Nat):Prop:=c.neg.toNat.testBit j=true
theorem apD (a b:Cl) (j:Nat):hp (d9 a b) j↔hp a j∨hp b j:=by
 simp_all [hp,d9,ep]
theorem apA (a b:Cl) (j:Nat):hn (d9 a b) j↔hn a j∨hn b j:=by
 simp_all [hn,d9,ep]
end Go.Proofs.YtfkkpkhfjpaafaaGreatDoor
namespace Go.Proofs.YtfkkpkhfjpaafaaGreatDoor
open Go PI
set_option linter.unusedVariables false
set_option linter.unusedSimpArgs false
set_option maxRecDepth 20000
theorem aoM {c:Cl} (h:RC c) {j:Nat} (hj:hp c j):j<24:=oZ (by have:=h.1;omega) hj
theorem aoL {c:Cl} (h:RC c) {j:Nat} (hj:hn c j):j<24:=oZ (by have:=h.2;omega) hj
theorem ao3 {s:Int} {n:Nat} (hn:n<24) (j:Nat):(alW s (n:Int)).toNat.testBit j=(s.toNat.testBit j&&decide (j<24)&& !decide (j=n)):=by
 unfold alW
 rw [if_pos (by omega),Int.toNat_natCast,Int.toNat_natCast,mm,Nat.testBit_and,g8,Nat.testBit_two_pow]
 grind
def wB (P:En) (n:Nat) (A:Prop):En:=fun j=>(j≠n∧P j)∨(j=n∧A)
theorem apE (n:Nat) (hn24:n<24) (j:Nat): ¬hp (nl n) j:=by
 unfold hp nl;simp
theorem apB (n:Nat) (hn24:n<24) (j:Nat):hn (nl n) j↔j=n:=by
 grind [hn,nl,aln]
theorem apF (n:Nat) (hn24:n<24) (j:Nat):hp (pl n) j↔j=n:=by
 grind [hp,pl,aln]
theorem apC (n:Nat) (hn24:n<24) (j:Nat): ¬hn (pl n) j:=by
 unfold hn pl;simp
end Go.Proofs.YtfkkpkhfjpaafaaGreatDoor
namespace Go.Proofs.YtfkkpkhfjpaafaaGreatDoor
open Go PI
set_option linter.unusedVariables false
set_option linter.unusedSimpArgs false
set_option maxRecDepth 20000
def iy (n x:Nat):Nat:=if n<x then x-1 else x
theorem ma {s:Int} {n:Nat} (hn24:n<24) (h:0≤s∧s<16777216) (y:Nat):(pI s (n:Int)).toNat.testBit y=true↔ ∃x,s.toNat.testBit x=true∧x≠n∧iy n x=y:=by
 have hs:s.toNat<16777216:=by omega
 have hM:s.toNat&&&M24=s.toNat:=by
  apply Nat.eq_of_testBit_eq
  grind [g8,oZ]
 unfold pI
 rw [Int.toNat_natCast]
 unfold j7
 rw [if_pos (by omega),Int.toNat_natCast,hM,Nat.testBit_or,Dl,Nat.testBit_mul_two_pow,Nat.testBit_div_two_pow,Bool.or_eq_true,Bool.and_eq_true,Bool.and_eq_true,decide_eq_true_eq,decide_eq_true_eq]
 unfold iy
 grind
theorem aoF {s:Int} {n b:Nat} (h:0≤s∧s<16777216) (h0:(alS s n b).2=0) (y:Nat):(alS s n b).1.toNat.testBit y=true↔ ∃x,s.toNat.testBit x=true∧up1 n b x=y:=by
 have hs:s.toNat<16777216:=by omega
 unfold alS at h0 ⊢
 rw [if_neg (by omega)] at h0 ⊢
 simp only [Int.toNat_natCast] at h0 ⊢
 rw [Fg] at h0 ⊢
 split at h0<;>grind [up1,oY,oG,mem_bitsN,oZ]
theorem apV {c:Cl} {n b:Nat} (h0:(dw c n b).2=0):(alS c.pos n b).2=0∧(alS c.neg n b).2=0∧(dw c n b).1=⟨(alS c.pos n b).1,(alS c.neg n b).1⟩:=by
 grind [dw]
theorem apw {n b:Nat}: ∀ {l h:List Cl},(adU (dK n b) h l).2=0→(adU (dK n b) h l).1=h++l.map (fun c=>(dw c n b).1)∧ ∀c∈l,(dw c n b).2=0:=by
 intro l
 induction l<;>grind [adU,dK]
end Go.Proofs.YtfkkpkhfjpaafaaGreatDoor
namespace Go.Proofs.YtfkkpkhfjpaafaaGreatDoor
open Go PI
set_option linter.unusedVariables false
set_option linter.unusedSimpArgs false
set_option maxRecDepth 20000
def RX (fa:Bool) (f:List Cl):Prop:=RF f∧(fa=true→ ∀c∈f,bS c=false)
def aoc (fa:Bool) (f:List Cl) (i:Int) (r:List Cl):List Cl×Int:=if fa then iG f i r else iH f i r
theorem ap2 {fa:Bool} {f r:List Cl} {i:Int} (hf:aq f) (hr:aq r) (h:(aoc fa f i r).2=0):RX fa (aoc fa f i r).1:=by
 unfold aoc at h ⊢
 cases fa
 ·exact ⟨ahR hr h,fun h=>by cases h⟩
 ·have:=ahO hf hr h
  exact ⟨this.1,fun _=>this.2⟩
def an7 (f:List Cl) (n:Nat):Prop:= ∀c∈f,¬hp c n∧ ¬hn c n
def same (n:Nat) (P P':En):Prop:= ∀j,j≠n→(P j↔P' j)
theorem same.symm {n:Nat} {P P':En} (h:same n P P'):same n P' P:=fun j hj=>(h j hj).symm
def ins (P:En) (n:Nat):En:=fun x=>x≠n∧P (iy n x)
theorem aqs {f:List Cl} {n:Nat}:jJ f n=true↔ ¬an7 f n:=by
 grind [jJ,an7,hp,hn]
theorem has_dims {f:List Cl} {n:Nat}:bP (ie f) (n:Int)=true↔n<24∧ ¬an7 f n:=by
 grind [bP,ie,Int.toNat_natCast,D7,aqs]
end Go.Proofs.YtfkkpkhfjpaafaaGreatDoor
namespace Go.Proofs.YtfkkpkhfjpaafaaGreatDoor
open Go PI
set_option linter.unusedVariables false
set_option linter.unusedSimpArgs false
set_option maxRecDepth 20000
theorem nT {f:List Cl} (hf:RF f) {i:Int} (hi:24≤i):ac2 i f=f:=by
 have: ∀c∈f,jU i c=c:=fun c hc=>by
  obtain ⟨p,q⟩:=c
  obtain ⟨h1,h2⟩:=hf.rc hc
  grind [jU,pI,j7,ZC]
 unfold ac2
 rw [show f.map (jU i)=f from (List.map_congr_left this).trans (List.map_id f),hf.1]
theorem apR {l:List Cl}:(bp l).1.length≤l.length:=by
 grind [bp,agM]
end Go.Proofs.YtfkkpkhfjpaafaaGreatDoor
namespace Go.Proofs.YtfkkpkhfjpaafaaGreatDoor
open Go PI
set_option linter.unusedVariables false
set_option linter.unusedSimpArgs false
set_option maxRecDepth 20000
theorem aqh (j:Nat):hp ⟨6,0⟩ j↔j=1∨j=2:=by
 show (6:Nat).testBit j=true↔_
 grind [Nat]
theorem aom (p:Int) (j:Nat): ¬hn ⟨p,0⟩ j:=by
 grind [hn]
theorem apS {f:List Cl} {i b:Int}:(agS f i b).1.length≤f.length:=by
 unfold agS
 split
 ·split
  ·refine Nat.le_trans apR ?_
   have:=(KH (i:=i) (b:=b) (r:=f) (h:=[]) (fun c hc=>by cases hc)).2
   grind
  ·simp
 ·simp
end Go.Proofs.YtfkkpkhfjpaafaaGreatDoor
namespace Go.Proofs.YtfkkpkhfjpaafaaGreatDoor
open Go PI
set_option linter.unusedVariables false
set_option linter.unusedSimpArgs false
set_option maxRecDepth 20000
abbrev Zp:=Bool→Int→List Cl→List Cl→Prop
abbrev Zo:=Int→List Cl→List Cl→Prop
mutual
def mY (pl:Bool):Tm→Prop
 | .mk kd n nm r ks sys=>RX (decide (kd=14)) r∧mX pl ks∧si pl sys
def mX (pl:Bool):List Tm→Prop
 |[]=>True
 |t::l=>mY pl t∧mX pl l
def si (pl:Bool):List (Br Tm)→Prop
 |[]=>True
 |b::l=>Ji pl b∧si pl l
def Ji (pl:Bool):Br Tm→Prop
 | .mk f ks=>(RX true f∧(pl=true→f≠[]))∧mX pl ks
end
section
variable {pl:Bool} {c vb db kd:Int} {fo fa:dC} {Ro Ro':Zp} {Rb Rb':Zo}
end
theorem aoh {d:Int} (h:0≤d): ∃n:Nat,d=n:=⟨d.toNat,by omega⟩
theorem apv {r:List Cl} {fa:Bool} {d:Int} {f:List Cl} (h:foX 0 r fa d []= .ok f):f=[]:=by
 grind [acV]
end Go.Proofs.YtfkkpkhfjpaafaaGreatDoor
namespace Go.Proofs.YtfkkpkhfjpaafaaGreatDoor
open Go PI
set_option linter.unusedVariables false
set_option linter.unusedSimpArgs false
set_option maxRecDepth 20000
variable {S:Type} {k:Nat}
def FQ (sys:List (Br Tm)):Bool:=sys.any fun b=>(b.face.length:Int)==0
mutual
def oq:Tm→Bool
 | .mk _ _ _ _ ks sys=> !FQ sys&&(ot ks&&AF sys)
def ot:List Tm→Bool
 |[]=>true
 |t::l=>oq t&&ot l
def AF:List (Br Tm)→Bool
 |[]=>true
 |b::l=>NZ b&&AF l
def NZ:Br Tm→Bool
 | .mk _ ks=>ot ks
end
theorem Q1 {f:List Cl} (hf:aq f) (h:cV f=true):RX true f:=by
 have:=(oB hf).1 h
 exact ⟨this.1,fun _=>this.2⟩
theorem FY {vars dims kd n nm r ks sys} (hok:OkT (.mk kd n nm r ks sys)) (h:cL vars dims (.mk kd n nm r ks sys)=true):RX (decide (kd=14)) r∧ ∀b∈sys,RX true b.face:=by
 obtain ⟨o1,o2,o3,o4,o5,o6,o7⟩:=hok.node
 unfold cL at h
 simp only [Bool.and_eq_true,decide_eq_true_eq] at h
 obtain ⟨⟨a1,a2,a3,a4⟩,a5⟩:=h
 have r0:r.length=0→RX (decide (kd=14)) r:=fun h=>by
  have:=List.length_eq_zero_iff.1 h;subst this;exact ⟨rA,fun _ c hc=>by cases hc⟩
 have nosys:cz kd=0→ ∀b∈sys,RX true b.face:=fun h=>by
  grind
 split at a5
 ·rename_i c
  simp only [Bool.and_eq_true,decide_eq_true_eq] at a5
  exact ⟨r0 a5.1,nosys (by subst c;decide)⟩
 split at a5
 ·rename_i c
  simp only [Bool.and_eq_true,decide_eq_true_eq] at a5
  exact ⟨r0 a5.1,nosys (by subst c;decide)⟩
 split at a5
 ·rename_i c
  rw [Bool.and_eq_true] at a5
  exact ⟨⟨(fF o4).1 a5.1,fun h=>by grind⟩,nosys (by rcases c with rfl|rfl|rfl<;>decide)⟩
 split at a5
 ·rename_i c
  rw [Bool.and_eq_true] at a5
  subst c
  exact ⟨Q1 o4 a5.1,nosys (by decide)⟩
 ·simp only [Bool.and_eq_true,decide_eq_true_eq] at a5
  refine ⟨r0 a5.2,fun b hb=> ?_⟩
  have:=List.all_eq_true.1 a5.1 b hb
  unfold bX at this
  simp only [Bool.and_eq_true] at this
  exact Q1 (hok.br hb).1.1 this.2.1
theorem Zz {bd pl:Bool} (t:Tm): ∀ {vars dims:Int},OkT t→a6 bd vars dims t=true→(pl=true→oq t=true)→mY pl t:=by
 induction t using gq with
 |h kd n nm r ks sys ih1 ih2=>
  intro vars dims hok h hp
  rw [a6,Bool.and_eq_true,Bool.and_eq_true,Bool.and_eq_true] at h
  obtain ⟨_,a,b,c⟩:=h
  obtain ⟨hr,hb⟩:=FY hok a
  have hok':=hok
  rw [OkT] at hok'
  obtain ⟨_,ok,os⟩:=hok'
  rw [oq] at hp
  simp only [Bool.and_eq_true,Bool.not_eq_true'] at hp
  have hk: ∀ {l:List Tm} {i:Nat},(∀x∈l,∀ {vars dims:Int},OkT x→a6 bd vars dims x=true→(pl=true→oq x=true)→mY pl x)→aZ l→bO bd vars dims kd i l=true→(pl=true→ot l=true)→mX pl l:=by
   intro l
   induction l<;>grind [bO,mX,ot,aZ]
  have hm: ∀ {l:List Tm},(∀x∈l,∀ {vars dims:Int},OkT x→a6 bd vars dims x=true→(pl=true→oq x=true)→mY pl x)→aZ l→ca bd vars dims kd l=true→(pl=true→ot l=true)→mX pl l:=by
   intro l
   induction l<;>grind [ca,mX,ot,aZ]
  have hs: ∀ {l:List (Br Tm)},(∀b∈l,∀x∈b.kids,∀ {vars dims:Int},OkT x→a6 bd vars dims x=true→(pl=true→oq x=true)→mY pl x)→ba l→(∀b∈l,RX true b.face)→ck bd vars dims kd l=true→(pl=true→FQ l=false∧AF l=true)→si pl l:=by
   intro l
   induction l with
   |nil=>grind [si]
   |cons b l ih=>
    intro h1 h2 h3 h4 h5
    obtain ⟨f,ks'⟩:=b
    rw [ba] at h2
    rw [fc] at h2
    rw [ck,jT,Bool.and_eq_true] at h4
    rw [FQ,List.any_cons,Bool.or_eq_false_iff,AF,NZ,Bool.and_eq_true] at h5
    rw [si,Ji]
    refine ⟨⟨⟨h3 ⟨f,ks'⟩ (by simp),fun e he=> ?_⟩,hm (h1 ⟨f,ks'⟩ (by simp)) h2.1.2 h4.1 fun e=>(h5 e).2.1⟩,ih (fun b hb=>h1 b (by simp [hb])) h2.2 (fun b hb=>h3 b (by simp [hb])) h4.2 fun e=>⟨(h5 e).1.2,(h5 e).2.2⟩⟩
    grind
  grind [mY]
theorem Fm.pl {t:Tm} {pl:Bool} (h:Fm t) (hp:pl=true→oq t=true):mY pl t:=by
 have:=h.2
 unfold bw at this
 split at this
 ·simp_all
 split at this
 ·simp_all
 split at this
 ·rename_i h3;exact Zz t h.1 h3 hp
 omega
end Go.Proofs.YtfkkpkhfjpaafaaGreatDoor
namespace Go.Proofs.YtfkkpkhfjpaafaaGreatDoor
open Go PI
set_option linter.unusedVariables false
set_option linter.unusedSimpArgs false
set_option maxRecDepth 20000
variable {S:Type} {k:Nat}
theorem Zx {kd d:Int}: ∀ {l:List Tm} {i:Nat} {x:Tm},24≤d→bO false (-1) d kd i l=true→x∈l→a6 false (-1) 24 x=true:=by
 intro l
 induction l with
 |nil=>intro i x _ _ h;cases h
 |cons t l ih=>
  intro i x hd h hx
  rw [bO,Bool.and_eq_true] at h
  rcases List.mem_cons.1 hx with rfl|hx
  ·have:=h.1
   rw [B2,m0 x (by have:=gr kd i;omega) (Int.le_refl 24)] at this;exact this
  ·exact ih hd h.2 hx
theorem Fm.kid {t x:Tm} (h:Fm t) (hx:x∈t.kids):Fm x:=by
 obtain ⟨h1,h2,h3⟩:=eU h.2
 have hd:=bY hx
 have hs:au x≤au t:=by have:=Hl t;have:=k_ hx;omega
 refine ⟨h.1.ki hx,pS (by omega) (by omega) ?_⟩
 obtain ⟨kd,n,nm,r,ks,sys⟩:=t
 rw [a6] at h3
 simp only [Bool.false_and,Bool.not_false,Bool.true_and,Bool.and_eq_true] at h3
 exact Zx (Int.le_refl 24) h3.2.1 hx
theorem Fm.brk {t x:Tm} {b:Br Tm} (h:Fm t) (hb:b∈t.sys) (hx:x∈b.kids):Fm x:=by
 obtain ⟨h1,h2,h3⟩:=eU h.2
 have hd:=b8 hb hx
 have hs:au x≤au t:=by have:=Hl t;have:=we hb;have:=k_ hx;omega
 refine ⟨(h.1.bi hb).2 x hx,pS (by omega) (by omega) ?_⟩
 obtain ⟨kd,n,nm,r,ks,sys⟩:=t
 rw [a6] at h3
 simp only [Bool.false_and,Bool.not_false,Bool.true_and,Bool.and_eq_true] at h3
 have:=h3.2.2
 rw [wH,List.all_eq_true] at this
 have:=List.all_eq_true.1 (this b hb) x hx
 rw [m0 x (by have:=dy kd;omega) (Int.le_refl 24)] at this;exact this
theorem Fm.own {t:Tm} (h:Fm t):cL (-1) 24 t=true:=by
 have h3:=(eU h.2).2.2
 cases t
 rw [a6] at h3
 simp only [Bool.false_and,Bool.not_false,Bool.true_and,Bool.and_eq_true] at h3
 exact h3.1
theorem Fm.nk {t:Tm} (h:Fm t):ct t.kind=t.kids.length:=by
 have:=h.own
 cases t
 unfold cL at this
 simp only [Bool.and_eq_true,decide_eq_true_eq] at this
 exact this.1.1
theorem Fm.n0 {t:Tm} (h:Fm t) (hk:t.kind≠1):t.n=0:=by
 have:=h.own
 cases t
 unfold cL at this
 simp only [Bool.and_eq_true,decide_eq_true_eq] at this
 exact this.1.2.1.resolve_left hk
theorem ZI {b:ByteArray} (h:b.size=0):b=ByteArray.empty:=by
 obtain ⟨⟨l⟩⟩:=b
 cases l with
 |nil=>rfl
 |cons c l=>cases h
theorem Fm.nm0 {t:Tm} (h:Fm t) (hk:t.kind≠2):t.name=ByteArray.empty:=by
 have:=h.own
 cases t
 unfold cL at this
 simp only [Bool.and_eq_true,decide_eq_true_eq] at this
 exact ZI (this.1.2.2.1.resolve_left hk)
theorem Fm.r14 {t:Tm} (h:Fm t) (hk:t.kind=14):RX true t.r:=by
 have:=FY (kd:=t.kind) (n:=t.n) (nm:=t.name) (r:=t.r) (ks:=t.kids) (sys:=t.sys) (by cases t;exact h.1) (by have:=h.own;cases t;exact this)
 have h1:=this.1
 rw [hk] at h1;exact h1
theorem Fm.face {t:Tm} {b:Br Tm} (h:Fm t) (hb:b∈t.sys):RX true b.face:=by
 have:=FY (kd:=t.kind) (n:=t.n) (nm:=t.name) (r:=t.r) (ks:=t.kids) (sys:=t.sys) (by cases t;exact h.1) (by have:=h.own;cases t;exact this)
 exact this.2 b hb
theorem ED {α:Type} {l:List α} {n:Nat} {i:Int} (hi:i=n) {x:α} (h:l[n]? =some x):af l i=some x:=by subst hi;rw [pU];exact h
end Go.Proofs.YtfkkpkhfjpaafaaGreatDoor
namespace Go.Proofs.YtfkkpkhfjpaafaaGreatDoor
open Go PI
set_option linter.unusedVariables false
set_option linter.unusedSimpArgs false
set_option maxRecDepth 20000
variable {S:Type} {k:Nat}
theorem Dw (n:Int) (b:Br Tm) (l:List (Br Tm)):cv n (b::l)=dc n b.kids+cv n l:=by cases b;rw [cv,Dv]
theorem tz (n:Int) (t:Tm):ac4 n t=(if t.kind=1∧t.n=n then 1 else 0)+(cE n t.kind 0 t.kids+cv n t.sys):=by cases t;rw [ac4];rfl
theorem Z7 {kd:Int}: ∀ {l:List Tm} {i:Nat} {n:Int},(∀x∈l,∀n,ac4 n x≤au x)→cE n kd i l≤ay l:=by
 intro l
 induction l with
 |nil=>intro i n _;rw [cE,ay];omega
 |cons x l ih=>intro i n h;rw [cE,ay];have:=h x (by simp) (n+bz kd i);have:=ih (i:=i+1) (n:=n) fun x hx=>h x (by simp [hx]);omega
theorem Z8: ∀ {l:List Tm} {n:Int},(∀x∈l,∀n,ac4 n x≤au x)→dc n l≤ay l:=by
 intro l
 induction l with
 |nil=>intro n _;rw [dc,ay];omega
 |cons x l ih=>intro n h;rw [dc,ay];have:=h x (by simp) n;have:=ih (n:=n) fun x hx=>h x (by simp [hx]);omega
theorem Z9: ∀ {l:List (Br Tm)} {n:Int},(∀b∈l,∀x∈b.kids,∀n,ac4 n x≤au x)→cv n l≤aI l:=by
 intro l
 induction l with
 |nil=>intro n _;rw [cv,aI];omega
 |cons b l ih=>intro n h;rw [Dw,aI,kZ];have:=Z8 (n:=n) (h b (by simp));have:=ih (n:=n) fun x hx=>h x (by simp [hx]);omega
theorem yr (t:Tm): ∀n,ac4 n t≤au t:=by
 induction t using c7 with
 |h t ih1 ih2=>
  intro n
  rw [tz,rM]
  have:=Z7 (kd:=t.kind) (i:=0) (n:=n) ih1
  have:=Z9 (n:=n) ih2
  split<;>omega
theorem Fm.no_sys {t:Tm} (h:Fm t) (hk:cz t.kind=0):t.sys=[]:=by
 have:=h.own
 cases t
 unfold cL at this
 simp only [Bool.and_eq_true,decide_eq_true_eq] at this
 exact List.length_eq_zero_iff.1 (this.1.2.2.2 hk)
theorem Fm.leaf {t:Tm} (h:Fm t) (hk:t.kind=1):t.kids=[]∧t.sys=[]:=by
 have hn:=h.nk
 rw [hk] at hn
 refine ⟨List.length_eq_zero_iff.1 (by have:ct 1=0:=rfl;omega),h.no_sys (by rw [hk];rfl)⟩
section
variable {hd:Tm→Int→(Int→Option S)→Option S} {t:Tm} {n:Int}
theorem aet (hk:Fu k) (ret:Int→Option S) (rec2:Int→Int→Option S) {v:Int} {x:Br Tm} (hQ: ∀y∈x.kids,∀g,hd y n g=g ((ac4 n y:Nat):Int)) (hl:x.kids.length<1073741824):
  ∀ (r p:List Tm) (m a:Nat),x.kids=p++r→r.length<m→a+dc n r<4611686018427387904→nG hd k ret rec2 n t v x m (a:Int) (p.length:Int)=rec2 (IntKind.wrap .i64 (v+1)) ((a+dc n r:Nat):Int):=by
 intro r
 induction r with
 |nil=>grind [i9,dc,nG,xh,ad]
 |cons y r ih=>
  intro p m a h hm ha
  obtain ⟨m,rfl,hm'⟩:=i9 hm
  obtain ⟨e1,e2,e3,e4⟩:=j3 h (by omega)
  have hy:=hQ y (by grind)
  have hz:a+dc n (y::r)=(a+ac4 n y)+dc n r:=by rw [dc];omega
  rw [hz] at ha ⊢
  have hw:IntKind.wrap .i64 ((a:Int)+((ac4 n y:Nat):Int))=((a+ac4 n y:Nat):Int):=by grind [aaf]
  simp only [nG,xh,e1,ae,e2,Option.bind_some,ar,hy,e3,hw,ih (p++[y]) m (a+ac4 n y) e4 hm' ha]
theorem aes (hk:Fu k) (ret:Int→Option S) (hQ: ∀b∈t.sys,∀y∈b.kids,∀g,hd y n g=g ((ac4 n y:Nat):Int)) (hl:t.sys.length<1073741824) (hl': ∀b∈t.sys,b.kids.length<1073741824):
  ∀ (r p:List (Br Tm)) (m a:Nat),t.sys=p++r→r.length<m→a+cv n r<4611686018427387904→ku hd k ret n t m (p.length:Int) (a:Int)=ret ((a+cv n r:Nat):Int):=by
 intro r
 induction r with
 |nil=>grind [i9,cv,ku,sE,ad]
 |cons x r ih=>
  intro p m a h hm ha
  obtain ⟨m,rfl,hm'⟩:=i9 hm
  obtain ⟨e1,e2,e3,e4⟩:=j3 h (by omega)
  have hx:x∈t.sys:=by grind
  have hlx:=hl' x hx
  have hz:a+cv n (x::r)=(a+dc n x.kids)+cv n r:=by rw [Dw];omega
  rw [hz] at ha ⊢
  have:=aet (t:=t) (n:=n) (v:=(p.length:Int)) hk ret (ku hd k ret n t m) (hQ x hx) hlx x.kids [] k a rfl (by have:=hk;omega) (by omega)
  simp only [ku,sE,e1,ae,e2,Option.bind_some]
  refine Eq.trans this ?_
  rw [e3,ih (p++[x]) m (a+dc n x.kids) e4 hm' ha]
theorem aer (hk:Fu k) (ret:Int→Option S) (hn:0≤n∧n≤2199023255552) (hQ: ∀y∈t.kids,∀n',0≤n'∧n'≤n+1→ ∀g,hd y n' g=g ((ac4 n' y:Nat):Int)) (hQ': ∀b∈t.sys,∀y∈b.kids,∀g,hd y n g=g ((ac4 n y:Nat):Int)) (ht:OkT t):
  ∀ (r p:List Tm) (m a:Nat),t.kids=p++r→r.length<m→a+cE n t.kind p.length r+cv n t.sys<4611686018427387904→nF hd k ret t n m (p.length:Int) (a:Int)=ret ((a+cE n t.kind p.length r+cv n t.sys:Nat):Int):=by
 obtain ⟨o1,o2,o3,o4,o5,o6,o7⟩:=ht.no
 intro r
 induction r with
 |nil=>
  intro p m a h hm ha
  obtain ⟨m,rfl,hm'⟩:=i9 hm
  have hz:a+cE n t.kind p.length []=a:=by rw [cE];rfl
  rw [hz] at ha ⊢
  have:=aes hk ret hQ' o7 (fun b hb=>(ht.bi hb).1.2.2) t.sys [] k a rfl (by omega) ha
  grind [nF,sD,ad]
 |cons y r ih=>
  intro p m a h hm ha
  obtain ⟨m,rfl,hm'⟩:=i9 hm
  obtain ⟨e1,e2,e3,e4⟩:=j3 h (by omega)
  have hb:=g7 t.kind p.length
  have hwn:IntKind.wrap .i64 (n+bz t.kind p.length)=n+bz t.kind p.length:=by grind [aaf]
  have hy:=hQ y (by grind) (n+bz t.kind p.length) (by omega)
  have hz:a+cE n t.kind p.length (y::r)=(a+ac4 (n+bz t.kind p.length) y)+cE n t.kind (p++[y]).length r:=by rw [cE,List.length_append,List.length_singleton];omega
  rw [hz] at ha ⊢
  have hw:IntKind.wrap .i64 ((a:Int)+((ac4 (n+bz t.kind p.length) y:Nat):Int))=((a+ac4 (n+bz t.kind p.length) y:Nat):Int):=by grind [aaf]
  simp only [nF,sD,e1,ae,e2,Option.bind_some,ar,ag hk,jE,hwn,hy,e3,hw,ih (p++[y]) m (a+ac4 (n+bz t.kind p.length) y) e4 hm' ha]
end
theorem ai6 (t:Tm): ∀ {k:Nat} {n:Int} (ret:Int→Option S),Fm t→Fd k (am t)→0≤n∧n+am t≤2199023255552→gz k t n ret=ret ((ac4 n t:Nat):Int):=by
 induction t using c7 with
 |h t ih1 ih2=>
  intro k n ret ft hk hn
  obtain ⟨q,rfl,hq,hf⟩:=hk.pos' (alF t)
  have hp:=alF t
  have hz:=ft.siz
  have hc:=yr t n
  by_cases hv:t.kind=1∧t.n=n
  ·obtain ⟨l1,l2⟩:=ft.leaf hv.1
   have:ac4 n t=1:=by rw [tz,if_pos hv,l1,l2,cE,cv]
   rw [this]
   simp only [gz,BU,hv.1,hv.2,beq_self_eq_true,ae];rfl
  have hJ:Ak (gz q) q ret t n q=ret ((ac4 n t:Nat):Int):=by
   obtain ⟨j,rfl⟩: ∃j,q=j+1:=⟨q-1,by have:=hq;omega⟩
   rw [tz,if_neg hv,Nat.zero_add]
   rw [tz] at hc
   have:=aer (t:=t) (n:=n) hq ret (by omega) (fun y hy n' hn' g=>ih1 y hy g (ft.kid hy) (hf _ (bY hy)) ⟨hn'.1,by have:=bY hy;have:=ft.dep;omega⟩) (fun b hb y hy g=>ih2 b hb y hy g (ft.brk hb hy) (hf _ (b8 hb hy)) ⟨hn.1,by have:=b8 hb hy;omega⟩) ft.ok t.kids [] (j+1) 0 rfl (by have:=ft.ok.no.2.2.2.2.2.1;have:=hq;omega) (by simp;omega)
   simpa [Ak,xg] using this
  simp only [gz,BU,hJ]
  by_cases h1:t.kind=1
  ·rw [h1,beq_self_eq_true,ae,beq_false_of_ne (fun h=>hv ⟨h1,h⟩),ad]
  ·rw [beq_false_of_ne h1,ad]
section
variable {hd:Tm→Int→(Int→Option S)→Option S} {t:Tm} {n:Int}
end
end Go.Proofs.YtfkkpkhfjpaafaaGreatDoor
namespace Go.Proofs.YtfkkpkhfjpaafaaGreatDoor
open Go PI
set_option linter.unusedVariables false
set_option linter.unusedSimpArgs false
set_option maxRecDepth 20000
variable {S:Type} {k:Nat}
theorem N3 (n:Int) (u:Tm) (v d kd:Int) (b:Br Tm) (l:List (Br Tm)):dn n u v d kd (b::l)=bE (bE (amj n u v d kd b.kids) fun ks'=> .ok (.mk b.face ks')) fun b'=>bE (dn n u v d kd l) fun l'=> .ok (b'::l'):=by cases b;rw [dn,AJ]
theorem agP (t:Tm) (ret:Int→Option S):ze k t ret=ret (av t.kind):=by
 simp only [ze,Ta,av]
 by_cases h:t.kind=15
 ·rw [h];rfl
 ·rw [beq_false_of_ne h,if_neg h];rfl
theorem Fm.r1 {t:Tm} (h:Fm t) (hk:t.kind=1):t.r=[]:=by
 have:=h.own
 obtain ⟨kd,n,nm,r,ks,sys⟩:=t
 have hk:kd=1:=hk
 subst hk
 unfold cL at this
 simp only [Bool.and_eq_true,decide_eq_true_eq,if_true] at this
 exact List.length_eq_zero_iff.1 this.2.1
section
variable {hd:Tm→Int→Tm→Int→Int→(Pan Int Tm→Option S)→Option S} {t u:Tm} {n v d:Int}
theorem afl (hk:Fu k) (ret:Pan Int Tm→Option S) (rec1:List (Br Tm)→Int→Option S) {ks:List Tm} {o:List (Br Tm)} {x:Br Tm} {i:Int} (hd0:0≤d∧d<4611686018427387904) (hQ: ∀y∈x.kids,∀g:Pan Int Tm→Option S,hd y n u v (d+av t.kind) g=g (pE (akT n u v (d+av t.kind) y))) (hl:x.kids.length<1073741824) (ho:o.length<1073741824):
  ∀ (r p acc:List Tm) (m:Nat),x.kids=p++r→r.length<m→acc.length+r.length<1073741824→
   nH hd k ret rec1 t ks o x u n v d i m acc (p.length:Int)=eE (amj n u v d t.kind r) (fun l=>rec1 (o++[.mk x.face (acc++l)]) (IntKind.wrap .i64 (i+1))) fun e=>ret (.pan e):=by
 have hm1:=dy t.kind
 have hwd:IntKind.wrap .i64 (d+av t.kind)=d+av t.kind:=by grind [aaf]
 intro r
 induction r with
 |nil=>
  intro p acc m h hm ha
  obtain ⟨m,rfl,hm'⟩:=i9 hm
  simp only [nH,xj,akb h,ad,amj,aP,List.append_nil]
  rw [J5 (by simp;omega)]
 |cons y r ih=>
  intro p acc m h hm ha
  obtain ⟨m,rfl,hm'⟩:=i9 hm
  obtain ⟨e1,e2,e3,e4⟩:=j3 h (by omega)
  rw [List.length_cons] at ha
  simp only [nH,xj,e1,ae,e2,Option.bind_some,ar,ag hk,agP,hwd,hQ y (by rw [h];simp),e3,amj]
  rw [AS,ij]
  refine ad3 (fun y' _=> ?_) fun e _=>rfl
  rw [J5 (by simp;omega),ih (p++[y]) (acc++[y']) m e4 hm' (by rw [List.length_append,List.length_singleton];omega),AS]
  refine ad3 (fun l _=> ?_) fun e _=>rfl
  rw [aP,List.append_assoc];rfl
theorem afk (hk:Fu k) (ret:Pan Int Tm→Option S) {ks:List Tm} (ht:OkT t) (hd0:0≤d∧d<4611686018427387904) (hQ: ∀b∈t.sys,∀y∈b.kids,∀g:Pan Int Tm→Option S,hd y n u v (d+av t.kind) g=g (pE (akT n u v (d+av t.kind) y))):
  ∀ (r p acc:List (Br Tm)) (m:Nat),t.sys=p++r→r.length<m→acc.length+r.length<1073741824→
   kw hd k ret t ks u n v d m acc (p.length:Int)=eE (dn n u v d t.kind r) (fun l=>ret (.ok (.mk t.kind 0 t.name t.r ks (acc++l)))) fun e=>ret (.pan e):=by
 intro r
 induction r with
 |nil=>
  intro p acc m h hm ha
  obtain ⟨m,rfl,hm'⟩:=i9 hm
  simp only [kw,sG,akb h,ad,dn,aP,List.append_nil]
 |cons x r ih=>
  intro p acc m h hm ha
  obtain ⟨m,rfl,hm'⟩:=i9 hm
  have hts:=ht.no.2.2.2.2.2.2
  obtain ⟨e1,e2,e3,e4⟩:=j3 h (by omega)
  have hx:x∈t.sys:=by rw [h];simp
  obtain ⟨⟨f1,f2,f3⟩,_⟩:=ht.bi hx
  rw [List.length_cons] at ha
  simp only [kw,sG,e1,ae,e2,Option.bind_some]
  rw [J5 (by omega)]
  refine (afl (o:=acc) (i:=(p.length:Int)) hk ret (kw hd k ret t ks u n v d m) hd0 (hQ x hx) f3 (by omega) x.kids [] [] k rfl (by have:=hk;omega) (by simpa using f3)).trans ?_
  rw [N3,AS,AS]
  refine ad3 (fun l _=> ?_) fun e _=>rfl
  rw [aP,List.nil_append,e3]
  refine (ih (p++[x]) (acc++[Br.mk x.face l]) m e4 hm' (by rw [List.length_append,List.length_singleton];omega)).trans ?_
  rw [AS]
  refine ad3 (fun l _=> ?_) fun e _=>rfl
  rw [aP,List.append_assoc];rfl
theorem afj (hk:Fu k) (ret:Pan Int Tm→Option S) (ht:OkT t) (hv0:0≤v∧v<4611686018427387904) (hd0:0≤d∧d<4611686018427387904) (hQ: ∀y∈t.kids,∀a b,0≤a∧a≤1→0≤b∧b≤1→ ∀g:Pan Int Tm→Option S,hd y n u (v+a) (d+b) g=g (pE (akT n u (v+a) (d+b) y)))
  (hQ': ∀b∈t.sys,∀y∈b.kids,∀g:Pan Int Tm→Option S,hd y n u v (d+av t.kind) g=g (pE (akT n u v (d+av t.kind) y))):
  ∀ (r p acc:List Tm) (m:Nat),t.kids=p++r→r.length<m→acc.length+r.length<1073741824→
   qj hd k ret t u n v d m acc (p.length:Int)=eE (dX n u v d t.kind p.length r) (fun l=>eE (dn n u v d t.kind t.sys) (fun l'=>ret (.ok (.mk t.kind 0 t.name t.r (acc++l) l'))) fun e=>ret (.pan e)) fun e=>ret (.pan e):=by
 obtain ⟨o1,o2,o3,o4,o5,o6,o7⟩:=ht.no
 intro r
 induction r with
 |nil=>
  intro p acc m h hm ha
  obtain ⟨m,rfl,hm'⟩:=i9 hm
  simp only [qj,sF,akb h,ad,dX,aP,List.append_nil]
  exact afk hk ret ht hd0 hQ' t.sys [] [] k rfl (by have:=hk;omega) (by simpa using o7)
 |cons y r ih=>
  intro p acc m h hm ha
  obtain ⟨m,rfl,hm'⟩:=i9 hm
  obtain ⟨e1,e2,e3,e4⟩:=j3 h (by omega)
  have bv:=g7 t.kind p.length
  have bd:=gr t.kind p.length
  have wv:IntKind.wrap .i64 (v+bz t.kind p.length)=v+bz t.kind p.length:=by grind [aaf]
  have wd:IntKind.wrap .i64 (d+bJ t.kind p.length)=d+bJ t.kind p.length:=by grind [aaf]
  rw [List.length_cons] at ha
  simp only [qj,sF,e1,ae,e2,Option.bind_some,ar,ag hk,jE,wv,wd,hQ y (by rw [h];simp) _ _ bv bd,e3,dX]
  rw [AS,ij]
  refine ad3 (fun y' _=> ?_) fun e _=>rfl
  rw [J5 (by simp;omega),ih (p++[y]) (acc++[y']) m e4 hm' (by rw [List.length_append,List.length_singleton];omega),AS,List.length_append,List.length_singleton]
  refine ad3 (fun l _=> ?_) fun e _=>rfl
  rw [aP,List.append_assoc];rfl
end
theorem ajw {u:Tm} {n:Int} (fu:Fm u) (hn:0≤n∧n≤1099511627776) (t:Tm): ∀ {k:Nat} {v d:Int} (ret:Pan Int Tm→Option S),Fm t→4294968296+am t≤k→0≤v∧v+am t≤1000→0≤d∧d+am t≤1000→gA k t n u v d ret=ret (pE (akT n u v d t)):=by
 induction t using c7 with
 |h t ih1 ih2=>
  intro k v d ret ft hk hv hd
  have hp:=alF t
  obtain ⟨q,rfl⟩: ∃q,k=q+1:=⟨k-1,by omega⟩
  have h3:F3 q:=by unfold F3;omega
  have hfu:=h3.fu
  have wn:IntKind.wrap .i64 (n+v)=n+v:=by grind [aaf]
  have hpe:akT n u v d t=if t.kind=1∧t.n=n+v then J6 v d u else bE (dX n u v d t.kind 0 t.kids) fun ks'=>bE (dn n u v d t.kind t.sys) fun sys'=> .ok (.mk t.kind (if t.kind=1∧t.n>n+v then t.n-1 else t.n) t.name t.r ks' sys'):=by
   obtain ⟨kd,m,nm,r,ks,sys⟩:=t;rw [akT];rfl
  simp only [gA,H2,wn,ag hfu,ar]
  by_cases h1:t.kind=1
  ·obtain ⟨l1,l2⟩:=ft.leaf h1
   have hbe:(t.kind==1)=true:=by rw [h1];rfl
   rw [hbe,ae,hpe]
   by_cases h2:t.n=n+v
   ·rw [h2,beq_self_eq_true,ae,if_pos ⟨h1,rfl⟩,He h3 fu (by omega) (by omega)]
    cases hh:J6 v d u with
    |error e=>
     have he:=al3 hh
     rw [show (tE (.error e)).2=e from rfl,dj (show e≠0 by omega)];rfl
    |ok y=>rfl
   ·rw [beq_false_of_ne h2,ad,if_neg (fun h=>h2 h.2),l1,l2,dX,dn,aD,aD]
    have hr:t.r=[]:=ft.r1 h1
    have hnm:t.name=ByteArray.empty:=ft.nm0 (by omega)
    by_cases h4:t.n>n+v
    ·have hi:=ft.ok.no.2.1
     have wt:IntKind.wrap .i64 (t.n-1)=t.n-1:=by unfold aG at hi;exact aaf (by omega) (by omega)
     rw [decide_eq_true h4,ae,if_pos ⟨h1,h4⟩,wt,h1,hr,hnm];rfl
    ·rw [decide_eq_false h4,ad,if_neg (fun h=>h4 h.2),←l1,←l2]
     cases t;rfl
  ·rw [beq_false_of_ne h1,ad,hpe,if_neg (fun h=>h1 h.1),if_neg (fun h=>h1 h.1),ft.n0 h1]
   obtain ⟨o1,o2,o3,o4,o5,o6,o7⟩:=ft.ok.no
   rw [J5 (by omega)]
   have hQ: ∀y∈t.kids,∀a b,0≤a∧a≤1→0≤b∧b≤1→ ∀g:Pan Int Tm→Option S,gA q y n u (v+a) (d+b) g=g (pE (akT n u (v+a) (d+b) y)):=fun y hy a b ha hb g=>by
    have:=bY hy
    exact ih1 y hy g (ft.kid hy) (by omega) (by omega) (by omega)
   have hQ': ∀b∈t.sys,∀y∈b.kids,∀g:Pan Int Tm→Option S,gA q y n u v (d+av t.kind) g=g (pE (akT n u v (d+av t.kind) y)):=fun b hb y hy g=>by
    have:=b8 hb hy
    have:=dy t.kind
    exact ih2 b hb y hy g (ft.brk hb hy) (by omega) (by omega) (by omega)
   have:=afj (t:=t) (u:=u) (n:=n) (v:=v) (d:=d) hfu ret ft.ok (by omega) (by omega) hQ hQ' t.kids [] [] q rfl (by omega) (by simpa using o6)
   refine this.trans ?_
   refine Eq.trans ?_ (Qx _ ret).symm
   rw [AS]
   refine ad3 (fun l _=> ?_) fun e _=>rfl
   rw [AS]
   refine ad3 (fun l' _=> ?_) fun e _=>rfl
   rw [aP,List.nil_append]
end Go.Proofs.YtfkkpkhfjpaafaaGreatDoor
namespace Go.Proofs.YtfkkpkhfjpaafaaGreatDoor
open Go PI
set_option linter.unusedVariables false
set_option linter.unusedSimpArgs false
set_option maxRecDepth 20000
variable {S:Type} {k:Nat}
section
variable {hd:Tm→(Int→Option S)→Option S} {t:Tm}
theorem af6 (hk:Fu k) (ret:Bool×Int→Option S) (rec1:Int→Int→Int→Option S) {v more:Int} {x:Br Tm} (hQ: ∀y∈x.kids,∀g,hd y g=g ((au y:Nat):Int)) (hl:x.kids.length<1073741824):
  ∀ (r p:List Tm) (m a:Nat),x.kids=p++r→r.length<m→a+ay r<4611686018427387904→n4 hd k ret rec1 t v x more m (a:Int) (p.length:Int)=rec1 ((a+ay r:Nat):Int) (IntKind.wrap .i64 (v+1)) more:=by
 intro r
 induction r with
 |nil=>grind [i9,ay,n4,yj,ad]
 |cons y r ih=>
  intro p m a h hm ha
  obtain ⟨m,rfl,hm'⟩:=i9 hm
  obtain ⟨e1,e2,e3,e4⟩:=j3 h (by omega)
  have hy:=hQ y (by grind)
  have hz:a+ay (y::r)=(a+au y)+ay r:=by rw [ay];omega
  rw [hz] at ha ⊢
  have hw:IntKind.wrap .i64 ((a:Int)+((au y:Nat):Int))=((a+au y:Nat):Int):=by grind [aaf]
  simp only [n4,yj,e1,ae,e2,Option.bind_some,ar,ag hk,ug,IR,hy,e3,hw,Bool.not_true,ad,ih (p++[y]) m (a+au y) e4 hm' ha]
theorem af5 (hk:Fu k) (ret:Bool×Int→Option S) {more:Int} (hQ: ∀b∈t.sys,∀y∈b.kids,∀g,hd y g=g ((au y:Nat):Int)) (hl:t.sys.length<1073741824) (hl': ∀b∈t.sys,b.kids.length<1073741824):
  ∀ (r p:List (Br Tm)) (m a:Nat),t.sys=p++r→r.length<m→a+aI r<4611686018427387904→kM hd k ret t m (a:Int) (p.length:Int) more=ret (true,((a+aI r:Nat):Int)):=by
 intro r
 induction r with
 |nil=>grind [i9,aI,kM,tr,ad]
 |cons x r ih=>
  intro p m a h hm ha
  obtain ⟨m,rfl,hm'⟩:=i9 hm
  obtain ⟨e1,e2,e3,e4⟩:=j3 h (by omega)
  have hx:x∈t.sys:=by grind
  have hlx:=hl' x hx
  have hz:a+aI (x::r)=(a+ay x.kids)+aI r:=by rw [aI,kZ];omega
  rw [hz] at ha ⊢
  have:=af6 (t:=t) (v:=(p.length:Int)) (more:=more) hk ret (kM hd k ret t m) (hQ x hx) hlx x.kids [] k a rfl (by have:=hk;omega) (by omega)
  simp only [kM,tr,e1,ae,e2,Option.bind_some]
  refine Eq.trans this ?_
  rw [e3,ih (p++[x]) m (a+ay x.kids) e4 hm' ha]
theorem af4 (hk:Fu k) (ret:Bool×Int→Option S) (hQ: ∀y∈t.kids,∀g,hd y g=g ((au y:Nat):Int)) (hQ': ∀b∈t.sys,∀y∈b.kids,∀g,hd y g=g ((au y:Nat):Int)) (ht:OkT t):
  ∀ (r p:List Tm) (m a:Nat),t.kids=p++r→r.length<m→a+ay r+aI t.sys<4611686018427387904→qT hd k ret t m (a:Int) (p.length:Int)=ret (true,((a+ay r+aI t.sys:Nat):Int)):=by
 obtain ⟨o1,o2,o3,o4,o5,o6,o7⟩:=ht.no
 intro r
 induction r with
 |nil=>
  intro p m a h hm ha
  obtain ⟨m,rfl,hm'⟩:=i9 hm
  have hz:a+ay []=a:=by rfl
  rw [hz] at ha ⊢
  have:=fun more=>af5 (more:=more) hk ret hQ' o7 (fun b hb=>(ht.bi hb).1.2.2) t.sys [] k a rfl (by have:=hk;omega) ha
  simp only [qT,tq,akb h,ad]
  cases (t.kind==15)
  ·rw [ad];exact this 0
  ·rw [ae];exact this 1
 |cons y r ih=>
  intro p m a h hm ha
  obtain ⟨m,rfl,hm'⟩:=i9 hm
  obtain ⟨e1,e2,e3,e4⟩:=j3 h (by omega)
  have hy:=hQ y (by grind)
  have hz:a+ay (y::r)=(a+au y)+ay r:=by rw [ay];omega
  rw [hz] at ha ⊢
  have hw:IntKind.wrap .i64 ((a:Int)+((au y:Nat):Int))=((a+au y:Nat):Int):=by grind [aaf]
  simp only [qT,tq,e1,ae,e2,Option.bind_some,ar,ag hk,jE,ug,IR,hy,e3,hw,Bool.not_true,ad,ih (p++[y]) m (a+au y) e4 hm' ha]
theorem aeA (hk:Fu k) (ret:Bool×Int→Option S) (rec1:Int→Int→Int→Option S) {v more:Int} {x:Br Tm} (hQ: ∀y∈x.kids,∀g,hd y g=g ((am y:Nat):Int)) (hl:x.kids.length<1073741824):
  ∀ (r p:List Tm) (m a:Nat),x.kids=p++r→r.length<m→n5 hd k ret rec1 t v x more m (a:Int) (p.length:Int)=rec1 ((max a (aH r):Nat):Int) (IntKind.wrap .i64 (v+1)) more:=by
 intro r
 induction r with
 |nil=>grind [i9,aH,n5,yk,ad]
 |cons y r ih=>
  intro p m a h hm
  obtain ⟨m,rfl,hm'⟩:=i9 hm
  obtain ⟨e1,e2,e3,e4⟩:=j3 h (by omega)
  have hy:=hQ y (by grind)
  have hz:max a (aH (y::r))=max (max a (am y)) (aH r):=by rw [aH];omega
  rw [hz]
  have hw:(if ((am y:Nat):Int)>(a:Int) then ((am y:Nat):Int) else (a:Int))=((max a (am y):Nat):Int):=by split<;>omega
  simp only [n5,yk,e1,ae,e2,Option.bind_some,ar,ag hk,uf,IQ,hy,e3,hw,Bool.not_true,ad,ih (p++[y]) m (max a (am y)) e4 hm']
theorem aez (hk:Fu k) (ret:Bool×Int→Option S) {more:Int} (hQ: ∀b∈t.sys,∀y∈b.kids,∀g,hd y g=g ((am y:Nat):Int)) (hl:t.sys.length<1073741824) (hl': ∀b∈t.sys,b.kids.length<1073741824):
  ∀ (r p:List (Br Tm)) (m a:Nat),t.sys=p++r→r.length<m→kN hd k ret t m (a:Int) (p.length:Int) more=ret (true,((max a (aO r):Nat):Int)):=by
 intro r
 induction r with
 |nil=>grind [i9,aO,kN,tu,ad]
 |cons x r ih=>
  intro p m a h hm
  obtain ⟨m,rfl,hm'⟩:=i9 hm
  obtain ⟨e1,e2,e3,e4⟩:=j3 h (by omega)
  have hx:x∈t.sys:=by grind
  have hlx:=hl' x hx
  have hz:max a (aO (x::r))=max (max a (aH x.kids)) (aO r):=by rw [aO,pD];omega
  rw [hz]
  have:=aeA (t:=t) (v:=(p.length:Int)) (more:=more) hk ret (kN hd k ret t m) (hQ x hx) hlx x.kids [] k a rfl (by have:=hk;omega)
  simp only [kN,tu,e1,ae,e2,Option.bind_some]
  refine Eq.trans this ?_
  rw [e3,ih (p++[x]) m (max a (aH x.kids)) e4 hm']
theorem aey (hk:Fu k) (ret:Bool×Int→Option S) (hQ: ∀y∈t.kids,∀g,hd y g=g ((am y:Nat):Int)) (hQ': ∀b∈t.sys,∀y∈b.kids,∀g,hd y g=g ((am y:Nat):Int)) (ht:OkT t):
  ∀ (r p:List Tm) (m a:Nat),t.kids=p++r→r.length<m→qU hd k ret t m (a:Int) (p.length:Int)=ret (true,((max (max a (aH r)) (aO t.sys):Nat):Int)):=by
 obtain ⟨o1,o2,o3,o4,o5,o6,o7⟩:=ht.no
 intro r
 induction r with
 |nil=>
  intro p m a h hm
  obtain ⟨m,rfl,hm'⟩:=i9 hm
  have hz:max a (aH [])=a:=by rw [aH];omega
  rw [hz]
  have:=fun more=>aez (more:=more) hk ret hQ' o7 (fun b hb=>(ht.bi hb).1.2.2) t.sys [] k a rfl (by have:=hk;omega)
  simp only [qU,tt,akb h,ad]
  cases (t.kind==15)
  ·rw [ad];exact this 0
  ·rw [ae];exact this 1
 |cons y r ih=>
  intro p m a h hm
  obtain ⟨m,rfl,hm'⟩:=i9 hm
  obtain ⟨e1,e2,e3,e4⟩:=j3 h (by omega)
  have hy:=hQ y (by grind)
  have hz:max a (aH (y::r))=max (max a (am y)) (aH r):=by rw [aH];omega
  rw [hz]
  have hw:(if ((am y:Nat):Int)>(a:Int) then ((am y:Nat):Int) else (a:Int))=((max a (am y):Nat):Int):=by split<;>omega
  simp only [qU,tt,e1,ae,e2,Option.bind_some,ar,ag hk,jE,uf,IQ,hy,e3,hw,Bool.not_true,ad,ih (p++[y]) m (max a (am y)) e4 hm']
end
theorem Q_ (t:Tm):OkT t→ ∀ {k:Nat} (ret:Int→Option S),Fd k (am t)→au t<4611686018427387904→j6 k t ret=ret ((au t:Nat):Int):=by
 induction t using c7 with
 |h t ih1 ih2=>
  intro ht k ret hk hs
  obtain ⟨q,rfl,hq,hf⟩:=hk.pos' (alF t)
  have hz:=rM t
  have:=af4 hq (fun r=>ret r.2) (fun y hy g=>ih1 y hy (ht.ki hy) g (hf _ (bY hy)) (by have:=k_ hy;omega)) (fun b hb y hy g=>ih2 b hb y hy ((ht.bi hb).2 y hy) g (hf _ (b8 hb hy)) (by have:=k_ hy;have:=we hb;omega)) ht t.kids [] q 1 rfl (by have:=ht.no.2.2.2.2.2.1;have:=hq;omega) (by omega)
  simp only [j6,TS,ag hq,ar,DY,IW]
  refine this.trans ?_
  rw [hz,Nat.add_assoc]
theorem aiK (t:Tm):OkT t→ ∀ {k:Nat} (ret:Int→Option S),Fd k (am t)→am t<4611686018427387904→j5 k t ret=ret ((am t:Nat):Int):=by
 induction t using c7 with
 |h t ih1 ih2=>
  intro ht k ret hk hs
  obtain ⟨q,rfl,hq,hf⟩:=hk.pos' (alF t)
  have hz:=pF t
  have:=aey hq (fun r=>ret (IntKind.wrap .i64 (r.2+1))) (fun y hy g=>ih1 y hy (ht.ki hy) g (hf _ (bY hy)) (by have:=bY hy;omega)) (fun b hb y hy g=>ih2 b hb y hy ((ht.bi hb).2 y hy) g (hf _ (b8 hb hy)) (by have:=b8 hb hy;omega)) ht t.kids [] q 0 rfl (by have:=ht.no.2.2.2.2.2.1;have:=hq;omega)
  simp only [j5,TO,ag hq,ar,DZ,IX]
  refine this.trans ?_
  have hw:IntKind.wrap .i64 (((max (max 0 (aH t.kids)) (aO t.sys):Nat):Int)+1)=((am t:Nat):Int):=by
   rw [aaf (by omega) (by omega)];omega
  rw [hw]
end Go.Proofs.YtfkkpkhfjpaafaaGreatDoor
namespace Go.Proofs.YtfkkpkhfjpaafaaGreatDoor
open Go PI
set_option linter.unusedVariables false
set_option linter.unusedSimpArgs false
set_option maxRecDepth 20000
variable {S:Type} {k:Nat}
abbrev F4 (k:Nat):Prop:=4294970296≤k
theorem F4.f3 (h:F4 k):F3 k:=by have:4294970296≤k:=h;unfold F3;omega
def ri (n:Int) (t u:Tm):Except Int Tm:=fmE t (fmE u (ams n t u))
theorem ajv (hk4:F4 k) {t u:Tm} (ht:In k t) (hu:In k u) {n:Int} (hn:0≤n∧n≤1000000) (ret:Tm×Int→Option S):zd k t n u ret=ret (tE (ri n t u)):=by
 have hk:=hk4.f3
 simp only [zd,S_,ag hk.fu,ar,amv ht.1 ht.2.1 ht.dep,amv hu.1 hu.2.1 hu.dep]
 unfold ri
 by_cases h1:bw t=0
 case neg=>rw [dj h1,Bool.not_false,ae];unfold fmE;rw [if_neg h1];rfl
 by_cases h2:bw u=0
 case neg=>rw [h1,show (!((0:Int)==0))=false from rfl,ad,dj h2,Bool.not_false,ae];unfold fmE;rw [if_pos h1,if_neg h2];rfl
 have ft:Fm t:=⟨ht.1,h1⟩
 have fu:Fm u:=⟨hu.1,h2⟩
 have hc:=yr t n
 have z1:=ft.siz;have z2:=fu.siz;have z3:=mB u;have d1:=ft.dep;have d2:=fu.dep
 have hk':4294970296≤k:=hk4
 have hif:(if 1099511627776<n then (1099511627776:Int) else n)=n:=if_neg (by omega)
 have hmul:ac4 n t*(au u-1)≤20000*20000:=Nat.mul_le_mul (by omega) (by omega)
 have hw1:IntKind.wrap .i64 ((au u:Int)-1)=((au u-1:Nat):Int):=by rw [aaf (by omega) (by omega)];omega
 have hw2:IntKind.wrap .i64 ((ac4 n t:Int)*((au u-1:Nat):Int))=((ac4 n t*(au u-1):Nat):Int):=by
  rw [←Int.natCast_mul];exact aaf (by omega) (by omega)
 have hw3:IntKind.wrap .i64 ((au t:Int)+((ac4 n t*(au u-1):Nat):Int))=((au t+ac4 n t*(au u-1):Nat):Int):=by
  rw [←Int.natCast_add];exact aaf (by omega) (by omega)
 rw [h1,h2,show (!((0:Int)==0))=false from rfl,ad,ad,decide_eq_false (by omega),ad]
 simp only [hif]
 rw [Q_ t ft.ok _ (ft.fd hk) (by omega),ai6 t _ ft (ft.fd hk) (by omega),Q_ u fu.ok _ (fu.fd hk) (by omega),hw1,hw2,hw3]
 unfold fmE
 rw [if_pos h1,if_pos h2]
 unfold ams
 by_cases h3:au t+ac4 n t*(au u-1)>20000
 ·rw [decide_eq_true (by omega),ae,if_pos h3];rfl
 rw [decide_eq_false (by omega),ad,if_neg h3,ajw fu (by omega) t _ ft (by omega) (by omega) (by omega),ij]
 cases hp:akT n u 0 0 t with
 |error e=>rfl
 |ok o=>
  rw [aP,aD]
  have hall:=(eU ft.2).2.2
  obtain ⟨q1,q2,q3,q4⟩:=F8 fu (by omega) t (v:=0) (d:=0) (by omega) (by omega) (by omega) ft.ok hall hp
  show j5 k o _=_
  rw [aiK o q1 _ (hk.fd (by omega)) (by omega)]
  by_cases h4:am o>200
  ·rw [decide_eq_true (by omega),ae,if_pos h4];rfl
  ·rw [decide_eq_false (by omega),ad,if_neg h4];rfl
end Go.Proofs.YtfkkpkhfjpaafaaGreatDoor
namespace Go.Proofs.YtfkkpkhfjpaafaaGreatDoor
open Go PI
set_option linter.unusedVariables false
set_option linter.unusedSimpArgs false
set_option maxRecDepth 20000
variable {S:Type} {k:Nat}
abbrev aml (r:List Cl) (l a:Tm):Tm:= .mk 14 0 ByteArray.empty r [l,a] []
def amw (r:List Cl) (line:Tm):List (Br Tm)→Except Int (List (Br Tm))
 |[]=> .ok []
 |b::l=>bE (toE (agS r 0 1)) fun phi=>bE (acr 0 1 0 1 line) fun ln=>bE (amw r line l) fun l'=> .ok (.mk b.face [aml phi ln (AK b)]::l')
def gh (r:List Cl) (line x:Tm):Except Int Tm:=
 if x.kind=24∨x.kind=25 then .ok x
 else if x.kind=26 then .ok (.mk 26 0 ByteArray.empty x.r [aml r (line.kids.getD 0 ao) (x.kids.getD 0 ao)] [])
 else bE (ame 0 [⟨0,0⟩] line) fun e=>bE (amw r line x.sys) fun l=> .ok (.mk 15 0 ByteArray.empty [] [e,aml r line (x.kids.getD 1 ao)] l)
def h_ (t:Tm):Tm×Bool×Int:=
 if bw t≠0 then (ao,false,bw t) else
 if t.kind=14∧(t.kids.getD 0 ao).kind=23∧((t.kids.getD 1 ao).kind=24∨(t.kids.getD 1 ao).kind=25∨(t.kids.getD 1 ao).kind=26∨(t.kids.getD 1 ao).kind=15) then iP (gh t.r (t.kids.getD 0 ao) (t.kids.getD 1 ao)) else (ao,false,0)
theorem I8 {t:Tm} (h:t.kids.length=2): ∃a b,t.kids=[a,b]:=by
 match h':t.kids,h with
 |[a,b],_=>exact ⟨a,b,rfl⟩
theorem jH {t:Tm} (h:t.kids.length=1): ∃a,t.kids=[a]:=by
 match h':t.kids,h with
 |[a],_=>exact ⟨a,rfl⟩
theorem Fm.sy {t:Tm} (h:Fm t) (hk:t.kind=15):(∀b∈t.sys,b.kids=[AK b]∧Fm (AK b)∧RX true b.face)∧t.sys.length≤20000:=by
 have ho:=h.own
 refine ⟨fun b hb=> ?_, ?_⟩
 ·have hl:b.kids.length=1:=by
   obtain ⟨kd,n,nm,r,ks,sys⟩:=t
   have hk:kd=15:=hk
   subst hk
   have ho:(_&&(sys.all (bX 15 24)&&_))=true:=ho
   simp only [Bool.and_eq_true] at ho
   have:=List.all_eq_true.1 ho.2.1 b hb
   unfold bX at this
   simp only [Bool.and_eq_true,decide_eq_true_eq] at this
   have h1:=this.1
   have:cz 15=1:=rfl
   omega
  obtain ⟨f,ks⟩:=b
  match ks,hl with
  |[a],_=>exact ⟨rfl,h.brk hb (by simp [AK]),h.face hb⟩
 ·have h1:=h.siz
  have h2:=Hl t
  have: ∀ {l:List (Br Tm)},(∀b∈l,b.kids≠[])→l.length≤aI l:=by
   intro l
   induction l with
   |nil=>intro _;simp
   |cons b l ih=>
    intro hl
    have:=ih fun b hb=>hl b (by simp [hb])
    have hb:=hl b (by simp)
    obtain ⟨f,ks⟩:=b
    cases ks with
    |nil=>exact absurd rfl hb
    |cons a ks=>rw [aI,fG,ay,List.length_cons];have:=mB a;omega
  have:=this (l:=t.sys) fun b hb=>by
   intro he
   obtain ⟨kd,n,nm,r,ks,sys⟩:=t
   have hk:kd=15:=hk
   subst hk
   have ho:(_&&(sys.all (bX 15 24)&&_))=true:=ho
   simp only [Bool.and_eq_true] at ho
   have:=List.all_eq_true.1 ho.2.1 b hb
   unfold bX at this
   simp only [Bool.and_eq_true,decide_eq_true_eq] at this
   have h1:=this.1
   rw [he] at h1
   have:cz 15=1:=rfl
   simp at h1;omega
  omega
end Go.Proofs.YtfkkpkhfjpaafaaGreatDoor
namespace Go.Proofs.YtfkkpkhfjpaafaaGreatDoor
open Go PI
set_option linter.unusedVariables false
set_option linter.unusedSimpArgs false
set_option maxRecDepth 20000
variable {S:Type} {k:Nat}
def stE {α:Type} (c:Int) (x:Except Int α):Except Int α:=if c=0 then x else .error c
theorem oH {α:Type} (x:Except Int α):stE 0 x=x:=rfl
theorem lb {α:Type} {c:Int} (h:c≠0) (x:Except Int α):stE c x= .error c:=if_neg h
structure Sm (n:Nat) (t:Tm):Prop where
 ok:OkT t
 siz:au t≤n
 dep:am t≤300
theorem Fm.sm {t:Tm} (h:Fm t):Sm 20000 t:=⟨h.ok,h.siz,by have:=h.dep;omega⟩
theorem Sm.mono {n m:Nat} {t:Tm} (h:Sm n t) (hnm:n≤m):Sm m t:=⟨h.ok,by have:=h.siz;omega,h.dep⟩
theorem aoi:Sm 20000 ao:=⟨agT,by unfold ao;rw [au,ay,aI];omega,by unfold ao;rw [am,aH,aO];omega⟩
theorem Sm.isIn {n:Nat} {t:Tm} (h:Sm n t) (hk:F3 k) (hn:n<1099511627776):In k t:=⟨h.ok,hk.fd (by have:=h.dep;omega),by have:=h.siz;omega⟩
structure Bs' (n:Nat) (l:List (Br Tm)):Prop where
 ok:ba l
 siz:aI l≤l.length*n
 dep:aO l≤301
theorem Dp (n:Nat):Bs' n []:=⟨by rw [ba];trivial,by rw [aI];simp,by rw [aO];omega⟩
theorem Ju {n:Nat} {l:List (Br Tm)} (h:Bs' n l) {f:List Cl} (hf:aq f∧f.length<1073741824) {t:Tm} (ht:Sm n t):Bs' n (l++[⟨f,[t]⟩]):=by
 refine ⟨NQ h.ok ?_, ?_, ?_⟩
 ·rw [ba,fc,aZ,aZ,ba];exact ⟨⟨⟨hf.1,hf.2,by simp⟩,ht.ok,trivial⟩,trivial⟩
 ·rw [R1,aI,fG,ay,ay,aI,List.length_append,List.length_singleton,Nat.succ_mul]
  have:=h.siz;have:=ht.siz;omega
 ·rw [zF,aO,eB,aH,aH,aO]
  have:=h.dep;have:=ht.dep;omega
theorem Hn {kd:Int} (hkd:0≤kd∧kd≤28) {r:List Cl} (hr:aq r∧r.length<1073741824) {ks:List Tm} {sys:List (Br Tm)} {n m:Nat} (hks: ∀x∈ks,OkT x∧am x≤299) (hl:ks.length<1000) (hz:ay ks≤n) (hs:ba sys) (hsl:sys.length<1073741824) (hsd:aO sys≤299) (hsz:aI sys≤m):Sm (n+m+1) (.mk kd 0 ByteArray.empty r ks sys):=by
 have hd:aH ks≤299:=by
  have: ∀ {l:List Tm},(∀x∈l,am x≤299)→aH l≤299:=by
   intro l
   induction l with
   |nil=>intro _;rw [aH];omega
   |cons t l ih=>intro h;rw [aH];have:=h t (by simp);have:=ih fun x hx=>h x (by simp [hx]);omega
  exact this fun x hx=>(hks x hx).2
 refine ⟨?_, ?_, ?_⟩
 ·rw [OkT]
  exact ⟨⟨by unfold aG;omega,by unfold aG;omega,by decide,hr.1,hr.2,by omega,hsl⟩,okK_iff.2 fun x hx=>(hks x hx).1,hs⟩
 ·rw [au];omega
 ·rw [am];omega
theorem aol {r:List Cl} (hr:aq r∧r.length<1073741824) {n m:Nat} {l a:Tm} (hl:Sm n l) (ha:Sm m a) (h1:am l≤299) (h2:am a≤299):Sm (n+m+1) (aml r l a):=by
 have:=Hn (kd:=14) (by omega) hr (ks:=[l,a]) (sys:=[]) (n:=n+m) (m:=0) (fun x hx=>by
  simp at hx
  rcases hx with rfl|rfl
  ·exact ⟨hl.ok,h1⟩
  ·exact ⟨ha.ok,h2⟩) (by simp) (by rw [ay,ay,ay];have:=hl.siz;have:=ha.siz;omega) (by rw [ba];trivial) (by simp) (by rw [aO];omega) (by rw [aI];omega)
 exact this
theorem EC {t:Tm} {a b:Tm} (h:t.kids=[a,b]):t.kids.getD 0 ao=a∧t.kids.getD 1 ao=b:=by rw [h];exact ⟨rfl,rfl⟩
theorem G9 {fa:Bool} {f:List Cl} (h:RX fa f):aq f∧f.length<1073741824:=⟨h.1.2,by have:=h.1.len;omega⟩
theorem aoE {f:List Cl} {b:Int} (h:RF f):aq (agS f 0 b).1∧(agS f 0 b).1.length<1073741824:=by
 have hl:=apS (f:=f) (i:=0) (b:=b)
 have:=h.len
 refine ⟨?_,by omega⟩
 by_cases h0:(agS f 0 b).2=0
 ·exact (kQ h0).2
 ·rw [apW h0];exact fun c hc=>by cases hc
theorem apN (hk:F3 k) (ret:Tm×Bool×Int→Option S) {t line x:Tm} {z:Int×Int×ByteArray×List Cl×List Tm} {q:Tm×Int} (ht:RX true t.r) (hl:Fm line) (hx: ∀b∈x.sys,b.kids=[AK b]∧Fm (AK b)∧RX true b.face) (hxl:x.sys.length≤20000)
  (hin: ∀acc,Bs' 50000 acc→acc.length≤20000→aO acc≤299→In k (.mk 15 0 ByteArray.empty [] [q.1,.mk z.1 z.2.1 z.2.2.1 z.2.2.2.1 z.2.2.2.2 []] acc)):
  ∀ (r p acc:List (Br Tm)) (m:Nat) (c:Int),x.sys=p++r→r.length<m→Bs' 50000 acc→aO acc≤299→acc.length+r.length≤20000→
   E7 k ret t z line q x m c acc (p.length:Int)=ret (iP (stE c (bE (amw t.r line r) fun l'=> .ok (.mk 15 0 ByteArray.empty [] [q.1,.mk z.1 z.2.1 z.2.2.1 z.2.2.2.1 z.2.2.2.2 []] (acc++l'))))):=by
 intro r
 induction r with
 |nil=>
  intro p acc m c h hm hb hd hacc
  obtain ⟨m,rfl,hm'⟩:=i9 hm
  simp only [E7,Jp,akb h,ad,ag hk.fu,JM,akH,ar]
  rw [Ry hk (hin acc hb (by simpa using hacc) hd),amw,aD,List.append_nil]
  by_cases hc:c=0
  ·subst hc;exact aae ret
  ·rw [lb hc];exact JF hc ret
 |cons b r ih=>
  intro p acc m c h hm hb hd hacc
  obtain ⟨m,rfl,hm'⟩:=i9 hm
  obtain ⟨e1,e2,e3,e4⟩:=j3 h (by omega)
  obtain ⟨hbk,hbf,hbx⟩:=hx b (by rw [h];simp)
  have hg:af b.kids 0=some (AK b):=ED (n:=0) rfl (by rw [hbk];rfl)
  have hlk:=aoE (b:=1) ht.1
  rw [List.length_cons] at hacc
  have step: ∀ {phi:List Cl} {ln:Tm} {c':Int},aq phi∧phi.length<1073741824→Sm 20000 ln→am ln≤200→Option.bind (aw 1099511627776 acc.length [Br.mk b.face [aml phi ln (AK b)]].length) (fun _=>E7 k ret t z line q x m c' (acc++[Br.mk b.face [aml phi ln (AK b)]]) (((p++[b]).length:Nat):Int))=
    ret (iP (stE c' (bE (amw t.r line r) fun l'=> .ok (.mk 15 0 ByteArray.empty [] [q.1,.mk z.1 z.2.1 z.2.2.1 z.2.2.2.1 z.2.2.2.2 []] (acc++[Br.mk b.face [aml phi ln (AK b)]]++l'))))):=by
   intro phi ln c' hphi hln hdl
   rw [J5 (by simp;omega)]
   have hs:=aol hphi hln hbf.sm (by omega) (by have:=hbf.dep;omega)
   refine ih (p++[b]) _ m c' e4 hm' (Ju hb (G9 hbx) (hs.mono (by omega))) ?_ (by rw [List.length_append,List.length_singleton];omega)
   rw [zF,aO,eB,aH,aH,aO]
   have:am (aml phi ln (AK b))≤201:=by
    rw [am,aH,aH,aH,aO];have:=hbf.dep;omega
   omega
  simp only [E7,Jp,e1,ae,e2,Option.bind_some,ag hk.fu,ar,v_ hk ht.1.2 (G9 ht).2 (show (0:Int)≤1∧(1:Int)<1000 by omega),hg,tO,akI,nf,H0,e3]
  rw [v6 hk (b:=1) (fun _=>hl.isIn hk) (by omega)]
  by_cases hc:c=0
  ·subst hc
   rw [if_pos rfl,oH,amw]
   by_cases h1:(agS t.r 0 1).2=0
   ·rw [h1,kR,jF h1,aD]
    have hd1:pH 1 1 line=acr 0 1 0 1 line:=if_pos hl.2
    rw [hd1]
    cases hh:acr 0 1 0 1 line with
    |error e=>
     have:=amo line hh
     refine (step hlk aoi (by unfold ao;rw [am,aH,aO];omega)).trans ?_
     rw [show (tE (.error e)).2=e from rfl,lb (by omega)];rfl
    |ok ln=>
     have fl:=jr (by omega) hl hh
     refine (step hlk fl.sm fl.dep).trans ?_
     rw [show (tE (.ok ln)).2=0 from rfl,oH,aD]
     cases amw t.r line r with
     |error e=>rfl
     |ok l'=>rw [aD,aD,aD,List.append_assoc];rfl
   ·rw [n9 h1]
    refine (step hlk aoi (by unfold ao;rw [am,aH,aO];omega)).trans ?_
    rw [lb h1,iO h1];rfl
  ·rw [if_neg hc,n9 hc,lb hc]
   refine (step (phi:=[]) ⟨(fun c hc=>by cases hc),by simp⟩ aoi (by unfold ao;rw [am,aH,aO];omega)).trans ?_
   rw [lb hc]
end Go.Proofs.YtfkkpkhfjpaafaaGreatDoor
namespace Go.Proofs.YtfkkpkhfjpaafaaGreatDoor
open Go PI
set_option linter.unusedVariables false
set_option linter.unusedSimpArgs false
set_option maxRecDepth 20000
variable {S:Type} {k:Nat}
theorem E5 {t:Tm} (h:Fm t) {kd:Int} (hk:t.kind=kd) {n:Nat} (hn:ct kd=n):t.kids.length=n:=by
 have:=h.nk
 rw [hk,hn] at this;omega
theorem KQ {t a b:Tm} (h:t.kids=[a,b]):af t.kids 0=some a∧af t.kids 1=some b:=by rw [h];exact ⟨rfl,rfl⟩
theorem ap4 {t:Tm} (h:Fm t):aq t.r∧t.r.length<1073741824:=by
 obtain ⟨o1,o2,o3,o4,o5,o6,o7⟩:=h.ok.no
 exact ⟨o4,o5⟩
theorem nS {r:List Cl} (hr:RX true r) {line x y w:Tm} (hl:line.kids=[y]) (hx:x.kids=[w]) (fl:Fm line) (fx:Fm x):Sm 40010 (.mk 26 0 ByteArray.empty x.r [aml r y w] []):=by
 have fy:=fl.kid (x:=y) (by rw [hl];simp)
 have fw:=fx.kid (x:=w) (by rw [hx];simp)
 have h:=aol (G9 hr) fy.sm fw.sm (by have:=fy.dep;omega) (by have:=fw.dep;omega)
 have hd:am (aml r y w)≤201:=by rw [am,aH,aH,aH,aO];have:=fy.dep;have:=fw.dep;omega
 exact (Hn (kd:=26) (by omega) (ap4 fx) (ks:=[aml r y w]) (sys:=[]) (n:=40001) (m:=0) (fun x hx=>by simp at hx;subst hx;exact ⟨h.ok,by omega⟩) (by simp) (by rw [ay,ay];have:=h.siz;omega) (by rw [ba];trivial) (by simp) (by rw [aO];omega) (by rw [aI];omega)).mono (by omega)
theorem aoX {r:List Cl} (hr:RX true r) {e line a:Tm} (he:Sm 20000 e) (hed:am e≤200) (fl:Fm line) (fa:Fm a) {acc:List (Br Tm)} (hb:Bs' 50000 acc) (hacc:acc.length≤20000) (hd:aO acc≤299):Sm 1000070000 (.mk 15 0 ByteArray.empty [] [e,aml r line a] acc):=by
 have h:=aol (G9 hr) fl.sm fa.sm (by have:=fl.dep;omega) (by have:=fa.dep;omega)
 have hd':am (aml r line a)≤201:=by rw [am,aH,aH,aH,aO];have:=fl.dep;have:=fa.dep;omega
 have hz:aI acc≤1000000000:=Nat.le_trans hb.siz (Nat.le_trans (Nat.mul_le_mul_right _ hacc) (by omega))
 exact (Hn (kd:=15) (by omega) (r:=[]) ⟨(fun c hc=>by cases hc),by simp⟩ (ks:=[e,aml r line a]) (sys:=acc) (n:=60001) (m:=1000000000) (fun x hx=>by
  simp at hx
  rcases hx with rfl|rfl
  ·exact ⟨he.ok,by omega⟩
  ·exact ⟨h.ok,by omega⟩) (by simp) (by rw [ay,ay,ay];have:=h.siz;have:=he.siz;omega) hb.ok (by omega) hd hz).mono (by omega)
theorem ap_ (hk:F3 k) {t:Tm} (ht:In k t) (ret:Tm×Bool×Int→Option S):JG k t ret=ret (h_ t):=by
 simp only [JG,SP,ag hk.fu,ar,amv ht.1 ht.2.1 ht.dep]
 unfold h_
 by_cases h0:bw t=0
 case neg=>rw [dj h0,Bool.not_false,ae,if_pos h0];rfl
 rw [h0,show (!((0:Int)==0))=false from rfl,ad,if_neg (by simp)]
 have ft:Fm t:=⟨ht.1,h0⟩
 by_cases h14:t.kind=14
 case neg=>rw [beq_false_of_ne h14,Bool.not_false,ae,if_neg (fun h=>h14 h.1)];rfl
 rw [h14,show (!((14:Int)==14))=false from rfl,ad]
 obtain ⟨line,x,hkd⟩:=I8 (E5 ft h14 (n:=2) rfl)
 obtain ⟨g0,g1⟩:=KQ hkd
 obtain ⟨d0,d1⟩:=EC hkd
 have fl:Fm line:=ft.kid (by rw [hkd];simp)
 have fx:Fm x:=ft.kid (by rw [hkd];simp)
 have hr:=ft.r14 h14
 rw [d0,d1,g0,Option.bind_some]
 by_cases h23:line.kind=23
 case neg=>rw [beq_false_of_ne h23,Bool.not_false,ae,if_neg (fun h=>h23 h.2.1)];rfl
 rw [h23,show (!((23:Int)==23))=false from rfl,ad,vU t ht.1 _ ht.2.1,g0,Option.bind_some,g1,Option.bind_some]
 obtain ⟨y,hy⟩:=jH (E5 fl h23 (n:=1) rfl)
 have fin: ∀ {z:Tm},In k z→ ∀g:Tm×Bool×Int→Option S,ly k z 0 (fun r=>g (r.1,r.2.1,r.2.2.1))=g (iP (.ok z)):=fun hz g=>by
  rw [Ry hk hz];exact aae g
 by_cases h24:x.kind=24
 ·rw [h24,show ((24:Int)==24)=true from rfl,ae,if_pos ⟨rfl,rfl,.inl rfl⟩,fin (fx.isIn hk)]
  unfold gh;rw [if_pos (.inl h24)]
 rw [beq_false_of_ne h24,ad]
 by_cases h25:x.kind=25
 ·rw [h25,show ((25:Int)==25)=true from rfl,ae,if_pos ⟨rfl,rfl,.inr (.inl rfl)⟩,fin (fx.isIn hk)]
  unfold gh;rw [if_pos (.inr h25)]
 rw [beq_false_of_ne h25,ad]
 by_cases h26:x.kind=26
 ·obtain ⟨w,hw⟩:=jH (E5 fx h26 (n:=1) rfl)
  have e1:af line.kids 0=some y:=by rw [hy];rfl
  have e2:af x.kids 0=some w:=by rw [hw];rfl
  rw [h26,show ((26:Int)==26)=true from rfl,ae,if_pos ⟨rfl,rfl,.inr (.inr (.inl rfl))⟩,e1,Option.bind_some,e2,Option.bind_some]
  simp only [tO,akI]
  rw [fin ((nS hr hy hw fl fx).isIn hk (by omega))]
  unfold gh;rw [if_neg (by omega),if_pos h26,hy,hw];rfl
 rw [beq_false_of_ne h26,ad]
 by_cases h15:x.kind=15
 case neg=>rw [beq_false_of_ne h15,ad,if_neg (fun h=>by omega)];rfl
 obtain ⟨u,a,hxk⟩:=I8 (E5 fx h15 (n:=2) rfl)
 obtain ⟨gx0,gx1⟩:=KQ hxk
 obtain ⟨dx0,dx1⟩:=EC hxk
 have fa:Fm a:=fx.kid (by rw [hxk];simp)
 obtain ⟨sy,syl⟩:=fx.sy h15
 rw [h15,show ((15:Int)==15)=true from rfl,ae,if_pos ⟨rfl,rfl,.inr (.inr (.inr rfl))⟩,vZ hk (fun _=>fl.isIn hk),gx1,Option.bind_some]
 simp only [tO,akI,kR]
 have htk:an8 0 [⟨0,0⟩] line=ame 0 [⟨0,0⟩] line:=if_pos fl.2
 rw [htk]
 have hsm:Sm 20000 (tE (ame 0 [⟨0,0⟩] line)).1∧am (tE (ame 0 [⟨0,0⟩] line)).1≤200:=by
  cases hh:ame 0 [⟨0,0⟩] line with
  |error e=>exact ⟨aoi,by show am ao≤200;unfold ao;rw [am,aH,aO];omega⟩
  |ok e=>
   obtain ⟨q1,q2,q3⟩:=akM fl hh
   exact ⟨⟨q1,q3,(show am e≤300 by omega)⟩,q2⟩
 have:=apN hk ret (t:=t) (line:=line) (x:=x) (z:=(14,0,ByteArray.empty,t.r,[line,a])) (q:=tE (ame 0 [⟨0,0⟩] line)) hr fl sy syl (fun acc hb hacc hd=>(aoX hr hsm.1 hsm.2 fl fa hb hacc hd).isIn hk (by omega)) x.sys [] [] k (tE (ame 0 [⟨0,0⟩] line)).2 rfl (by have:4294968296≤k:=hk;omega) (Dp _) (by rw [aO];omega) (by simpa using syl)
 refine Eq.trans this ?_
 unfold gh
 rw [if_neg (by omega),if_neg h26,dx1]
 cases hh:ame 0 [⟨0,0⟩] line with
 |error e=>
  have:=ws hh
  rw [show (tE (.error e)).2=e from rfl,lb (by omega)];rfl
 |ok e=>rfl
end Go.Proofs.YtfkkpkhfjpaafaaGreatDoor
namespace Go.Proofs.YtfkkpkhfjpaafaaGreatDoor
open Go PI
set_option linter.unusedVariables false
set_option linter.unusedSimpArgs false
set_option maxRecDepth 20000
variable {S:Type} {k:Nat}
end Go.Proofs.YtfkkpkhfjpaafaaGreatDoor
namespace Go.Proofs.YtfkkpkhfjpaafaaGreatDoor
open Go PI
set_option linter.unusedVariables false
set_option linter.unusedSimpArgs false
set_option maxRecDepth 20000
variable {S:Type} {k:Nat}
end Go.Proofs.YtfkkpkhfjpaafaaGreatDoor
namespace Go.Proofs.YtfkkpkhfjpaafaaGreatDoor
open Go PI
set_option linter.unusedVariables false
set_option linter.unusedSimpArgs false
set_option maxRecDepth 20000
variable {S:Type} {k:Nat}
section
variable {hd:Tm→Int→Tm→Int→Int→(Tm→Option S)→Option S} {t u:Tm} {n v d:Int}
end
end Go.Proofs.YtfkkpkhfjpaafaaGreatDoor
namespace Go.Proofs.YtfkkpkhfjpaafaaGreatDoor
open Go PI
set_option linter.unusedVariables false
set_option linter.unusedSimpArgs false
set_option maxRecDepth 20000
variable {S:Type} {k:Nat}
end Go.Proofs.YtfkkpkhfjpaafaaGreatDoor
namespace Go.Proofs.YtfkkpkhfjpaafaaGreatDoor
open Go PI
set_option linter.unusedVariables false
set_option linter.unusedSimpArgs false
set_option maxRecDepth 20000
variable {S:Type} {k:Nat}
theorem aeW (hk:Fu k) (ret:Tm×Int→Option S) {c0 c2:Int} {c1:Tm} {ns:List Int} (hl:ns.length<1000) (hn: ∀x∈ns,0≤x):
  ∀ (r p:List Int) (m:Nat),ns=p++r→r.length<m→nD k ret c0 c1 c2 ns m (p.length:Int)=yY k c0 c1 c2 fun r4=>Pan.elim r4 (fun r4=>ret (r4,0)) fun e5=>ret (ao,e5):=by
 intro r
 induction r with
 |nil=>
  intro p m h hm
  obtain ⟨m,rfl,hm'⟩:=i9 hm
  simp only [nD,xb,akb h,ad,ag hk,ar];rfl
 |cons x r ih=>
  intro p m h hm
  obtain ⟨m,rfl,hm'⟩:=i9 hm
  obtain ⟨e1,e2,e3,e4⟩:=j3 h (by omega)
  have hx:=hn x (by grind)
  grind [nD,xb,aY]
theorem ajk (hk:F3 k) {t:Tm} (ht:Fm t) {f b:Int} (hf:0≤f∧f≤1000000) (hb:0≤b∧b≤1000000) (ret:Tm×Int→Option S):pj k t f b ret=ret (tE (acr b 0 f 0 t)):=by
 have hw:IntKind.wrap .i64 (1000000-b)=1000000-b:=aaf (by omega) (by omega)
 have hl:=aeW hk.fu ret (c0:=b) (c2:=f) (c1:=t) (ns:=[f,b,1000000-b]) (by simp) (by grind) [f,b,1000000-b] [] k rfl (by grind)
 have hl:nD k ret b t f [f,b,1000000-b] k 0=_:=hl
 simp only [pj,HX,ag hk.fu,ar,hw,y6,BR,amv ht.ok (ht.fd hk) (show am t<1099511627776 by have:=ht.dep;omega),ht.2,hl,yY,SU]
 rw [show ((0:Int)==0)=true from rfl,Bool.not_true,ad,if_neg (by omega),BA (by omega) (by unfold aG;omega) t ht.ok ht.rows _ (ht.fd hk) (ht.vp (by omega) (by omega)),ij,amt _ ret]
 rfl
def oK (f b:Int) (t:Tm):Except Int Tm:=fmE t (acr b 0 f 0 t)
theorem ai0 (hk:F3 k) {t:Tm} (ht:In k t) {f b:Int} (hf:0≤f∧f≤1000000) (hb:0≤b∧b≤1000000) (ret:Tm×Int→Option S):pj k t f b ret=ret (tE (oK f b t)):=by
 unfold oK fmE
 by_cases h:bw t=0
 ·rw [if_pos h];exact ajk hk ⟨ht.1,h⟩ hf hb ret
 ·rw [if_neg h]
  simp only [pj,HX,ag hk.fu,ar,y6,BR,amv ht.1 ht.2.1 ht.dep,dj h,Bool.not_false,ae];rfl
theorem ahE {n:Int} {t u:Tm}: ∀e,ri n t u= .error e→0<e∧e≤1000:=fun e h=>z7 (fun e h=>z7 (fun e h=>AL h) h) h
theorem Hf (hk:F4 k) {t u:Tm} {c:Int} (ht:c=0→In k t∧In k u) (ret:Tm×Int→Option S):za k t u c ret=ret (mM c (ri 0 t u)):=by
 simp only [za,S7,ag hk.f3.fu,dG,oI,ar,rJ]
 exact Az c (fun h g=>ajv hk (ht h).1 (ht h).2 (by omega) g) (FP ahE) ret
theorem ajm (hk:F3 k) {t a:Tm} {sys:List (Br Tm)} {c:Int} (ht:c=0→In k t∧In k a∧In k (J4 sys)) (hx: ∀e,soE [t,a,J4 sys] (amg t a sys)= .error e→e≠0) (ret:Tm×Int→Option S):y_ k t a sys c ret=ret (mM c (soE [t,a,J4 sys] (amg t a sys))):=by
 simp only [y_,S6,ag hk.fu,dG,oI,ar,rJ]
 exact Az c (fun h g=>aiO hk (ht h).1 (ht h).2.1 (ht h).2.2 g) hx ret
theorem Rx (hk:F3 k) {line a:Tm} {sys:List (Br Tm)} {c:Int} (ht:c=0→In k line∧In k a∧In k (J4 sys)) (hx: ∀e,soE [line,a,J4 sys] (dF line a sys)= .error e→e≠0) (ret:Tm×Int→Option S):y9 k line a sys c ret=ret (mM c (soE [line,a,J4 sys] (dF line a sys))):=by
 simp only [y9,S4,ag hk.fu,dG,oI,ar,rJ]
 exact Az c (fun h g=>aiI hk (ht h).1 (ht h).2.1 (ht h).2.2 g) hx ret
end Go.Proofs.YtfkkpkhfjpaafaaGreatDoor
namespace Go.Proofs.YtfkkpkhfjpaafaaGreatDoor
open Go PI
set_option linter.unusedVariables false
set_option linter.unusedSimpArgs false
set_option maxRecDepth 20000
variable {S:Type} {k:Nat}
theorem ZS {m:Tm} (fm:Fm m):(bE (oK 1 0 m) fun y=>pH 0 1 y)=J6 0 1 m:=by
 have hd:=fm.dep
 have h1:oK 1 0 m=acr 0 0 0 0 m:=by
  unfold oK fmE
  rw [if_pos fm.2]
  exact agi m (by omega) (by omega)
 rw [h1]
 unfold J6
 cases hh:acr 0 0 0 0 m with
 |error e=>rfl
 |ok y=>
  rw [aD,aD]
  have fy:=jr (by omega) fm hh
  unfold pH fmE
  rw [if_pos fy.2]
theorem Rv (hk:F3 k) {m:Tm} {c:Int} (hm:c=0→Fm m) (ret:Tm×Int→Option S):y8 k m 0 1 c ret=ret (mM c (J6 0 1 m)):=by
 simp only [y8,S3,ag hk.fu,dG,oI,ar,rJ]
 by_cases hc:c=0
 case neg=>rw [dj hc,Bool.not_false,ae,n9 hc];rfl
 have fm:=hm hc
 subst hc
 rw [show (!((0:Int)==0))=false from rfl,ad,kR,←ZS fm,ai0 hk (fm.isIn hk) (by omega) (by omega)]
 have hv:oK 1 0 m=acr 0 0 1 0 m:=by unfold oK fmE;rw [if_pos fm.2]
 rw [if_pos rfl,hv]
 cases hh:acr 0 0 1 0 m with
 |error e=>
  have he:=amo m hh
  rw [show (tE (.error e)).2=e from rfl,if_neg (show e≠0 by omega)]
  dsimp only
  rw [dj (show e≠0 by omega),Bool.not_false,ae];rfl
 |ok y=>
  have fy:=jr (by omega) fm hh
  rw [show (tE (.ok y)).2=0 from rfl,show (tE (.ok y)).1=y from rfl,if_pos rfl]
  dsimp only
  rw [show (!((0:Int)==0))=false from rfl,ad,aiM hk (fy.isIn hk) (by omega) (by omega),aD]
  have:=Lw (pH 0 1 y) (FP aak) 0
  rw [kR] at this
  rw [this]
end Go.Proofs.YtfkkpkhfjpaafaaGreatDoor
namespace Go.Proofs.YtfkkpkhfjpaafaaGreatDoor
open Go PI
set_option linter.unusedVariables false
set_option linter.unusedSimpArgs false
set_option maxRecDepth 20000
variable {S:Type} {k:Nat}
def alM:List Tm→Except Int (List Tm)
 |[]=> .ok []
 |y::l=>bE (J6 0 1 y) fun y'=>bE (alM l) fun l'=> .ok (y'::l')
abbrev ig (kd:Int) (p:Tm) (l:List Tm) (a:Tm):Tm:= .mk kd 0 ByteArray.empty [] (p::l++[a]) []
def ama (kd:Int) (b:Tm) (mid:List Tm):List (Br Tm)→Except Int (List (Br Tm))
 |[]=> .ok []
 |y::l=>bE (alM mid) fun m=>bE (ama kd b mid l) fun l'=> .ok (.mk y.face [ig kd b m (AK y)]::l')
def amf (kd:Int) (p:Tm) (mid:List Tm) (x:Tm):Except Int Tm:=
 bE (soE [x.kids.getD 0 ao,x.kids.getD 1 ao,J4 x.sys] (amg (x.kids.getD 0 ao) (x.kids.getD 1 ao) x.sys)) fun f=>
 bE (J6 0 1 p) fun b=>bE (ams 0 b f) fun line=>bE (ama kd b mid x.sys) fun l=>
 soE [line,ig kd p mid (x.kids.getD 1 ao),J4 l] (dF line (ig kd p mid (x.kids.getD 1 ao)) l)
def adR (t:Tm):Tm:=t.kids.getD (t.kids.length-1) ao
def ac3 (t:Tm):List Tm:=(t.kids.take (t.kids.length-1)).drop 1
def pP (t:Tm):Tm×Bool×Int:=
 if bw t≠0 then (ao,false,bw t) else
 if (t.kind=22∨t.kind=27)∧(adR t).kind=15 then iP (amf t.kind (t.kids.getD 0 ao) (ac3 t) (adR t)) else (ao,false,0)
theorem Ue: ∀ {l:List Tm} {e:Int},alM l= .error e→0<e∧e≤1000:=by
 intro l
 induction l with
 |nil=>intro e h;cases h
 |cons y l ih=>
  intro e h
  rw [alM] at h
  rcases be h with h|⟨_,_,h⟩
  ·exact al3 h
  rcases be h with h|⟨_,_,h⟩
  ·exact ih h
  ·cases h
end Go.Proofs.YtfkkpkhfjpaafaaGreatDoor
namespace Go.Proofs.YtfkkpkhfjpaafaaGreatDoor
open Go PI
set_option linter.unusedVariables false
set_option linter.unusedSimpArgs false
set_option maxRecDepth 20000
variable {S:Type} {k:Nat}
theorem aeM (ret:Int×Int×ByteArray×List Tm×Int→Option S) (hk:F3 k) {c0 a:Tm} {c1 e:Int} {mid:List Tm} (hm:List.drop (Int.toNat 1) (List.take (Int.toNat c1) c0.kids)=mid) (hl:mid.length<1073741823):
  ∀ (r p acc:List Tm) (m:Nat),mid=p++r→r.length<m→acc.length+r.length<1073741824→
   kq k ret c0 c1 a 0 m e acc (p.length:Int)=ret (c0.kind,0,ByteArray.empty,acc++r++[a],e):=by
 intro r
 induction r with
 |nil=>
  intro p acc m h hm' ha
  obtain ⟨m,rfl,hm''⟩:=i9 hm'
  simp only [kq,oS,hm,akb h,ad,ar,ag hk.fu,zc,H1,List.append_nil]
  rw [J5 (by simp;simp at ha;omega)]
 |cons y r ih=>
  intro p acc m h hm' ha
  obtain ⟨m,rfl,hm''⟩:=i9 hm'
  obtain ⟨e1,e2,e3,e4⟩:=j3 h (by omega)
  rw [List.length_cons] at ha
  simp only [kq,oS,hm,e1,ae,e2,Option.bind_some,ar,e3]
  rw [show decide ((0:Int)>0)=false from rfl,ad,J5 (by simp;omega)]
  refine (ih (p++[y]) (acc++[y]) m e4 hm'' (by rw [List.length_append,List.length_singleton];omega)).trans ?_
  simp
theorem aeN (ret:Int×Int×ByteArray×List Tm×Int→Option S) (hk:F3 k) {c0 a:Tm} {c1:Int} {mid:List Tm} (hm:List.drop (Int.toNat 1) (List.take (Int.toNat c1) c0.kids)=mid) (hl:mid.length<1073741823) (hf: ∀y∈mid,Fm y):
  ∀ (r p acc:List Tm) (m:Nat) (c:Int),mid=p++r→r.length<m→acc.length+r.length<1073741824→
   ∃l,kq k ret c0 c1 a 1 m c acc (p.length:Int)=ret (c0.kind,0,ByteArray.empty,acc++l++[a],match stE c (alM r) with| .ok _=>0| .error e=>e)∧ ∀l',stE c (alM r)= .ok l'→l=l':=by
 intro r
 induction r with
 |nil=>
  intro p acc m c h hm' ha
  obtain ⟨m,rfl,hm''⟩:=i9 hm'
  refine ⟨[], ?_,fun l' h=> ?_⟩
  ·simp only [kq,oS,hm,akb h,ad,ar,ag hk.fu,zc,H1,List.append_nil]
   rw [J5 (by simp;simp at ha;omega)]
   by_cases hc:c=0
   ·subst hc;rfl
   ·rw [lb hc]
  ·by_cases hc:c=0
   ·subst hc;rw [oH,alM] at h;injection h
   ·rw [lb hc] at h;cases h
 |cons y r ih=>
  intro p acc m c h hm' ha
  obtain ⟨m,rfl,hm''⟩:=i9 hm'
  obtain ⟨e1,e2,e3,e4⟩:=j3 h (by omega)
  rw [List.length_cons] at ha
  have fy:Fm y:=hf y (by rw [h];simp)
  have hup:wA 0 1 y=J6 0 1 y:=if_pos fy.2
  obtain ⟨l,h1,h2⟩:=ih (p++[y]) (acc++[(mM c (J6 0 1 y)).1]) m (mM c (J6 0 1 y)).2 e4 hm'' (by rw [List.length_append,List.length_singleton];omega)
  have hst:stE c (alM (y::r))=bE (stE c (J6 0 1 y)) fun y'=>bE (stE (mM c (J6 0 1 y)).2 (alM r)) fun l'=> .ok (y'::l'):=by
   by_cases hc:c=0
   ·subst hc
    rw [oH,oH,alM,kR]
    cases J6 0 1 y with
    |error e=>rfl
    |ok y'=>rfl
   ·rw [lb hc,lb hc];rfl
  refine ⟨(mM c (J6 0 1 y)).1::l, ?_,fun l' hl'=> ?_⟩
  ·simp only [kq,oS,hm,e1,ae,e2,Option.bind_some,ar,e3,ag hk.fu]
   rw [show decide ((1:Int)>0)=true from rfl,ae,ajn hk (fun _=>fy.isIn hk) (by omega) (by omega),hup,J5 (by simp;omega)]
   refine h1.trans ?_
   rw [hst]
   have hE:(match stE (mM c (J6 0 1 y)).2 (alM r) with| .ok _=>(0:Int)| .error e=>e)=match bE (stE c (J6 0 1 y)) fun y'=>bE (stE (mM c (J6 0 1 y)).2 (alM r)) fun l'=> .ok (y'::l') with| .ok _=>(0:Int)| .error e=>e:=by
    by_cases hc:c=0
    ·subst hc
     rw [oH,kR]
     cases hh:J6 0 1 y with
     |error e=>
      have he:=al3 hh
      rw [show (tE (.error e)).2=e from rfl,lb (show e≠0 by omega)];rfl
     |ok y'=>
      rw [show (tE (.ok y')).2=0 from rfl,oH,aD]
      cases alM r<;>rfl
    ·rw [n9 hc,lb hc,lb hc];rfl
   rw [hE]
   simp
  ·rw [hst] at hl'
   obtain ⟨y',g1,hl'⟩:=i8 hl'
   obtain ⟨l2,g2,hl'⟩:=i8 hl'
   injection hl' with hl'
   subst hl'
   have hc:c=0:=by
    by_cases hc:c=0
    ·exact hc
    ·rw [lb hc] at g1;cases g1
   subst hc
   rw [oH] at g1
   rw [h2 l2 g2,kR,g1];rfl
end Go.Proofs.YtfkkpkhfjpaafaaGreatDoor
namespace Go.Proofs.YtfkkpkhfjpaafaaGreatDoor
open Go PI
set_option linter.unusedVariables false
set_option linter.unusedSimpArgs false
set_option maxRecDepth 20000
variable {S:Type} {k:Nat}
theorem ao8 {n:Nat} {l:List (Br Tm)} (h:Bs' n l) {f:List Cl} (hf:aq f∧f.length<1073741824) {t:Tm} (ht:Sm n t):Bs' n (⟨f,[t]⟩::l):=by
 refine ⟨?_, ?_, ?_⟩
 ·rw [ba,fc,aZ,aZ];exact ⟨⟨⟨hf.1,hf.2,by simp⟩,ht.ok,trivial⟩,h.ok⟩
 ·rw [aI,fG,ay,ay,List.length_cons,Nat.succ_mul]
  have:=h.siz;have:=ht.siz;omega
 ·rw [aO,eB,aH,aH]
  have:=h.dep;have:=ht.dep;omega
theorem apc {r:List Cl} (hr:RX true r) {line:Tm} (fl:Fm line): ∀ {l l':List (Br Tm)},(∀b∈l,b.kids=[AK b]∧Fm (AK b)∧RX true b.face)→amw r line l= .ok l'→Bs' 50000 l'∧l'.length=l.length∧aO l'≤299:=by
 intro l
 induction l with
 |nil=>intro l' _ h;cases h;exact ⟨Dp _,rfl,by rw [aO];omega⟩
 |cons b l ih=>
  intro l' hl h
  rw [amw] at h
  cases h1:toE (agS r 0 1) with
  |error e=>rw [h1] at h;cases h
  |ok phi=>
  rw [h1,aD] at h
  cases h2:acr 0 1 0 1 line with
  |error e=>rw [h2] at h;cases h
  |ok ln=>
  rw [h2,aD] at h
  cases h3:amw r line l with
  |error e=>rw [h3] at h;cases h
  |ok l2=>
  rw [h3,aD] at h
  injection h with h
  subst h
  obtain ⟨i1,i2,i3⟩:=ih (fun x hx=>hl x (by simp [hx])) h3
  obtain ⟨b1,b2,b3⟩:=hl b (by simp)
  have fln:=jr (by omega) fl h2
  have hphi:aq phi∧phi.length<1073741824:=by
   have hlk:=aoE (b:=1) hr.1
   unfold toE at h1
   split at h1
   ·injection h1 with h1;subst h1;exact hlk
   ·cases h1
  have hs:=aol hphi fln.sm b2.sm (by have:=fln.dep;omega) (by have:=b2.dep;omega)
  refine ⟨ao8 i1 (G9 b3) (hs.mono (by omega)),by rw [List.length_cons,List.length_cons,i2], ?_⟩
  rw [aO,eB,aH,aH]
  have:am (aml phi ln (AK b))≤201:=by
   rw [am,aH,aH,aH,aO];have:=b2.dep;have:=fln.dep;omega
  omega
theorem nR (hk:F3 k) {t:Tm} (ft:Fm t) (h14:t.kind=14) (h23:(t.kids.getD 0 ao).kind=23) (hx:(t.kids.getD 1 ao).kind=24∨(t.kids.getD 1 ao).kind=25∨(t.kids.getD 1 ao).kind=26∨(t.kids.getD 1 ao).kind=15) {y:Tm} (h:gh t.r (t.kids.getD 0 ao) (t.kids.getD 1 ao)= .ok y):In k y∧0<y.kind:=by
 obtain ⟨line,x,hkd⟩:=I8 (E5 ft h14 (n:=2) rfl)
 obtain ⟨d0,d1⟩:=EC hkd
 have fl:Fm line:=ft.kid (by rw [hkd];simp)
 have fx:Fm x:=ft.kid (by rw [hkd];simp)
 have hr:=ft.r14 h14
 rw [d0] at h23
 rw [d0,d1] at h
 rw [d1] at hx
 unfold gh at h
 split at h
 case isTrue hc=>injection h with h;subst h;exact ⟨fx.isIn hk,by omega⟩
 rename_i hc
 split at h
 case isTrue h26=>
  injection h with h;subst h
  obtain ⟨u,hu⟩:=jH (E5 fl h23 (n:=1) rfl)
  obtain ⟨w,hw⟩:=jH (E5 fx h26 (n:=1) rfl)
  have:=nS hr hu hw fl fx
  rw [hu,hw]
  exact ⟨this.isIn hk (by omega),show (0:Int)<26 by decide⟩
 rename_i h26
 have h15:x.kind=15:=by omega
 obtain ⟨u,a,hxk⟩:=I8 (E5 fx h15 (n:=2) rfl)
 obtain ⟨dx0,dx1⟩:=EC hxk
 have fa:Fm a:=fx.kid (by rw [hxk];simp)
 obtain ⟨sy,syl⟩:=fx.sy h15
 cases h1:ame 0 [⟨0,0⟩] line with
 |error e=>rw [h1] at h;cases h
 |ok e=>
 rw [h1,aD] at h
 cases h2:amw t.r line x.sys with
 |error e=>rw [h2] at h;cases h
 |ok l=>
 rw [h2,aD,dx1] at h
 injection h with h
 subst h
 obtain ⟨q1,q2,q3⟩:=akM fl h1
 obtain ⟨b1,b2,b3⟩:=apc hr fl sy h2
 exact ⟨(aoX hr ⟨q1,q3,(show am e≤300 by omega)⟩ q2 fl fa b1 (by omega) b3).isIn hk (by omega),show (0:Int)<15 by decide⟩
theorem apb (hk:F3 k) {t:Tm} (ht:In k t):In k (h_ t).1:=by
 unfold h_
 by_cases h0:bw t=0
 case neg=>rw [if_pos h0];exact gQ hk
 rw [if_neg (by simp [h0])]
 have ft:Fm t:=⟨ht.1,h0⟩
 split
 case isTrue hc=>
  cases hh:gh t.r (t.kids.getD 0 ao) (t.kids.getD 1 ao) with
  |error e=>exact gQ hk
  |ok y=>
   have:=nR hk ft hc.1 hc.2.1 hc.2.2 hh
   show In k (if bw y=0 then (y,true,(0:Int)) else (ao,false,bw y)).1
   split
   ·exact this.1
   ·exact gQ hk
 case isFalse hc=>exact gQ hk
end Go.Proofs.YtfkkpkhfjpaafaaGreatDoor
namespace Go.Proofs.YtfkkpkhfjpaafaaGreatDoor
open Go PI
set_option linter.unusedVariables false
set_option linter.unusedSimpArgs false
set_option maxRecDepth 20000
def b7 (Φ:Nat→Prop) (f:List Cl):Prop:= ∀c∈f,∀j,hp c j∨hn c j→Φ j
theorem anY {Φ Ψ:Nat→Prop} {f:List Cl} (h:b7 Φ f) (hi: ∀j,Φ j→Ψ j):b7 Ψ f:=fun c hc j hj=>hi j (h c hc j hj)
theorem al7 (Φ:Nat→Prop):b7 Φ []:=fun c hc=>by cases hc
theorem ou {Φ:Nat→Prop} {f g:List Cl} (h:b7 Φ f) (hs: ∀c∈g,c∈f):b7 Φ g:=fun c hc=>h c (hs c hc)
theorem uZ {Φ:Nat→Prop} {f g:List Cl} (h:b7 Φ f) (h':b7 Φ g):b7 Φ (f++g):=fun c hc=>(List.mem_append.1 hc).elim (h c) (h' c)
theorem jy {Φ:Nat→Prop} {f:List Cl} (h:b7 Φ f):b7 Φ (bp f).1:=by
 unfold bp
 split
 ·split
  ·exact al7 _
  ·exact ou h fun c hc=>(mem_mins.1 hc).1
 ·exact al7 _
theorem aoG {Φ:Nat→Prop} {f g:List Cl} (h:b7 Φ f) (h':b7 Φ g):b7 Φ (meets f g):=fun c hc j hj=>by
 unfold meets at hc
 obtain ⟨a,ha,hc⟩:=List.mem_flatMap.1 hc
 obtain ⟨b,hb,rfl⟩:=List.mem_map.1 hc
 rw [apD,apA] at hj
 rcases hj with (hj|hj)|(hj|hj)
 ·exact h a ha j (.inl hj)
 ·exact h' b hb j (.inl hj)
 ·exact h a ha j (.inr hj)
 ·exact h' b hb j (.inr hj)
theorem lits_one {Φ:Nat→Prop} {c:Cl}:b7 Φ [c]↔ ∀j,hp c j∨hn c j→Φ j:=⟨fun h=>h c (by simp),fun h d hd=>by simp at hd;subst hd;exact h⟩
theorem aor {Φ:Nat→Prop} {f g:List Cl} (h:b7 Φ f) (h':b7 Φ g):b7 Φ (alO f g).1:=jy (uZ h h')
theorem aou {Φ:Nat→Prop} {f g:List Cl} (h:b7 Φ f) (h':b7 Φ g):b7 Φ (alV f g).1:=jy (aoG h h')
theorem aos {Φ:Nat→Prop} {f:List Cl} (h:b7 Φ f):b7 Φ (gN f).1:=jy (ou h fun c hc=>(Ds hc).1)
theorem aoq {Φ:Nat→Prop} {step:List Cl→Cl→List Cl×Int}: ∀ {l h:List Cl},(∀c∈l,∀h,b7 Φ h→b7 Φ (step h c).1)→b7 Φ h→b7 Φ (adU step h l).1:=by
 intro l
 induction l with
 |nil=>intro h _ hh;exact hh
 |cons c l ih=>
  intro h hs hh
  unfold adU
  split
  ·exact ih (fun d hd=>hs d (by simp [hd])) (hs c (by simp) h hh)
  ·first|exact al7 _|exact hs c (by simp) h hh
theorem u6 {Φ:Nat→Prop} {c:Cl} (hc:RC c) (h: ∀j,hp c j∨hn c j→Φ j):b7 Φ (oj c).1:=by
 refine jy fun d hd j hj=> ?_
 have hl: ∀ {s:Int} {x:Int},x∈amp s→ ∃n:Nat,n<24∧s.toNat.testBit n=true∧x=n:=by
  intro s x hx
  unfold amp ints at hx
  obtain ⟨n,hn,rfl⟩:=List.mem_map.1 hx
  have:=mem_bitsN.1 hn
  exact ⟨n,this.1,this.2,rfl⟩
 unfold jI at hd
 rcases List.mem_append.1 hd with hd|hd
 ·obtain ⟨x,hx,rfl⟩:=List.mem_map.1 hd
  obtain ⟨n,h1,h2,rfl⟩:=hl hx
  rcases hj with hj|hj
  ·exact absurd hj (apE n h1 j)
  ·rw [(apB n h1 j).1 hj];exact h n (.inl h2)
 ·obtain ⟨x,hx,rfl⟩:=List.mem_map.1 hd
  obtain ⟨n,h1,h2,rfl⟩:=hl hx
  rcases hj with hj|hj
  ·rw [(apF n h1 j).1 hj];exact h n (.inr h2)
  ·exact absurd hj (apC n h1 j)
theorem u5 {Φ:Nat→Prop} {f:List Cl} (hf:RF f) (h:b7 Φ f):b7 Φ (alU f).1:=
 aoq (fun c hc g hg=>aou hg (u6 (hf.rc hc) (h c hc))) (lits_one.2 fun j hj=>by rcases hj with hj|hj<;>simp [hp,hn] at hj)
theorem apz {c:Cl} {n:Nat} (hn24:n<24) {j:Nat} (h:hp (gap n c) j∨hn (gap n c) j):(hp c j∨hn c j)∧j≠n:=by
 unfold hp hn gap at h
 rw [ao3 hn24,ao3 hn24] at h
 simp only [Bool.and_eq_true,Bool.not_eq_true',decide_eq_false_iff_not] at h
 exact h.elim (fun h=>⟨.inl h.1.1,h.2⟩) fun h=>⟨.inr h.1.1,h.2⟩
theorem u7 {fa:Bool} {Φ:Nat→Prop} {n:Nat} (hn24:n<24) {f r:List Cl} (hr:RF r) (h:b7 (fun j=>j≠n→Φ j) f) (h':b7 Φ r):b7 Φ (aoc fa f n r).1:=by
 have hg: ∀c∈f,b7 Φ [gap n c]:=fun c hc=>lits_one.2 fun j hj=>by
  obtain ⟨h1,h2⟩:=apz hn24 hj
  exact h c hc j h1 h2
 have hz:b7 Φ (alU r).1:=u5 hr h'
 unfold aoc
 cases fa
 ·show b7 Φ (iH f n r).1
  unfold iH
  split
  ·refine aoq (fun c hc g hh=> ?_) (al7 _)
   have hA:b7 Φ (d_ n r c).1:=by
    unfold d_
    split
    ·exact aou (hg c hc) h'
    ·exact hg c hc
   have hB:b7 Φ (amk n r c (d_ n r c).1).1:=by
    unfold amk
    split
    ·split
     ·exact aou hA hz
     ·exact al7 _
    ·exact hA
   unfold dY
   split
   ·split
    ·exact aor hh hB
    ·exact al7 _
   ·exact al7 _
  ·exact al7 _
 ·show b7 Φ (iG f n r).1
  unfold iG
  split
  ·refine aoq (fun c hc g hh=> ?_) (al7 _)
   have hG: ∀ {q:List Cl×Int},b7 Φ q.1→b7 Φ (al8 n c g q).1:=fun hq=>by
    unfold al8
    split
    ·split
     ·exact aor hh (aos (aoG (hg c hc) hq))
     ·exact al7 _
    ·exact al7 _
   unfold alL
   split
   ·refine hG ?_
    unfold ofS
    split
    ·exact aos h'
    ·exact al7 _
   ·split
    ·refine hG ?_
     unfold ofZ
     split
     ·split
      ·exact aos hz
      ·exact al7 _
     ·exact al7 _
    ·exact aor hh (hg c hc)
  ·exact al7 _
theorem u4 {Φ:Nat→Prop} {f:List Cl} (hf:RF f) {n:Nat} (hn24:n<24) (h:b7 (fun x=>x≠n→Φ (iy n x)) f):b7 Φ (ac2 n f):=by
 unfold ac2
 refine jy fun c hc j hj=> ?_
 obtain ⟨d,hd,rfl⟩:=List.mem_map.1 hc
 rcases hj with hj|hj
 ·obtain ⟨x,hx,he,rfl⟩:=(ma hn24 (hf.rc hd).1 j).1 hj
  exact h d hd x (.inl hx) he
 ·obtain ⟨x,hx,he,rfl⟩:=(ma hn24 (hf.rc hd).2 j).1 hj
  exact h d hd x (.inr hx) he
theorem aot {Φ:Nat→Prop} {f:List Cl} (hf:RF f) {n b:Nat} (h0:(agS f n b).2=0) (h:b7 (fun x=>Φ (up1 n b x)) f):b7 Φ (agS f n b).1:=by
 unfold agS at h0 ⊢
 rw [if_pos hf.right] at h0 ⊢
 split at h0
 case isFalse h1=>exact absurd h0 h1
 rename_i h1
 rw [if_pos h1]
 obtain ⟨e1,e2⟩:=apw h1
 refine jy ?_
 rw [e1,List.nil_append]
 intro c hc j hj
 obtain ⟨d,hd,rfl⟩:=List.mem_map.1 hc
 obtain ⟨q1,q2,q3⟩:=apV (e2 d hd)
 rw [q3] at hj
 rcases hj with hj|hj
 ·obtain ⟨x,hx,rfl⟩:=(aoF (hf.rc hd).1 q1 j).1 hj
  exact h d hd x (.inl hx)
 ·obtain ⟨x,hx,rfl⟩:=(aoF (hf.rc hd).2 q2 j).1 hj
  exact h d hd x (.inr hx)
theorem an1 {f:List Cl} (hf:RF f) {d:Int}:dg f d=true↔b7 (fun j=>(j:Int)<d) f:=by
 unfold dg
 rw [decide_eq_true_eq]
 have: ∀i:Nat,i∈bW (fS f)↔i<24∧ ∃c∈f,hp c i∨hn c i:=fun i=>by
  rw [mem_bitsN,D7]
  unfold jJ hp hn
  simp only [Bool.and_eq_true,List.any_eq_true,Bool.or_eq_true,decide_eq_true_eq]
  exact ⟨fun h=>⟨h.1,h.2.1⟩,fun h=>⟨h.1,h.2,h.1⟩⟩
 constructor
 ·intro h c hc j hj
  exact h j ((this j).2 ⟨hj.elim (aoM (hf.rc hc)) (aoL (hf.rc hc)),c,hc,hj⟩)
 ·intro h i hi
  obtain ⟨_,c,hc,hj⟩:=(this i).1 hi
  exact h c hc i hj
end Go.Proofs.YtfkkpkhfjpaafaaGreatDoor
namespace Go.Proofs.YtfkkpkhfjpaafaaGreatDoor
open Go PI
set_option linter.unusedVariables false
set_option linter.unusedSimpArgs false
set_option maxRecDepth 20000
theorem aow {f g:List Cl} {d b D:Int} (hf:RF f) (hd:0≤d) (hb:0≤b) (hl:dg f D=true) (h:alN d b f= .ok g):dg g (D+b)=true:=by
 have rg:=GY hf h
 obtain ⟨n,rfl⟩:=aoh hd
 obtain ⟨m,rfl⟩:=aoh hb
 rw [an1 hf] at hl
 rw [an1 rg]
 unfold alN at h
 split at h
 ·injection h with h;subst h
  exact anY hl fun j hj=>by omega
 ·obtain ⟨h0,rfl⟩:=rR h
  exact aot hf h0 (anY hl fun j hj=>by unfold up1;split<;>omega)
theorem aov {f:List Cl} {d e:Int} (hf:RF f) (h:dg f d=true) (hde:d≤e):dg f e=true:=by
 rw [an1 hf] at h ⊢
 exact anY h fun j hj=>by omega
theorem ov {fa:Bool} {r f g:List Cl} {n D:Int} (hf:RF f) (hr:RF r) (hn:0≤n) (hnD:n≤D) (hl:dg f (D+1)=true) (hlr:b7 (fun j=>j≠0∧(j:Int)<D-n+1) r) (h:foX 0 r fa n f= .ok g):dg g D=true:=by
 obtain ⟨n,rfl⟩:=aoh hn
 rw [uz] at h
 obtain ⟨m,h1,h⟩:=i8 h
 injection h with h;subst h
 have rm:=rB hf h1
 rw [Int.zero_add]
 by_cases hn24:n<24
 ·have hm:b7 (fun j=>j≠n→((j:Int)<D+1)) m∧(an7 f n→m=f)∧(¬an7 f n→b7 (fun j=>j≠n∧(j:Int)<D+1) m):=by
   rw [an1 hf] at hl
   unfold acJ at h1
   rw [Int.zero_add] at h1
   split at h1
   ·rename_i hh
    obtain ⟨s,es,h1⟩:=i8 h1
    obtain ⟨h0,rfl⟩:=rR es
    obtain ⟨h2,rfl⟩:=rR h1
    have hls:b7 (fun j=>j≠n∧(j:Int)<D+1) (agS r 0 n).1:=aot (n:=0) hr h0 (anY hlr fun j hj=>by unfold up1;rw [if_neg (by omega)];omega)
    have:=u7 (fa:=fa) (f:=f) hn24 (kQ h0) (anY hl fun j hj (hne:j≠n)=>⟨hne,hj⟩) hls
    exact ⟨anY this fun j hj _=>hj.2,fun h=>absurd h (has_dims.1 hh).2,fun _=>this⟩
   ·rename_i hh
    injection h1 with h1;subst h1
    exact ⟨anY hl fun j hj _=>hj,fun _=>rfl,fun h=>absurd (has_dims.2 ⟨hn24,h⟩) hh⟩
  rw [an1 (aad rm.len)]
  refine u4 rm hn24 ?_
  by_cases hk:an7 f n
  ·have e:=hm.2.1 hk
   subst e
   refine anY hm.1 fun x hx hxn=> ?_
   have:=hx hxn
   unfold iy;split<;>omega
  ·refine anY (hm.2.2 hk) fun x hx _=> ?_
   have:=hx.1;have:=hx.2
   unfold iy;split<;>omega
 ·rw [nT rm (by omega)]
  have:m=f:=by
   unfold acJ at h1
   rw [Int.zero_add,if_neg (fun h=>hn24 (has_dims.1 h).1)] at h1
   injection h1 with h1;exact h1.symm
  subst this
  rw [an1 rm] at hl ⊢
  refine fun c hc j hj=> ?_
  have:j<24:=hj.elim (aoM (rm.rc hc)) (aoL (rm.rc hc))
  omega
mutual
def j1:Tm→Int
 | .mk kd _ _ _ ks sys=>max (dI kd 0 ks) (cx sys)
def dI (kd:Int) (i:Nat):List Tm→Int
 |[]=>0
 |t::l=>max (bJ kd i+j1 t) (dI kd (i+1) l)
def cx:List (Br Tm)→Int
 |[]=>0
 |b::l=>max (bdB b) (cx l)
def bdB:Br Tm→Int
 | .mk _ ks=>cX ks
def cX:List Tm→Int
 |[]=>0
 |t::l=>max (1+j1 t) (cX l)
end
theorem mj (kd:Int): ∀ (l:List Tm) (i:Nat),0≤dI kd i l:=by
 intro l
 induction l with
 |nil=>intro i;rw [dI];decide
 |cons t l ih=>intro i;rw [dI];have:=ih (i+1);omega
theorem qK (l:List (Br Tm)):0≤cx l:=by
 induction l with
 |nil=>rw [cx];decide
 |cons t l ih=>rw [cx];omega
theorem an3 (t:Tm):0≤j1 t:=by
 cases t;rw [j1];rename_i kd _ _ _ ks _;have:=mj kd ks 0;omega
abbrev bB (V D:Int) (t:Tm):Prop:=a6 true V D t=true
abbrev kU (bd:Bool) (vb db:Int) (x:Tm):Prop:= ∀ {v d V D:Int} {t':Tm},0≤d→0≤V→OkT x→RowsT x→a6 bd V D x=true→(bd=true→D+db+j1 x≤24)→acr vb db v d x= .ok t'→a6 bd (V+vb) (D+db) t'=true
section
variable {bd:Bool} {vb db kd:Int}
theorem aqt {V v:Int} (hV:0≤V) (hvb:0≤vb) (hv:0≤v):cQ (V+vb) v=cQ V v+vb∧0≤cQ V v:=by
 unfold cQ;rw [if_neg (by omega),if_neg (by omega)];omega
theorem aqd (hvb:0≤vb): ∀ {l l':List Tm} {i:Nat} {v d V D:Int},(∀x∈l,kU bd vb db x)→0≤d→0≤V→aZ l→dQ l→bO bd V D kd i l=true→(bd=true→D+db+dI kd i l≤24)→dm vb db v d kd i l= .ok l'→bO bd (V+vb) (D+db) kd i l'=true:=by
 intro l
 induction l with
 |nil=>intro l' i v d V D _ _ _ _ _ _ _ h;rw [dm] at h;injection h with h;subst h;rw [bO]
 |cons t l ih=>
  intro l' i v d V D h hd hV ho hr ha hb hl
  rw [dm] at hl
  obtain ⟨t',e1,hl⟩:=i8 hl
  obtain ⟨m,e2,hl⟩:=i8 hl
  injection hl with hl;subst hl
  rw [aZ] at ho
  rw [dQ] at hr
  rw [bO,Bool.and_eq_true] at ha ⊢
  rw [dI] at hb
  have:=gr kd i;have:=g7 kd i
  obtain ⟨q1,q2⟩:=aqt (v:=bz kd i) hV hvb (by omega)
  refine ⟨?_,ih (fun x hx=>h x (by simp [hx])) hd hV ho.2 hr.2 ha.2 (fun e=>by have:=hb e;omega) e2⟩
  have:=h t (by simp) (by omega) q2 ho.1 hr.1 ha.1 (fun e=>by have:=hb e;omega) e1
  rw [q1,show D+db+bJ kd i=D+bJ kd i+db by omega];exact this
theorem aqe (hvb:0≤vb): ∀ {l l':List Tm} {v d V D:Int},av kd≤1→(∀x∈l,kU bd vb db x)→0≤d→0≤V→aZ l→dQ l→ca bd V D kd l=true→(bd=true→D+db+cX l≤24)→alP vb db v d kd l= .ok l'→ca bd (V+vb) (D+db) kd l'=true:=by
 intro l
 induction l with
 |nil=>intro l' v d V D _ _ _ _ _ _ _ _ h;rw [alP] at h;injection h with h;subst h;rw [ca]
 |cons t l ih=>
  intro l' v d V D hm h hd hV ho hr ha hb hl
  rw [alP] at hl
  obtain ⟨t',e1,hl⟩:=i8 hl
  obtain ⟨m,e2,hl⟩:=i8 hl
  injection hl with hl;subst hl
  rw [aZ] at ho
  rw [dQ] at hr
  rw [ca,Bool.and_eq_true] at ha ⊢
  rw [cX] at hb
  have:=dy kd
  refine ⟨?_,ih hm (fun x hx=>h x (by simp [hx])) hd hV ho.2 hr.2 ha.2 (fun e=>by have:=hb e;omega) e2⟩
  have:=h t (by simp) (by omega) hV ho.1 hr.1 ha.1 (fun e=>by have:=hb e;omega) e1
  rw [show D+db+av kd=D+av kd+db by omega];exact this
theorem aqf (hvb:0≤vb): ∀ {l l':List (Br Tm)} {v d V D:Int},(∀b∈l,∀x∈b.kids,kU bd vb db x)→0≤d→0≤V→ba l→eA l→ck bd V D kd l=true→(bd=true→D+db+cx l≤24)→alT vb db v d kd l= .ok l'→ck bd (V+vb) (D+db) kd l'=true:=by
 intro l
 induction l with
 |nil=>intro l' v d V D _ _ _ _ _ _ _ h;rw [alT] at h;injection h with h;subst h;rw [ck]
 |cons b l ih=>
  intro l' v d V D h hd hV ho hr ha hb hl
  rw [alT] at hl
  obtain ⟨b',e1,hl⟩:=i8 hl
  obtain ⟨m,e2,hl⟩:=i8 hl
  injection hl with hl;subst hl
  obtain ⟨f,ks⟩:=b
  rw [n8] at e1
  obtain ⟨f',e3,e1⟩:=i8 e1
  obtain ⟨ks',e4,e1⟩:=i8 e1
  injection e1 with e1;subst e1
  rw [ba,fc] at ho
  rw [eA,mZ] at hr
  rw [ck,jT,Bool.and_eq_true] at ha ⊢
  rw [cx,bdB] at hb
  have hb:bd=true→D+db+max (cX ks) (cx l)≤24:=hb
  exact ⟨aqe hvb (dy kd).2 (h ⟨f,ks⟩ (by simp)) hd hV ho.1.2 hr.1.2 ha.1 (fun e=>by have:=hb e;show D+db+cX ks≤24;omega) e4,ih (fun b hb=>h b (by simp [hb])) hd hV ho.2 hr.2 ha.2 (fun e=>by have:=hb e;omega) e2⟩
theorem apQ: ∀ {l l':List Tm} {v d:Int} {i:Nat},dm vb db v d kd i l= .ok l'→l'.length=l.length:=by
 intro l
 induction l<;>grind [dm,→i8]
theorem apU: ∀ {l l':List (Br Tm)} {v d:Int},alT vb db v d kd l= .ok l'→l'.length=l.length:=by
 intro l
 induction l<;>grind [alT,→i8]
theorem apT: ∀ {l l':List Tm} {v d:Int},alP vb db v d kd l= .ok l'→l'.length=l.length:=by
 intro l
 induction l<;>grind [alP,→i8]
theorem ao7 (hdb:0≤db): ∀ {l l':List (Br Tm)} {v d D:Int},0≤d→ba l→l.all (bX kd D)=true→alT vb db v d kd l= .ok l'→l'.all (bX kd (D+db))=true:=by
 intro l
 induction l with
 |nil=>intro l' v d D _ _ _ h;rw [alT] at h;injection h with h;subst h;rfl
 |cons b l ih=>
  intro l' v d D hd ho ha hl
  rw [alT] at hl
  obtain ⟨b',e1,hl⟩:=i8 hl
  obtain ⟨m,e2,hl⟩:=i8 hl
  injection hl with hl;subst hl
  obtain ⟨f,ks⟩:=b
  rw [n8] at e1
  obtain ⟨f',e3,e1⟩:=i8 e1
  obtain ⟨ks',e4,e1⟩:=i8 e1
  injection e1 with e1;subst e1
  rw [ba,fc] at ho
  rw [List.all_cons,Bool.and_eq_true] at ha ⊢
  refine ⟨?_,ih hd ho.2 ha.2 e2⟩
  have h1:=ha.1
  unfold bX at h1 ⊢
  simp only [Bool.and_eq_true,decide_eq_true_eq] at h1 ⊢
  have hx:=(oB ho.1.1.1).1 h1.2.1
  exact ⟨by rw [apT e4];exact h1.1,QF e3 ho.1.1.1 h1.2.1,aow hx.1 hd hdb h1.2.2 e3⟩
theorem aof (hvb:0≤vb) (hdb:0≤db) (t:Tm):kU bd vb db t:=by
 induction t using gq with
 |h kd n nm r ks sys ih1 ih2=>
  intro v d V D t' hd hV hok hro ha hb h
  have hrx:=hro
  rw [RowsT] at hro
  rw [acr] at h
  split at h
  ·cases h
  obtain ⟨r1,e1,h⟩:=i8 h
  obtain ⟨ks1,e2,h⟩:=i8 h
  obtain ⟨sys1,e3,h⟩:=i8 h
  injection h with h;subst h
  rw [a6] at ha ⊢
  rw [j1] at hb
  obtain ⟨o1,o2,o3,o4,o5,o6,o7⟩:=hok.node
  have hok':=hok
  rw [OkT] at hok'
  have b0:=mj kd ks 0
  simp only [Bool.and_eq_true] at ha ⊢
  obtain ⟨q1,q2,q3,q4⟩:=ha
  refine ⟨?_, ?_,aqd hvb ih1 hd hV hok'.2.1 hro.2.1 q3 (fun e=>by have:=hb e;omega) e2,aqf hvb ih2 hd hV hok'.2.2 hro.2.2 q4 (fun e=>by have:=hb e;omega) e3⟩
  ·cases bd with
   |false=>rfl
   |true=>
    have:=hb rfl
    rw [decide_eq_false (by omega)];rfl
  unfold cL at q2 ⊢
  simp only [Bool.and_eq_true,decide_eq_true_eq] at q2 ⊢
  obtain ⟨⟨a1,a2,a3,a4⟩,a5⟩:=q2
  refine ⟨⟨by rw [apQ e2];exact a1, ?_,a3,by rw [apU e3];exact a4⟩, ?_⟩
  ·by_cases c:kd=1
   ·exact .inl c
   ·exact .inr (by rw [if_neg (fun h=>c h.1)];exact a2.resolve_left c)
  ·have hlow:=fun h=>aow (D:=D) hro.1.1 hd hdb h e1
   by_cases c1:kd=1
   ·rw [if_pos c1] at a5 ⊢
    simp only [Bool.and_eq_true,decide_eq_true_eq] at a5 ⊢
    refine ⟨aiv e1 a5.1, ?_, ?_⟩
    ·split<;>omega
    ·split<;>omega
   ·rw [if_neg c1] at a5 ⊢
    by_cases c2:kd=2
    ·rw [if_pos c2] at a5 ⊢
     simp only [Bool.and_eq_true,decide_eq_true_eq] at a5 ⊢
     exact ⟨aiv e1 a5.1,a5.2⟩
    ·rw [if_neg c2] at a5 ⊢
     by_cases c3:kd=13∨kd=21∨kd=26
     ·rw [if_pos c3,Bool.and_eq_true] at a5 ⊢
      exact ⟨QH e1 o4 a5.1,hlow a5.2⟩
     ·rw [if_neg c3] at a5 ⊢
      by_cases c4:kd=14
      ·rw [if_pos c4,Bool.and_eq_true] at a5 ⊢
       exact ⟨QF e1 o4 a5.1,hlow a5.2⟩
      ·rw [if_neg c4] at a5 ⊢
       simp only [Bool.and_eq_true,decide_eq_true_eq] at a5 ⊢
       exact ⟨ao7 hdb hd hok'.2.2 a5.1 e3,aiv e1 a5.2⟩
end
end Go.Proofs.YtfkkpkhfjpaafaaGreatDoor
namespace Go.Proofs.YtfkkpkhfjpaafaaGreatDoor
open Go PI
set_option linter.unusedVariables false
set_option linter.unusedSimpArgs false
set_option maxRecDepth 20000
theorem apg {fa:Bool} {f:List Cl} (hf:RX fa f) {n:Int} (hn:0≤n):RX fa (ac2 n f):=by
 obtain ⟨n,rfl⟩:=aoh hn
 by_cases hn24:n<24
 ·refine ⟨aad hf.1.len,fun e c hc=> ?_⟩
  have hm:c∈f.map (jU n):=by
   rw [(As (DC (j:=n) hf.1.len)).1] at hc
   exact (mem_mins.1 hc).1
  obtain ⟨d,hd,rfl⟩:=List.mem_map.1 hm
  refine calm_bits.2 fun j hj=> ?_
  obtain ⟨x,hx,hxn,h1⟩:=(ma hn24 (hf.1.rc hd).1 j).1 hj.1
  obtain ⟨y,hy,hyn,h2⟩:=(ma hn24 (hf.1.rc hd).2 j).1 hj.2
  have:x=y:=by unfold iy at h1 h2;split at h1<;>split at h2<;>omega
  subst this
  exact calm_bits.1 (hf.2 e d hd) x ⟨hx,hy⟩
 ·rw [nT hf.1 (by omega)];exact hf
theorem aoA {fa:Bool} {r f g:List Cl} {n:Int} (hf:RX fa f) (hr:RF r) (hn:0≤n) (h:foX 0 r fa n f= .ok g):RX fa g:=by
 rw [uz] at h
 obtain ⟨m,h1,h⟩:=i8 h
 injection h with h;subst h
 rw [Int.zero_add]
 refine apg ?_ hn
 unfold acJ at h1
 split at h1
 ·obtain ⟨s,es,h1⟩:=i8 h1
  obtain ⟨h0,rfl⟩:=rR es
  obtain ⟨h2,rfl⟩:=rR h1
  exact ap2 hf.1.2 (kQ h0).2 h2
 ·injection h1 with h1;subst h1;exact hf
theorem aoo {r f g:List Cl} {fa:Bool} {n:Int} (hf:f.length=0) (h:foX 0 r fa n f= .ok g):g.length=0:=by
 rw [List.length_eq_zero_iff.1 hf] at h
 rw [apv h];rfl
abbrev lh (bd:Bool) (r:List Cl) (c:Int) (x:Tm):Prop:= ∀ {n V D:Int} {t':Tm},0≤n→n≤D→D-n=c→OkT x→RowsT x→a6 bd V (D+1) x=true→ab7 (foX 0 r false) (foX 0 r true) n x= .ok t'→a6 bd V D t'=true
section
variable {bd:Bool} {r:List Cl} {c kd:Int}
theorem aqk: ∀ {l l':List Tm} {i:Nat} {n V D:Int},(∀x∈l,lh bd r c x)→0≤n→n≤D→D-n=c→aZ l→dQ l→bO bd V (D+1) kd i l=true→aig (foX 0 r false) (foX 0 r true) n kd i l= .ok l'→bO bd V D kd i l'=true∧l'.length=l.length:=by
 intro l
 induction l with
 |nil=>intro l' i n V D _ _ _ _ _ _ _ h;rw [aig] at h;injection h with h;subst h;exact ⟨by rw [bO],rfl⟩
 |cons t l ih=>
  intro l' i n V D h hn hD hc ho hr ha hl
  rw [aig] at hl
  obtain ⟨t',e1,hl⟩:=i8 hl
  obtain ⟨m,e2,hl⟩:=i8 hl
  injection hl with hl;subst hl
  rw [aZ] at ho
  rw [dQ] at hr
  rw [bO,Bool.and_eq_true] at ha ⊢
  have:=gr kd i
  obtain ⟨q1,q2⟩:=ih (fun x hx=>h x (by simp [hx])) hn hD hc ho.2 hr.2 ha.2 e2
  refine ⟨⟨h t (by simp) (n:=n+bJ kd i) (D:=D+bJ kd i) (by omega) (by omega) (by omega) ho.1 hr.1 ?_ e1,q1⟩,by rw [List.length_cons,List.length_cons,q2]⟩
  rw [show D+bJ kd i+1=D+1+bJ kd i by omega];exact ha.1
theorem aql: ∀ {l l':List Tm} {n V D:Int},(∀x∈l,lh bd r c x)→0≤n→n≤D→D-n=c→aZ l→dQ l→ca bd V (D+1) kd l=true→akP (foX 0 r false) (foX 0 r true) n kd l= .ok l'→ca bd V D kd l'=true∧l'.length=l.length:=by
 intro l
 induction l with
 |nil=>intro l' n V D _ _ _ _ _ _ _ h;rw [akP] at h;injection h with h;subst h;exact ⟨by rw [ca],rfl⟩
 |cons t l ih=>
  intro l' n V D h hn hD hc ho hr ha hl
  rw [akP] at hl
  obtain ⟨t',e1,hl⟩:=i8 hl
  obtain ⟨m,e2,hl⟩:=i8 hl
  injection hl with hl;subst hl
  rw [aZ] at ho
  rw [dQ] at hr
  rw [ca,Bool.and_eq_true] at ha ⊢
  have:=dy kd
  obtain ⟨q1,q2⟩:=ih (fun x hx=>h x (by simp [hx])) hn hD hc ho.2 hr.2 ha.2 e2
  refine ⟨⟨h t (by simp) (n:=n+av kd) (D:=D+av kd) (by omega) (by omega) (by omega) ho.1 hr.1 ?_ e1,q1⟩,by rw [List.length_cons,List.length_cons,q2]⟩
  rw [show D+av kd+1=D+1+av kd by omega];exact ha.1
theorem aqm (hr:RF r) (hlr:b7 (fun j=>j≠0∧(j:Int)<c+1) r): ∀ {l l':List (Br Tm)} {n V D:Int},(∀b∈l,∀x∈b.kids,lh bd r c x)→0≤n→n≤D→D-n=c→ba l→eA l→ck bd V (D+1) kd l=true→acM (foX 0 r false) (foX 0 r true) n kd l= .ok l'→
  ck bd V D kd l'=true∧(l.length=0→l'.length=0)∧(l.all (bX kd (D+1))=true→l'.all (bX kd D)=true):=by
 intro l
 induction l with
 |nil=>intro l' n V D _ _ _ _ _ _ _ h;rw [acM] at h;injection h with h;subst h;exact ⟨by rw [ck],fun h=>h,fun _=>rfl⟩
 |cons b l ih=>
  intro l' n V D h hn hD hc ho hrw ha hl
  rw [acM] at hl
  obtain ⟨o,e1,hl⟩:=i8 hl
  obtain ⟨m,e2,hl⟩:=i8 hl
  injection hl with hl;subst hl
  obtain ⟨f,ks⟩:=b
  rw [ba,fc] at ho
  rw [eA,mZ] at hrw
  rw [ck,jT,Bool.and_eq_true] at ha
  obtain ⟨q1,q2,q3⟩:=ih (fun b hb=>h b (by simp [hb])) hn hD hc ho.2 hrw.2 ha.2 e2
  rw [amn] at e1
  obtain ⟨f',e3,e1⟩:=i8 e1
  split at e1
  ·injection e1 with e1;subst e1
   exact ⟨q1,(fun h=>by cases h),fun h=>by rw [List.all_cons,Bool.and_eq_true] at h;exact q3 h.2⟩
  ·obtain ⟨ks',e4,e1⟩:=i8 e1
   injection e1 with e1;subst e1
   obtain ⟨q4,q5⟩:=aql (kd:=kd) (h ⟨f,ks⟩ (by simp)) hn hD hc ho.1.2 hrw.1.2 ha.1 e4
   refine ⟨?_,(fun h=>by cases h),fun h=> ?_⟩
   ·show ck bd V D kd (⟨f',ks'⟩::m)=true
    rw [ck,jT,Bool.and_eq_true];exact ⟨q4,q1⟩
   ·show (Br.mk f' ks'::m).all (bX kd D)=true
    rw [List.all_cons,Bool.and_eq_true] at h ⊢
    refine ⟨?_,q3 h.2⟩
    have h1:=h.1
    unfold bX at h1 ⊢
    simp only [Bool.and_eq_true,decide_eq_true_eq] at h1 ⊢
    have hx:=(oB ho.1.1.1).1 h1.2.1
    have hx':=aoA (fa:=true) ⟨hx.1,fun _=>hx.2⟩ hr hn e3
    exact ⟨by rw [q5];exact h1.1,RFa.right ⟨hx'.1,hx'.2 rfl⟩,ov hx.1 hr hn hD h1.2.2 (by rw [show D-n+1=c+1 by omega];exact hlr) e3⟩
theorem aoV (hr:RF r) (hlr:b7 (fun j=>j≠0∧(j:Int)<c+1) r) (t:Tm):lh bd r c t:=by
 induction t using gq with
 |h kd k nm r0 ks sys ih1 ih2=>
  intro n V D t' hn hD hc hok hro ha h
  have hrx:=hro
  rw [RowsT] at hro
  rw [ab7] at h
  obtain ⟨r1,e1,h⟩:=i8 h
  obtain ⟨ks1,e2,h⟩:=i8 h
  obtain ⟨sys1,e3,h⟩:=i8 h
  injection h with h;subst h
  rw [a6] at ha ⊢
  obtain ⟨o1,o2,o3,o4,o5,o6,o7⟩:=hok.node
  have hok':=hok
  rw [OkT] at hok'
  simp only [Bool.and_eq_true] at ha ⊢
  obtain ⟨q1,q2,q3,q4⟩:=ha
  obtain ⟨k1,k2⟩:=aqk ih1 hn hD hc hok'.2.1 hro.2.1 q3 e2
  obtain ⟨s1,s2,s3⟩:=aqm hr hlr ih2 hn hD hc hok'.2.2 hro.2.2 q4 e3
  refine ⟨?_, ?_,k1,s1⟩
  ·cases bd with
   |false=>rfl
   |true=>
    have: ¬D+1>24:=by simpa using q1
    rw [decide_eq_false (by omega)];rfl
  unfold cL at q2 ⊢
  simp only [Bool.and_eq_true,decide_eq_true_eq] at q2 ⊢
  obtain ⟨⟨a1,a2,a3,a4⟩,a5⟩:=q2
  refine ⟨⟨by rw [k2];exact a1,a2,a3,fun h=>s2 (a4 h)⟩, ?_⟩
  have hlow: ∀ {fa:Bool},dg r0 (D+1)=true→foX 0 r fa n r0= .ok r1→dg r1 D=true:=fun hl he=>ov hro.1.1 hr hn hD hl (by rw [show D-n+1=c+1 by omega];exact hlr) he
  by_cases c4:kd=14
  ·subst c4
   rw [if_neg (by decide),if_neg (by decide),if_neg (by decide),if_pos rfl,Bool.and_eq_true] at a5 ⊢
   rw [if_pos rfl] at e1
   have hx:=(oB o4).1 a5.1
   have hx':=aoA (fa:=true) ⟨hx.1,fun _=>hx.2⟩ hr hn e1
   exact ⟨RFa.right ⟨hx'.1,hx'.2 rfl⟩,hlow a5.2 e1⟩
  ·rw [if_neg c4] at e1
   rw [if_neg c4] at a5 ⊢
   by_cases c1:kd=1
   ·rw [if_pos c1] at a5 ⊢
    simp only [Bool.and_eq_true,decide_eq_true_eq] at a5 ⊢
    exact ⟨aoo a5.1 e1,a5.2⟩
   ·rw [if_neg c1] at a5 ⊢
    by_cases c2:kd=2
    ·rw [if_pos c2] at a5 ⊢
     simp only [Bool.and_eq_true,decide_eq_true_eq] at a5 ⊢
     exact ⟨aoo a5.1 e1,a5.2⟩
    ·rw [if_neg c2] at a5 ⊢
     by_cases c3:kd=13∨kd=21∨kd=26
     ·rw [if_pos c3,Bool.and_eq_true] at a5 ⊢
      have hx':=aoA (fa:=false) ⟨hro.1.1,fun h=>by cases h⟩ hr hn e1
      exact ⟨hx'.1.right,hlow a5.2 e1⟩
     ·rw [if_neg c3] at a5 ⊢
      simp only [Bool.and_eq_true,decide_eq_true_eq] at a5 ⊢
      exact ⟨s3 a5.1,aoo a5.2 e1⟩
end
end Go.Proofs.YtfkkpkhfjpaafaaGreatDoor
namespace Go.Proofs.YtfkkpkhfjpaafaaGreatDoor
open Go PI
set_option linter.unusedVariables false
set_option linter.unusedSimpArgs false
set_option maxRecDepth 20000
section
variable {vb db kd:Int}
theorem rf: ∀ {l l':List Tm} {i:Nat} {v d:Int},(∀x∈l,∀ {v d:Int} {t':Tm},acr vb db v d x= .ok t'→j1 t'=j1 x)→dm vb db v d kd i l= .ok l'→dI kd i l'=dI kd i l:=by
 intro l
 induction l<;>grind [dm,dI,→i8]
theorem rq: ∀ {l l':List Tm} {v d:Int},(∀x∈l,∀ {v d:Int} {t':Tm},acr vb db v d x= .ok t'→j1 t'=j1 x)→alP vb db v d kd l= .ok l'→cX l'=cX l:=by
 intro l
 induction l<;>grind [alP,cX,→i8]
theorem rE: ∀ {l l':List (Br Tm)} {v d:Int},(∀b∈l,∀x∈b.kids,∀ {v d:Int} {t':Tm},acr vb db v d x= .ok t'→j1 t'=j1 x)→alT vb db v d kd l= .ok l'→cx l'=cx l:=by
 intro l
 induction l with
 |nil=>grind [alT]
 |cons b l ih=>
  intro l' v d h hl
  rw [alT] at hl
  obtain ⟨b',e1,hl⟩:=i8 hl
  obtain ⟨m,e2,hl⟩:=i8 hl
  injection hl with hl;subst hl
  obtain ⟨f,ks⟩:=b
  rw [n8] at e1
  obtain ⟨f',e3,e1⟩:=i8 e1
  obtain ⟨ks',e4,e1⟩:=i8 e1
  injection e1 with e1;subst e1
  rw [cx,cx,bdB,bdB,ih (fun b hb=>h b (by simp [hb])) e2,rq (h ⟨f,ks⟩ (by simp)) e4]
theorem lH (t:Tm): ∀ {v d:Int} {t':Tm},acr vb db v d t= .ok t'→j1 t'=j1 t:=by
 induction t using gq with
 |h kd n nm r ks sys ih1 ih2=>
  intro v d t' h
  rw [acr] at h
  split at h
  ·cases h
  obtain ⟨r1,e1,h⟩:=i8 h
  obtain ⟨ks1,e2,h⟩:=i8 h
  obtain ⟨sys1,e3,h⟩:=i8 h
  injection h with h;subst h
  rw [j1,j1,rf ih1 e2,rE ih2 e3]
end
theorem kx {a b:Int} {t t':Tm} (h:J6 a b t= .ok t'):j1 t'=j1 t:=by
 obtain ⟨m,h1,h2⟩:=i8 h
 rw [lH m h2,lH t h1]
end Go.Proofs.YtfkkpkhfjpaafaaGreatDoor
namespace Go.Proofs.YtfkkpkhfjpaafaaGreatDoor
open Go PI
set_option linter.unusedVariables false
set_option linter.unusedSimpArgs false
set_option maxRecDepth 20000
variable {S:Type} {k:Nat}
theorem aqo (t:Tm):ame 0 [⟨0,0⟩] t=ab7 (foX 0 [⟨0,0⟩] false) (foX 0 [⟨0,0⟩] true) 0 t:=by
 rfl
theorem ap5:RC ⟨0,1⟩:=⟨⟨by decide,by decide⟩,by decide,by decide⟩
theorem ap6:RC ⟨1,0⟩:=⟨⟨by decide,by decide⟩,by decide,by decide⟩
end Go.Proofs.YtfkkpkhfjpaafaaGreatDoor
namespace Go.Proofs.YtfkkpkhfjpaafaaGreatDoor
open Go PI
set_option linter.unusedVariables false
set_option linter.unusedSimpArgs false
set_option maxRecDepth 20000
theorem aoS {V D:Int} {t:Tm} (h:bB V D t):D≤24:=by
 cases t
 unfold bB at h
 rw [a6] at h
 simp only [Bool.true_and,Bool.and_eq_true,Bool.not_eq_true',decide_eq_false_iff_not] at h
 omega
theorem aoU {V D kd:Int} {l:List Tm} (h1:kd≠1∧kd≠2) (hk:ct kd=l.length) (hD:D≤24) (ha:bO true V D kd 0 l=true):bB V D (tmK kd l):=by
 unfold bB tmK
 rw [a6,ck]
 simp only [Bool.true_and,Bool.and_eq_true,Bool.not_eq_true',decide_eq_false_iff_not,Bool.and_true]
 refine ⟨by omega, ?_,ha⟩
 unfold cL
 simp only [Bool.and_eq_true,decide_eq_true_eq]
 refine ⟨⟨hk,by simp,by simp,fun _=>rfl⟩, ?_⟩
 rw [if_neg h1.1,if_neg h1.2]
 have hl:dg [] D=true:=Fk D [] rfl
 split
 ·rw [hl];rfl
 ·split
  ·rw [hl];rfl
  ·rfl
theorem aog {V D a b:Int} {t t':Tm} (hf:Fm t) (ha:0≤a∧a≤1000) (hb:0≤b) (hV:0≤V) (hs:bB V D t) (hd:D+b+j1 t≤24) (h:J6 a b t= .ok t'):bB (V+a) (D+b) t':=by
 unfold J6 at h
 obtain ⟨m,h1,h2⟩:=i8 h
 have fm:=jr (by omega) hf h1
 have s1:=aof ha.1 (by decide) t (Int.le_refl 0) hV hf.ok hf.rows hs (fun _=>by omega) h1
 have e:j1 m=j1 t:=lH t h1
 have s2:=aof (Int.le_refl 0) hb m (Int.le_refl 0) (by omega) fm.ok fm.rows s1 (fun _=>by omega) h2
 rw [Int.add_zero,Int.add_zero] at s2;exact s2
theorem aoT {V D:Int} {t t':Tm} (hf:Fm t) (hD:0≤D) (hs:bB V (D+1) t) (h:ame 0 [⟨0,0⟩] t= .ok t'):bB V D t':=by
 rw [aqo] at h
 refine aoV (c:=D) (gS oA) ?_ t (Int.le_refl 0) hD (by omega) hf.ok hf.rows hs h
 exact lits_one.2 fun j hj=>by rcases hj with hj|hj<;>simp [hp,hn] at hj
theorem aoQ {V D:Int} {r s:List Cl} {t t':Tm} (hr:agS r 0 1=(s,0)) (hl:b7 (fun j=>j=1∨j=2) s) (hf:Fm t) (hD:0≤D) (hV:0≤V) (hs:bB V (D+1) t) (hd:D+3+j1 t≤24) (h:di r t= .ok t'):bB V (D+2) t':=by
 have rs:RF s:=by
  have:=kQ (f:=r) (i:=0) (b:=1) (by rw [hr])
  rw [hr] at this;exact this
 unfold di at h
 obtain ⟨m,h1,h⟩:=i8 h
 unfold ame at h
 rw [hr,jF rfl,aD] at h
 have fm:=jr (by omega) hf h1
 have s1:=aof (Int.le_refl 0) (by omega) t (by omega) hV hf.ok hf.rows hs (fun _=>by omega) h1
 rw [Int.add_zero] at s1
 refine aoV (c:=D+2) rs (anY hl fun j hj=>by omega) m (Int.le_refl 0) (by omega) (by omega) fm.ok fm.rows ?_ h
 rw [show D+2+1=D+1+2 by omega];exact s1
theorem lN (j:Nat):((1:Nat).testBit j=true↔j=0)∧((2:Nat).testBit j=true↔j=1)∧((4:Nat).testBit j=true↔j=2):=by
 refine ⟨?_, ?_, ?_⟩
 ·rw [show 1=2^0 from rfl,Nat.testBit_two_pow,decide_eq_true_eq];exact eq_comm
 ·rw [show 2=2^1 from rfl,Nat.testBit_two_pow,decide_eq_true_eq];exact eq_comm
 ·rw [show 4=2^2 from rfl,Nat.testBit_two_pow,decide_eq_true_eq];exact eq_comm
theorem apY:b7 (fun j=>j=1∨j=2) [⟨6,0⟩]:=lits_one.2 fun j hj=>hj.elim (aqh j).1 fun h=>absurd h (aom _ _)
theorem apX:b7 (fun j=>j=1∨j=2) [⟨2,0⟩,⟨4,0⟩]:=fun c hc j hj=>by
 simp at hc
 rcases hc with rfl|rfl
 ·exact hj.elim (fun h=> .inl ((lN j).2.1.1 h)) fun h=>absurd h (aom _ _)
 ·exact hj.elim (fun h=> .inr ((lN j).2.2.1 h)) fun h=>absurd h (aom _ _)
theorem iw {V D kd:Int} {i:Nat} {t:Tm}:bO true V D kd i [t]=true↔a6 true (cQ V (bz kd i)) (D+bJ kd i) t=true:=by
 rw [bO,bO,Bool.and_true]
theorem ls {V D kd:Int} {i:Nat} {t u:Tm}:bO true V D kd i [t,u]=true↔a6 true (cQ V (bz kd i)) (D+bJ kd i) t=true∧a6 true (cQ V (bz kd (i+1:Nat))) (D+bJ kd (i+1:Nat)) u=true:=by
 rw [bO,Bool.and_eq_true,iw]
theorem an0 (V:Int):cQ V 0=V:=by unfold cQ;split<;>omega
theorem aoZ {V:Int} (h:0≤V):cQ V 1=V+1:=by unfold cQ;rw [if_neg (by omega)]
theorem aod {V D:Int} {r:List Cl} {l a:Tm} (hr:cV r=true) (hlow:dg r D=true) (hD:D≤24) (hl:bB V (D+1) l) (ha:bB V D a):bB V D (.mk 14 0 ByteArray.empty r [l,a] []):=by
 unfold bB
 rw [a6,ck]
 simp only [Bool.true_and,Bool.and_eq_true,Bool.not_eq_true',decide_eq_false_iff_not,Bool.and_true]
 refine ⟨by omega, ?_, ?_⟩
 ·show (true&&(cV r&&dg r D))=true
  rw [hr,hlow];rfl
 ·rw [ls]
  show a6 true (cQ V 0) (D+1) l=true∧a6 true (cQ V 0) (D+0) a=true
  rw [an0,Int.add_zero];exact ⟨hl,ha⟩
theorem aok {V D:Int} {l a:Tm} {sys:List (Br Tm)} (hD:D≤24) (hl:bB V D l) (ha:bB V D a) (hb:sys.all (bX 15 D)=true) (hs:ck true V D 15 sys=true):bB V D (.mk 15 0 ByteArray.empty [] [l,a] sys):=by
 unfold bB
 rw [a6,hs]
 simp only [Bool.true_and,Bool.and_eq_true,Bool.not_eq_true',decide_eq_false_iff_not,Bool.and_true]
 refine ⟨by omega, ?_, ?_⟩
 ·show (true&&(sys.all (bX 15 D)&&true))=true
  rw [hb];rfl
 ·rw [ls]
  show a6 true (cQ V 0) (D+0) l=true∧a6 true (cQ V 0) (D+0) a=true
  rw [an0,Int.add_zero];exact ⟨hl,ha⟩
theorem ao1 {V D:Int} {sys:List (Br Tm)} (h:bB V D (J4 sys)):sys.all (bX 15 D)=true∧ck true V D 15 sys=true:=by
 unfold bB J4 at h
 rw [a6] at h
 simp only [Bool.true_and,Bool.and_eq_true,Bool.not_eq_true',decide_eq_false_iff_not] at h
 obtain ⟨_,h1,_,h2⟩:=h
 have h1:(true&&(sys.all (bX 15 D)&&true))=true:=h1
 rw [Bool.true_and,Bool.and_true] at h1
 exact ⟨h1,h2⟩
theorem u_ {D:Int} (hD:1≤D):dg [⟨1,0⟩] D=true:=(an1 (gS ap6)).2 (lits_one.2 fun j hj=>by
 rcases hj with hj|hj
 ·have:=(lN j).1.1 hj;omega
 ·exact absurd hj (aom _ _))
theorem apt:cV [⟨1,0⟩]=true:=by decide
theorem aqa {V D:Int} {line a x:Tm} {sys:List (Br Tm)} (hl:Fm line) (hD:0≤D∧D≤12) (hV:0≤V) (s1:bB V (D+1) line) (s2:bB V D a) (s3:bB V D (J4 sys)) (sy:SyF sys) (hb:j1 line≤8) (h:dF line a sys= .ok x):bB V D x:=by
 unfold dF at h
 obtain ⟨l1,e1,h⟩:=i8 h
 obtain ⟨l,e2,h⟩:=i8 h
 injection h with h;subst h
 obtain ⟨w1,w2⟩:=ao1 s3
 have key: ∀ {sys l:List (Br Tm)},(∀b∈sys,b.kids=[AK b])→sys.all (bX 15 D)=true→ck true V D 15 sys=true→g_ line sys= .ok l→l.all (bX 15 D)=true∧ck true V D 15 l=true:=by
  intro sys
  induction sys with
  |nil=>intro l _ _ _ h;rw [g_] at h;injection h with h;subst h;exact ⟨rfl,by rw [ck]⟩
  |cons b r ih=>
   intro l hk h1 h2 h
   rw [g_] at h
   obtain ⟨u,q1,h⟩:=i8 h
   obtain ⟨m,q2,h⟩:=i8 h
   injection h with h;subst h
   rw [List.all_cons,Bool.and_eq_true] at h1 ⊢
   rw [ck,Bool.and_eq_true] at h2 ⊢
   obtain ⟨i1,i2⟩:=ih (fun b hb=>hk b (by simp [hb])) h1.2 h2.2 q2
   have hb1:=hk b (by simp)
   have hkid:bB V (D+1) (AK b):=by
    have:=h2.1
    obtain ⟨f,ks⟩:=b
    have hb1:ks=[AK ⟨f,ks⟩]:=hb1
    rw [jT,hb1,ca,Bool.and_eq_true] at this
    exact this.1
   refine ⟨⟨?_,i1⟩, ?_,i2⟩
   ·have:=h1.1
    unfold bX at this ⊢
    rw [Bool.and_eq_true] at this ⊢
    exact ⟨rfl,this.2⟩
   ·rw [jT,ca,ca,Bool.and_true]
    refine aod apt (u_ (by show 1≤D+av 15;have:av 15=1:=rfl;omega)) (by have:av 15=1:=rfl;omega) ?_ hkid
    have:=aoQ (r:=[⟨1,0⟩,⟨2,0⟩]) (s:=[⟨2,0⟩,⟨4,0⟩]) (by decide) apX hl hD.1 hV s1 (by omega) q1
    rw [show D+av 15+1=D+2 by have:av 15=1:=rfl;omega];exact this
 obtain ⟨k1,k2⟩:=key (fun b hb=>(sy.kid b hb).1) w1 w2 e2
 exact aok (by omega) (aoT hl hD.1 s1 e1) (aod (by decide) (Fk _ _ rfl) (by omega) s1 s2) k1 k2
theorem aop {V D:Int} {b:Br Tm} {r:List (Br Tm)} (hb1:b.kids=[AK b]) (h2:ck true V D 15 (b::r)=true):bB V (D+1) (AK b)∧ck true V D 15 r=true:=by
 rw [ck,Bool.and_eq_true] at h2
 refine ⟨?_,h2.2⟩
 have:=h2.1
 obtain ⟨f,ks⟩:=b
 have hb1:ks=[AK ⟨f,ks⟩]:=hb1
 rw [jT,hb1,ca,Bool.and_eq_true] at this
 exact this.1
theorem u9 {D:Int} (hD:1≤D):dg [⟨0,1⟩] D=true:=(an1 (gS ap5)).2 (lits_one.2 fun j hj=>by
 rcases hj with hj|hj
 ·simp [hp] at hj
 ·have:=(lN j).1.1 hj;omega)
theorem aqb {V D:Int} {t a x:Tm} {sys:List (Br Tm)} (ht:Fm t) (ha:Fm a) (hD:0≤D∧D≤12) (hV:0≤V) (s1:bB V D t) (s2:bB V D a) (s3:bB V D (J4 sys)) (sy:SyF sys) (hb:j1 t≤8) (hba:j1 a≤8) (hbs:cx sys≤8) (h:amg t a sys= .ok x):bB V (D+1) x:=by
 unfold amg at h
 obtain ⟨t',e1,h⟩:=i8 h
 obtain ⟨a',e2,h⟩:=i8 h
 obtain ⟨l,e3,h⟩:=i8 h
 obtain ⟨a2,e4,h⟩:=i8 h
 injection h with h;subst h
 obtain ⟨w1,w2⟩:=ao1 s3
 have key: ∀ {sys l:List (Br Tm)},(∀b∈sys,b.kids=[AK b]∧Fm (AK b)∧aq b.face∧b.face.length<1073741824)→cx sys≤8→sys.all (bX 15 D)=true→ck true V D 15 sys=true→gK sys= .ok l→l.all (bX 15 (D+1))=true∧ck true V (D+1) 15 l=true:=by
  intro sys
  induction sys with
  |nil=>intro l _ _ _ _ h;rw [gK] at h;injection h with h;subst h;exact ⟨rfl,by rw [ck]⟩
  |cons b r ih=>
   intro l hk hbd h1 h2 h
   rw [gK] at h
   obtain ⟨f,q0,h⟩:=i8 h
   obtain ⟨u,q1,h⟩:=i8 h
   obtain ⟨m,q2,h⟩:=i8 h
   injection h with h;subst h
   rw [List.all_cons,Bool.and_eq_true] at h1 ⊢
   obtain ⟨hb1,hfb,hof,_⟩:=hk b (by simp)
   obtain ⟨hkid,h2r⟩:=aop hb1 h2
   have hbk:1+j1 (AK b)≤8∧cx r≤8:=by
    rw [cx] at hbd
    obtain ⟨f,ks⟩:=b
    have hb1:ks=[AK ⟨f,ks⟩]:=hb1
    rw [bdB] at hbd
    have:cX ks=max (1+j1 (AK ⟨f,ks⟩)) 0:=by rw [hb1,cX,cX];rfl
    omega
   obtain ⟨i1,i2⟩:=ih (fun b hb=>hk b (by simp [hb])) hbk.2 h1.2 h2r q2
   rw [ck,Bool.and_eq_true]
   refine ⟨⟨?_,i1⟩, ?_,i2⟩
   ·have:=h1.1
    unfold bX at this ⊢
    simp only [Bool.and_eq_true] at this ⊢
    have hr:alN 0 1 b.face= .ok f:=by unfold alN;rw [if_neg (by decide)];exact q0
    exact ⟨rfl,QF hr hof this.2.1,aow ((oB hof).1 this.2.1).1 (by decide) (by decide) this.2.2 hr⟩
   ·rw [jT,ca,ca,Bool.and_true]
    have:=aoQ (r:=[⟨3,0⟩]) (s:=[⟨6,0⟩]) (by decide) apY hfb hD.1 hV hkid (by omega) q1
    rw [show D+1+av 15=D+2 by have:av 15=1:=rfl;omega];exact this
 obtain ⟨k1,k2⟩:=key (fun b hb=>sy.kid b hb) hbs w1 w2 e3
 have u1:=aog ht (by omega) (by omega) hV s1 (by omega) e1
 have u2:=aog ha (by omega) (by omega) hV s2 (by omega) e2
 have u3:=aog ha (by omega) (by omega) hV s2 (by omega) e4
 rw [Int.add_zero] at u1 u2 u3
 refine aok (by omega) u1 u2 ?_ ?_
 ·rw [List.all_append,k1,List.all_cons,Bool.true_and,List.all_nil,Bool.and_true]
  unfold bX
  simp only [Bool.and_eq_true]
  exact ⟨rfl,by decide,u9 (by omega)⟩
 ·rw [wH,List.all_append,←wH,k2,List.all_cons,Bool.true_and,List.all_nil,Bool.and_true,List.all_cons,List.all_nil,Bool.and_true]
  rw [show D+1+av 15=D+2 by have:av 15=1:=rfl;omega];exact u3
end Go.Proofs.YtfkkpkhfjpaafaaGreatDoor
namespace Go.Proofs.YtfkkpkhfjpaafaaGreatDoor
open Go PI
set_option linter.unusedVariables false
set_option linter.unusedSimpArgs false
set_option maxRecDepth 20000
variable {S:Type} {k:Nat}
def anW (t:Tm) (V D:Int):Int:=if V<0∨D<0∨D>24 then 2 else if am t>200 then 62 else if au t>20000 then 221 else if a6 true V D t then 0 else 100
theorem nK {t:Tm} (ht:In k t) (hk:F3 k) {V D:Int} (hV:V<9223372036854775808) (hD:D<1000000) (ret:Int→Option S):anX k t V D ret=ret (anW t V D):=by
 simp only [anX,aoY,ag hk.fu,ar,aY]
 unfold anW
 by_cases h1:V<0
 ·rw [if_pos h1,if_pos (.inl h1)]
 rw [if_neg h1]
 by_cases h2:D<0
 ·rw [if_pos h2,if_pos (.inr (.inl h2))]
 rw [if_neg h2]
 by_cases h3:D>24
 ·rw [if_pos h3,if_pos (.inr (.inr h3))]
 have hdep:=ht.dep
 rw [if_neg h3,if_neg (by omega),ajZ ht.1 ht.2.1]
 by_cases h4:am t>200
 ·rw [if_pos h4,if_pos h4];rfl
 rw [if_neg h4,if_neg h4]
 by_cases h5:au t>20000
 ·rw [if_pos h5,if_pos h5];rfl
 rw [if_neg h5,if_neg h5,show (!((0:Int)==0))=false from rfl,ad,cB t ht.1 _ ht.2.1 ⟨by omega,by omega,by omega,by omega⟩]
 cases a6 true V D t<;>rfl
theorem aoN {t:Tm} {V D:Int} (h:anW t V D=0):0≤V∧0≤D∧bB V D t:=by
 unfold anW at h
 split at h
 ·cases h
 split at h
 ·cases h
 split at h
 ·cases h
 split at h
 ·exact ⟨by omega,by omega,by assumption⟩
 ·cases h
theorem aoO {t:Tm} {V D:Int} (h:bw t=0) (hV:0≤V) (hD:0≤D) (hs:bB V D t):anW t V D=0:=by
 have hle:=aoS hs
 obtain ⟨h1,h2,_⟩:=eU h
 unfold anW
 rw [if_neg (by omega),if_neg (by omega),if_neg (by omega),if_pos hs]
theorem BI {l:List Tm} {x:Except Int Tm} {t:Tm} (h:soE l x= .ok t):alE l=0∧bw t=0∧x= .ok t:=by
 unfold soE at h
 split at h
 case isFalse=>cases h
 rename_i h1
 unfold al_ at h
 obtain ⟨t',h3,h⟩:=i8 h
 split at h
 case isFalse=>cases h
 rename_i h4
 injection h with h;subst h
 exact ⟨h1,h4,h3⟩
theorem R3 {l:List Tm} {x:Except Int Tm} {e:Int} (hx: ∀e,x= .error e→e≠0) (h:soE l x= .error e):e≠0:=by
 unfold soE at h
 split at h
 ·unfold al_ at h
  rcases be h with h|⟨t,_,h⟩
  ·exact hx e h
  ·split at h
   ·cases h
   ·rename_i hne;injection h with h;exact h▸hne
 ·rename_i hne;injection h with h;exact h▸hne
end Go.Proofs.YtfkkpkhfjpaafaaGreatDoor
namespace Go.Proofs.YtfkkpkhfjpaafaaGreatDoor
open Go PI
set_option linter.unusedVariables false
set_option linter.unusedSimpArgs false
set_option maxRecDepth 20000
variable {S:Type} {k:Nat}
def ut {α:Type} (x:Except Int α):Int:=match x with
 | .ok _=>0
 | .error e=>e
theorem NG {t:Tm} {n:Int} (hn:n=(t.kids.length:Int)-1):List.drop (Int.toNat 1) (List.take (Int.toNat n) t.kids)=ac3 t:=by
 have:Int.toNat n=t.kids.length-1:=by omega
 rw [this];rfl
theorem NF (t:Tm):(ac3 t).length≤t.kids.length:=by unfold ac3;rw [List.length_drop,List.length_take];omega
theorem rd {t x:Tm} (h:x∈ac3 t):x∈t.kids:=List.mem_of_mem_take (List.mem_of_mem_drop h)
theorem By (hk:F3 k) {t p a:Tm} {c n:Int} (hn:n=(t.kids.length:Int)-1) (h1:2≤t.kids.length) (hl:t.kids.length<1073741000) (ret:Int×Int×ByteArray×List Tm×Int→Option S):
  nc k p 0 a t n c ret=ret (t.kind,0,ByteArray.empty,p::ac3 t++[a],c):=by
 have hfu:4294968296≤k:=hk
 have hml:=NF t
 have:=aeM ret hk (c0:=t) (a:=a) (e:=c) (NG hn) (by omega) (ac3 t) [] [p] k rfl (by omega) (by simp;omega)
 simp only [nc,BP,ar]
 rw [fN _ (by omega)]
 exact this
theorem Rm (hk:F3 k) {t p a:Tm} {c n:Int} (ft:Fm t) (hn:n=(t.kids.length:Int)-1) (h1:2≤t.kids.length) (ret:Int×Int×ByteArray×List Tm×Int→Option S):
  ∃l,nc k p 1 a t n c ret=ret (t.kind,0,ByteArray.empty,p::l++[a],ut (stE c (alM (ac3 t))))∧ ∀l',stE c (alM (ac3 t))= .ok l'→l=l':=by
 have hfu:4294968296≤k:=hk
 have hml:=NF t
 have hkl:=ft.ok.no.2.2.2.2.2.1
 have hz:t.kids.length≤20000:=by
  have h:=ft.siz
  have hz:=rM t
  have: ∀l:List Tm,l.length≤ay l:=by
   intro l
   induction l with
   |nil=>simp
   |cons x l ih=>rw [ay,List.length_cons];have:=mB x;omega
  have:=this t.kids
  omega
 obtain ⟨l,h2,h3⟩:=aeN ret hk (c0:=t) (a:=a) (NG hn) (by omega) (fun y hy=>ft.kid (rd hy)) (ac3 t) [] [p] k c rfl (by omega) (by simp;omega)
 refine ⟨l, ?_,h3⟩
 simp only [nc,BP,ar]
 rw [fN _ (by omega)]
 refine h2.trans ?_
 unfold ut
 cases stE c (alM (ac3 t))<;>rfl
theorem LB (hk:F3 k) (ret:Tm×Bool×Int→Option S) {r9 r10:Tm×Int} {r13:Int×Int×ByteArray×List Tm×Int} {t x:Tm} (ft:Fm t) (h1:2≤t.kids.length) (hx: ∀b∈x.sys,b.kids=[AK b]) (hxl:x.sys.length≤20000) {c:Int} (hc:c≠0):
  ∀ (r p acc:List (Br Tm)) (m:Nat),x.sys=p++r→r.length<m→acc.length+r.length≤20000→fX k ret t r9 r10 r13 t x m c acc (p.length:Int)=ret (ao,false,c):=by
 have hfu:4294968296≤k:=hk
 have hw:IntKind.wrap .i64 ((t.kids.length:Int)-1)=(t.kids.length:Int)-1:=aaf (by omega) (by have:=ft.ok.no.2.2.2.2.2.1;omega)
 intro r
 induction r with
 |nil=>
  intro p acc m h hm ha
  obtain ⟨m,rfl,hm'⟩:=i9 hm
  simp only [fX,oR,akb h,ad,ag hk.fu,ar]
  rw [Rx hk (fun h=>absurd h hc) (fun e h=>R3 (fun e h=>by have:=o_ h;omega) h),n9 hc,Ry hk (gQ hk)]
  exact JF hc ret
 |cons b r ih=>
  intro p acc m h hm ha
  obtain ⟨m,rfl,hm'⟩:=i9 hm
  obtain ⟨e1,e2,e3,e4⟩:=j3 h (by omega)
  have hg:af b.kids 0=some (AK b):=ED (n:=0) rfl (by rw [hx b (by rw [h];simp)];rfl)
  rw [List.length_cons] at ha
  simp only [fX,oR,e1,ae,e2,Option.bind_some,hg,ag hk.fu,ar,hw,e3]
  obtain ⟨l,h2,_⟩:=Rm (p:=r9.1) (a:=AK b) (c:=c) hk ft rfl h1 fun r16=>nf k b.face [(Tm.mk r16.1 r16.2.1 r16.2.2.1 [] r16.2.2.2.1 [])] fun r17=>Option.bind (aw 1099511627776 acc.length [r17].length) fun x18=>fX k ret t r9 r10 r13 t x m r16.2.2.2.2 (acc++[r17]) (((p++[b]).length:Nat):Int)
  refine h2.trans ?_
  rw [lb hc]
  simp only [nf,H0,ut]
  rw [J5 (by simp;omega)]
  exact ih (p++[b]) _ m e4 hm' (by rw [List.length_append,List.length_singleton];omega)
end Go.Proofs.YtfkkpkhfjpaafaaGreatDoor
namespace Go.Proofs.YtfkkpkhfjpaafaaGreatDoor
open Go PI
set_option linter.unusedVariables false
set_option linter.unusedSimpArgs false
set_option maxRecDepth 20000
variable {S:Type} {k:Nat}
theorem I_: ∀ {l l':List Tm},(∀y∈l,Fm y)→alM l= .ok l'→(∀y∈l',Fm y)∧l'.length=l.length:=by
 intro l
 induction l with
 |nil=>intro l' _ h;rw [alM] at h;injection h with h;subst h;exact ⟨fun y hy=>(by cases hy),rfl⟩
 |cons x l ih=>
  intro l' hf h
  rw [alM] at h
  obtain ⟨y,h1,h⟩:=i8 h
  obtain ⟨m,h2,h⟩:=i8 h
  injection h with h;subst h
  obtain ⟨i1,i2⟩:=ih (fun y hy=>hf y (by simp [hy])) h2
  have fy:=mD (by omega) (hf x (by simp)) h1
  refine ⟨fun z hz=> ?_,by simp [i2]⟩
  rcases List.mem_cons.1 hz with rfl|hz
  ·exact fy
  ·exact i1 z hz
theorem aka {n:Nat}: ∀ {l:List Tm},(∀x∈l,au x≤n)→ay l≤l.length*n:=by
 intro l
 induction l with
 |nil=>intro _;rw [ay];simp
 |cons x l ih=>
  intro h
  rw [ay,List.length_cons,Nat.succ_mul]
  have:=ih fun y hy=>h y (by simp [hy])
  have:=h x (by simp)
  omega
theorem aag {n:Nat}: ∀ {l:List Tm},(∀x∈l,am x≤n)→aH l≤n:=by
 intro l
 induction l with
 |nil=>intro _;rw [aH];omega
 |cons x l ih=>intro h;rw [aH];have:=ih fun y hy=>h y (by simp [hy]);have:=h x (by simp);omega
theorem pO {kd:Int} (hkd:kd=22∨kd=27) {p a:Tm} {l:List Tm} (fp:Fm p) (fa:Fm a) (fl: ∀y∈l,Fm y) (hl:l.length≤3):Sm 100001 (ig kd p l a)∧am (ig kd p l a)≤201:=by
 have hall: ∀x∈p::l++[a],Fm x:=fun x hx=>by
  rcases List.mem_append.1 hx with hx|hx
  ·rcases List.mem_cons.1 hx with rfl|hx
   ·exact fp
   ·exact fl x hx
  ·rw [List.mem_singleton] at hx;subst hx;exact fa
 have hlen:(p::l++[a]).length≤5:=by simp;omega
 have hz:ay (p::l++[a])≤100000:=Nat.le_trans (aka fun x hx=>(hall x hx).siz) (Nat.le_trans (Nat.mul_le_mul_right _ hlen) (by omega))
 have hd:aH (p::l++[a])≤200:=aag fun x hx=>(hall x hx).dep
 refine ⟨(Hn (kd:=kd) (by omega) (r:=[]) ⟨(fun c hc=>by cases hc),by simp⟩ (ks:=p::l++[a]) (sys:=[]) (n:=100000) (m:=0) (fun x hx=>⟨(hall x hx).ok,by have:=(hall x hx).dep;omega⟩) (by omega) hz (by rw [ba];trivial) (by simp) (by rw [aO];omega) (by rw [aI];omega)).mono (by omega), ?_⟩
 rw [am,aO];omega
theorem Jb (hk:F3 k) {n:Nat} (hn:n≤50000000) {l:List (Br Tm)} (h:Bs' n l) (hl:l.length≤20000) (hd:aO l≤299):In k (J4 l):=by
 have hz:aI l≤1000000000000:=Nat.le_trans h.siz (Nat.le_trans (Nat.mul_le_mul hl hn) (by omega))
 have hs:au ao≤1:=by unfold ao;rw [au,ay,aI];omega
 have hdn:am ao≤1:=by unfold ao;rw [am,aH,aO];omega
 refine (show Sm (10+1000000000000+1) (J4 l) from ?_).isIn hk (by omega)
 unfold J4
 exact Hn (kd:=15) (by omega) (r:=[]) ⟨(fun c hc=>by cases hc),by simp⟩ (fun x hx=>by
  simp at hx
  subst hx
  refine ⟨?_, ?_⟩
  ·rw [OkT,aZ,ba];exact ⟨⟨by unfold aG;omega,by unfold aG;omega,by decide,(fun c hc=>by cases hc),by simp,by simp,by simp⟩,trivial,trivial⟩
  ·rw [am,aH,aO];omega) (by simp) (by rw [ay,ay,ay,au,ay,aI];simp) h.ok (by omega) hd hz
end Go.Proofs.YtfkkpkhfjpaafaaGreatDoor
namespace Go.Proofs.YtfkkpkhfjpaafaaGreatDoor
open Go PI
set_option linter.unusedVariables false
set_option linter.unusedSimpArgs false
set_option maxRecDepth 20000
variable {S:Type} {k:Nat}
theorem Jc (hk:F3 k) {x:Tm} (fx:Fm x):In k (J4 x.sys):=by
 obtain ⟨o1,o2,o3,o4,o5,o6,o7⟩:=fx.ok.no
 have hs:ba x.sys:=by have:=fx.ok;cases x;rw [OkT] at this;exact this.2.2
 have hd:aO x.sys≤299:=by have:=fx.dep;cases x;rw [am] at this;show aO _≤299;simp only [Tm.sys];omega
 have hz:aI x.sys≤20000:=by have:=fx.siz;cases x;rw [au] at this;show aI _≤20000;simp only [Tm.sys];omega
 unfold J4
 exact (Hn (kd:=15) (by omega) (r:=[]) ⟨(fun c hc=>by cases hc),by simp⟩ (n:=10) (fun y hy=>by
  simp at hy
  subst hy
  refine ⟨?_, ?_⟩
  ·rw [OkT,aZ,ba];exact ⟨⟨by unfold aG;omega,by unfold aG;omega,by decide,(fun c hc=>by cases hc),by simp,by simp,by simp⟩,trivial,trivial⟩
  ·rw [am,aH,aO];omega) (by simp) (by rw [ay,ay,ay,au,ay,aI];simp) hs (by omega) hd hz).isIn hk (by omega)
theorem BJ {l:List Tm} {x:Except Int Tm} {e:Int} (hx: ∀e,x= .error e→0<e∧e≤1000) (h:soE l x= .error e):e≠0:=R3 (fun e h=>by have:=hx e h;omega) h
theorem wg {a b c:Tm} (ha:OkT a) (hb:OkT b) (hc:OkT c) (h:alE [a,b,c]=0):Fm a∧Fm b∧Fm c:=by
 have:=wh (l:=[a,b,c]) (fun x hx=>by
  simp at hx
  rcases hx with rfl|rfl|rfl
  ·exact ha
  ·exact hb
  ·exact hc) h
 exact ⟨this a (by simp),this b (by simp),this c (by simp)⟩
theorem aeY (hk:F3 k) (ret:Tm×Bool×Int→Option S) {r9 r10:Tm×Int} {r13:Int×Int×ByteArray×List Tm×Int} {t x:Tm} (ft:Fm t) (hkd:t.kind=22∨t.kind=27) (h1:2≤t.kids.length∧t.kids.length≤5) (fb:Fm r9.1) (hx: ∀b∈x.sys,b.kids=[AK b]∧Fm (AK b)∧RX true b.face) (hxl:x.sys.length≤20000)
  (hl:In k r10.1) (ha:In k (.mk r13.1 r13.2.1 r13.2.2.1 [] r13.2.2.2.1 [])):
  ∀ (r p acc:List (Br Tm)) (m:Nat),x.sys=p++r→r.length<m→Bs' 110000 acc→aO acc≤299→acc.length+r.length≤20000→
   fX k ret t r9 r10 r13 t x m 0 acc (p.length:Int)=ret (iP (bE (ama t.kind r9.1 (ac3 t) r) fun l=>soE [r10.1,.mk r13.1 r13.2.1 r13.2.2.1 [] r13.2.2.2.1 [],J4 (acc++l)] (dF r10.1 (.mk r13.1 r13.2.1 r13.2.2.1 [] r13.2.2.2.1 []) (acc++l)))):=by
 have hfu:4294968296≤k:=hk
 have hw:IntKind.wrap .i64 ((t.kids.length:Int)-1)=(t.kids.length:Int)-1:=aaf (by omega) (by omega)
 intro r
 induction r with
 |nil=>
  intro p acc m h hm hb hd hacc
  obtain ⟨m,rfl,hm'⟩:=i9 hm
  have hsys:=Jb hk (by omega) hb (by simpa using hacc) hd
  simp only [fX,oR,akb h,ad,ag hk.fu,ar]
  rw [Rx hk (fun _=>⟨hl,ha,hsys⟩) (fun e h=>BJ (fun e h=>o_ h) h),kR,ama,aD,List.append_nil]
  have hin:=akc hk (l:=[r10.1,.mk r13.1 r13.2.1 r13.2.2.1 [] r13.2.2.2.1 [],J4 acc]) (x:=dF r10.1 (.mk r13.1 r13.2.1 r13.2.2.1 [] r13.2.2.2.1 []) acc) fun hso y hy=>by
   obtain ⟨f1,f2,f3⟩:=wg hl.1 ha.1 hsys.1 hso
   exact (yu hk f1 f2 (iQ f3) hy).1
  rw [Ry hk hin]
  cases hh:soE [r10.1,.mk r13.1 r13.2.1 r13.2.2.1 [] r13.2.2.2.1 [],J4 acc] (dF r10.1 (.mk r13.1 r13.2.1 r13.2.2.1 [] r13.2.2.2.1 []) acc) with
  |error e=>exact JF (BJ (fun e h=>o_ h) hh) ret
  |ok y=>exact aae ret
 |cons b r ih=>
  intro p acc m h hm hb hd hacc
  obtain ⟨m,rfl,hm'⟩:=i9 hm
  obtain ⟨e1,e2,e3,e4⟩:=j3 h (by omega)
  obtain ⟨hbk,hbf,hbx⟩:=hx b (by rw [h];simp)
  have hg:af b.kids 0=some (AK b):=ED (n:=0) rfl (by rw [hbk];rfl)
  rw [List.length_cons] at hacc
  simp only [fX,oR,e1,ae,e2,Option.bind_some,hg,ag hk.fu,ar,hw,e3]
  obtain ⟨l,h2,h3⟩:=Rm (p:=r9.1) (a:=AK b) (c:=0) hk ft rfl h1.1 fun r16=>nf k b.face [(Tm.mk r16.1 r16.2.1 r16.2.2.1 [] r16.2.2.2.1 [])] fun r17=>Option.bind (aw 1099511627776 acc.length [r17].length) fun x18=>fX k ret t r9 r10 r13 t x m r16.2.2.2.2 (acc++[r17]) (((p++[b]).length:Nat):Int)
  refine h2.trans ?_
  rw [oH] at h3 ⊢
  simp only [nf,H0]
  rw [J5 (by simp;omega),ama]
  cases hh:alM (ac3 t) with
  |error e=>
   have he:=Ue hh
   rw [lk,lk,show ut (.error e:Except Int (List Tm))=e from rfl]
   exact LB hk ret ft h1.1 (fun b hb=>(hx b hb).1) hxl (by omega) r (p++[b]) _ m e4 hm' (by rw [List.length_append,List.length_singleton];omega)
  |ok ms=>
   have hle:=h3 ms hh
   subst hle
   obtain ⟨fm,fml⟩:=I_ (fun y hy=>ft.kid (rd hy)) hh
   have hml:(ac3 t).length≤3:=by unfold ac3;rw [List.length_drop,List.length_take];omega
   obtain ⟨q1,q2⟩:=pO hkd fb hbf fm (by omega)
   rw [aD,show ut (.ok l:Except Int (List Tm))=0 from rfl]
   refine (ih (p++[b]) (acc++[⟨b.face,[ig t.kind r9.1 l (AK b)]⟩]) m e4 hm' (Ju hb (G9 hbx) (q1.mono (by omega))) (by rw [zF,aO,eB,aH,aH,aO];omega) (by rw [List.length_append,List.length_singleton];omega)).trans ?_
   congr 2
   cases ama t.kind r9.1 (ac3 t) r with
   |error e=>rfl
   |ok l'=>rw [aD,aD,aD,List.append_assoc];rfl
end Go.Proofs.YtfkkpkhfjpaafaaGreatDoor
namespace Go.Proofs.YtfkkpkhfjpaafaaGreatDoor
open Go PI
set_option linter.unusedVariables false
set_option linter.unusedSimpArgs false
set_option maxRecDepth 20000
variable {S:Type} {k:Nat}
theorem KP {l:List Tm} (h:1≤l.length):af l 0=some (l.getD 0 ao):=by
 cases l with
 |nil=>simp at h
 |cons a l=>rfl
theorem nw {t:Tm} (h:2≤t.kids.length):af t.kids ((t.kids.length:Int)-1)=some (adR t)∧adR t∈t.kids:=by
 have e:((t.kids.length:Int)-1)=((t.kids.length-1:Nat):Int):=by omega
 have hl:t.kids.length-1<t.kids.length:=by omega
 have h2:t.kids[t.kids.length-1]? =some (t.kids[t.kids.length-1]):=List.getElem?_eq_getElem hl
 have h3:adR t=t.kids[t.kids.length-1]:=by unfold adR;rw [List.getD_eq_getElem?_getD,h2];rfl
 rw [e,pU,h3]
 exact ⟨h2,List.getElem_mem hl⟩
theorem aeX (hk4:F4 k) {t:Tm} (ft:Fm t) (hkd:t.kind=22∨t.kind=27) (h15:(adR t).kind=15) (ret:Tm×Bool×Int→Option S):l6 k ret t k=ret (iP (amf t.kind (t.kids.getD 0 ao) (ac3 t) (adR t))):=by
 have hk:=hk4.f3
 have hfu:4294968296≤k:=hk
 have hlen:2≤t.kids.length∧t.kids.length≤5:=by
  have:=ft.nk
  rcases hkd with h|h<;>rw [h] at this
  ·have e:ct 22=4:=rfl
   omega
  ·have e:ct 27=5:=rfl
   omega
 obtain ⟨gl,ml⟩:=nw hlen.1
 have fx:=ft.kid ml
 obtain ⟨u,a,hxk⟩:=I8 (E5 fx h15 (n:=2) rfl)
 obtain ⟨gx0,gx1⟩:=KQ hxk
 obtain ⟨dx0,dx1⟩:=EC hxk
 have fu:Fm u:=fx.kid (by rw [hxk];simp)
 have fa:Fm a:=fx.kid (by rw [hxk];simp)
 obtain ⟨sy,syl⟩:=fx.sy h15
 have g0:=KP (show 1≤t.kids.length by omega)
 have fp:Fm (t.kids.getD 0 ao):=ft.kid (by
  match h:t.kids,hlen.1 with
  |a::l,_=>simp)
 have hw:IntKind.wrap .i64 ((t.kids.length:Int)-1)=(t.kids.length:Int)-1:=aaf (by omega) (by omega)
 have hwx:=Jc hk fx
 have hC: ∀ {c:Int} (hc:c≠0) (r9 r10:Tm×Int) (r13:Int×Int×ByteArray×List Tm×Int),fX k ret t r9 r10 r13 t (adR t) k c [] 0=ret (ao,false,c):=fun hc r9 r10 r13=>LB hk ret ft hlen.1 (fun b hb=>(sy b hb).1) syl hc (adR t).sys [] [] k rfl (by omega) (by simpa using syl)
 obtain ⟨q,hq⟩: ∃q,k=q+1:=⟨k-1,by omega⟩
 have main: ∀j,j=q+1→l6 k ret t j=ret (iP (amf t.kind (t.kids.getD 0 ao) (ac3 t) (adR t))):=by
  rintro j rfl
  simp only [l6,w_,ag hk.fu,ar,hw]
  rw [vU t ft.1 _ (ft.isIn hk).2.1]
  simp only [gl,Option.bind_some,gx0,gx1,g0]
  rw [ajm hk (fun _=>⟨fu.isIn hk,fa.isIn hk,hwx⟩) (fun e h=>BJ (fun e h=>uw h) h),kR]
  unfold amf
  rw [dx0,dx1]
  cases hf:soE [u,a,J4 (adR t).sys] (amg u a (adR t).sys) with
  |error e=>
   have he:=BJ (fun e h=>uw h) hf
   rw [show (tE (.error e)).2=e from rfl,Rv hk (fun h=>absurd h he),n9 he]
   rw [Hf hk4 (fun h=>absurd h he),n9 he,By hk rfl hlen.1 (by omega)]
   exact hC he _ _ _
  |ok f=>
   obtain ⟨so,ff,hfe⟩:=BI hf
   have hF:Fm f:=⟨(ux hk fu fa (iQ (wg fu.ok fa.ok hwx.1 so).2.2) hfe).1.1,ff⟩
   rw [show (tE (.ok f)).2=0 from rfl,show (tE (.ok f)).1=f from rfl,Rv hk (fun _=>fp),kR,aD]
   cases hb:J6 0 1 (t.kids.getD 0 ao) with
   |error e=>
    have he:e≠0:=by have:=al3 hb;omega
    rw [show (tE (.error e)).2=e from rfl,Hf hk4 (fun h=>absurd h he),n9 he,By hk rfl hlen.1 (by omega)]
    exact hC he _ _ _
   |ok b=>
    have fb:=mD (by omega) fp hb
    have hpp:ri 0 b f=ams 0 b f:=by unfold ri fmE;rw [if_pos fb.2,if_pos hF.2]
    rw [show (tE (.ok b)).2=0 from rfl,show (tE (.ok b)).1=b from rfl,Hf hk4 (fun _=>⟨fb.isIn hk,hF.isIn hk⟩),kR,aD,hpp]
    cases hp:ams 0 b f with
    |error e=>
     have he:e≠0:=by have:=AL hp;omega
     rw [show (tE (.error e)).2=e from rfl,By hk rfl hlen.1 (by omega)]
     exact hC he _ _ _
    |ok line=>
     have fl:=F5 (by omega) fb hF hp
     rw [show (tE (.ok line)).2=0 from rfl,By hk rfl hlen.1 (by omega),aD]
     have fm: ∀y∈ac3 t,Fm y:=fun y hy=>ft.kid (rd hy)
     have hml:(ac3 t).length≤3:=by unfold ac3;rw [List.length_drop,List.length_take];omega
     obtain ⟨q1,q2⟩:=pO hkd fp fa fm hml
     exact aeY hk ret (r9:=(b,0)) (r10:=(line,0)) (r13:=(t.kind,0,ByteArray.empty,t.kids.getD 0 ao::ac3 t++[a],0)) ft hkd hlen fb sy syl (fl.isIn hk) (q1.isIn hk (by omega)) (adR t).sys [] [] k rfl (by omega) (Dp _) (by rw [aO];omega) (by simpa using syl)
 exact main k hq
theorem ajh (hk4:F4 k) {t:Tm} (ht:In k t) (ret:Tm×Bool×Int→Option S):tL k t ret=ret (pP t):=by
 have hk:=hk4.f3
 simp only [tL,HU,ag hk.fu,ar,amv ht.1 ht.2.1 ht.dep]
 unfold pP
 by_cases h0:bw t=0
 case neg=>rw [dj h0,Bool.not_false,ae,if_pos h0];rfl
 rw [h0,show (!((0:Int)==0))=false from rfl,ad,if_neg (by simp)]
 have ft:Fm t:=⟨ht.1,h0⟩
 have hlen:(t.kind=22∨t.kind=27)→2≤t.kids.length:=fun h=>by
  have:=ft.nk
  rcases h with h|h<;>rw [h] at this
  ·have e:ct 22=4:=rfl
   omega
  ·have e:ct 27=5:=rfl
   omega
 have hw:IntKind.wrap .i64 ((t.kids.length:Int)-1)=(t.kids.length:Int)-1:=aaf (by omega) (by have:=ft.ok.no.2.2.2.2.2.1;omega)
 have main:(t.kind=22∨t.kind=27)→ ∀g:Tm→Option S,g (adR t)=ab (!((adR t).kind==15)) (ret (ao,false,0)) (l6 k ret t k)→g (adR t)=ret (if (t.kind=22∨t.kind=27)∧(adR t).kind=15 then iP (amf t.kind (t.kids.getD 0 ao) (ac3 t) (adR t)) else (ao,false,0)):=fun h g hg=>by
  rw [hg]
  by_cases h15:(adR t).kind=15
  case neg=>rw [beq_false_of_ne h15,Bool.not_false,ae,if_neg (fun h=>h15 h.2)]
  rw [if_pos ⟨h,h15⟩,h15,show (!((15:Int)==15))=false from rfl,ad]
  exact aeX hk4 ft h h15 ret
 by_cases h22:t.kind=22
 ·rw [show (!(t.kind==22))=false from by simpa using h22,ad,hw,(nw (hlen (.inl h22))).1,Option.bind_some]
  exact main (.inl h22) (fun x=>ab (!(x.kind==15)) (ret (ao,false,0)) (l6 k ret t k)) rfl
 rw [show (!(t.kind==22))=true from by simpa using h22,ae]
 by_cases h27:t.kind=27
 case neg=>rw [show (!(t.kind==27))=true from by simpa using h27,ae,if_neg (fun h=>by omega)];rfl
 rw [show (!(t.kind==27))=false from by simpa using h27,ad,hw,(nw (hlen (.inr h27))).1,Option.bind_some]
 exact main (.inr h27) (fun x=>ab (!(x.kind==15)) (ret (ao,false,0)) (l6 k ret t k)) rfl
end Go.Proofs.YtfkkpkhfjpaafaaGreatDoor
namespace Go.Proofs.YtfkkpkhfjpaafaaGreatDoor
open Go PI
set_option linter.unusedVariables false
set_option linter.unusedSimpArgs false
set_option maxRecDepth 20000
variable {S:Type} {k:Nat}
end Go.Proofs.YtfkkpkhfjpaafaaGreatDoor
namespace Go.Proofs.YtfkkpkhfjpaafaaGreatDoor
open Go PI
set_option linter.unusedVariables false
set_option linter.unusedSimpArgs false
set_option maxRecDepth 20000
variable {S:Type} {k:Nat}
theorem Lx {t:Tm} (h:2≤t.kids.length):t.kids=[t.kids.getD 0 ao]++(ac3 t++[adR t])∧t.kids.take (t.kids.length-1)=t.kids.getD 0 ao::ac3 t:=by
 unfold ac3 adR
 match t.kids,h with
 |a::b::l,_=>
  have hi:(a::b::l).length-1=(b::l).length:=by simp
  have hj:(b::l).length=((b::l).length-1)+1:=by simp
  have e1:(a::b::l).take ((b::l).length)=a::(b::l).take ((b::l).length-1):=by rw [hj,List.take_succ_cons];rfl
  have e2:(a::b::l).getD ((b::l).length) ao=(b::l).getD ((b::l).length-1) ao:=by rw [hj];rfl
  rw [hi,e1,e2]
  refine ⟨?_,rfl⟩
  have e3:(b::l).drop ((b::l).length-1)=[(b::l).getD ((b::l).length-1) ao]:=by
   have hlt:(b::l).length-1<(b::l).length:=by simp
   rw [List.drop_eq_getElem_cons hlt,List.getD_eq_getElem?_getD,List.getElem?_eq_getElem hlt,show (b::l).length-1+1=(b::l).length by simp,List.drop_length];rfl
  show a::(b::l)=a::((b::l).take ((b::l).length-1)++[(b::l).getD ((b::l).length-1) ao])
  rw [←e3,List.take_append_drop]
theorem Z_ {line a y:Tm} {sys:List (Br Tm)} (h:dF line a sys= .ok y):y.kind=15:=by
 unfold dF at h
 obtain ⟨_,_,h⟩:=i8 h
 obtain ⟨_,_,h⟩:=i8 h
 injection h with h;subst h;rfl
end Go.Proofs.YtfkkpkhfjpaafaaGreatDoor
namespace Go.Proofs.YtfkkpkhfjpaafaaGreatDoor
open Go PI
set_option linter.unusedVariables false
set_option linter.unusedSimpArgs false
set_option maxRecDepth 20000
variable {S:Type} {k:Nat}
theorem ZT {n:Nat} {l:List (Br Tm)} (h:Bs' n l) {f:List Cl} (hf:aq f∧f.length<1073741824) {t:Tm} (ht:Sm n t):Bs' n (⟨f,[t]⟩::l):=by
 refine ⟨?_, ?_, ?_⟩
 ·rw [ba,fc,aZ,aZ];exact ⟨⟨⟨hf.1,hf.2,by simp⟩,ht.ok,trivial⟩,h.ok⟩
 ·rw [aI,fG,ay,ay,List.length_cons,Nat.succ_mul]
  have:=h.siz;have:=ht.siz;omega
 ·rw [aO,eB,aH,aH]
  have:=h.dep;have:=ht.dep;omega
theorem acF {kd:Int} (hkd:kd=22∨kd=27) {b:Tm} {mid:List Tm} (fb:Fm b) (fm: ∀y∈mid,Fm y) (hm:mid.length≤3): ∀ {r l:List (Br Tm)},(∀b∈r,b.kids=[AK b]∧Fm (AK b)∧RX true b.face)→ama kd b mid r= .ok l→Bs' 110000 l∧aO l≤299∧l.length=r.length∧l.map (·.face)=r.map (·.face):=by
 intro r
 induction r with
 |nil=>intro l _ h;rw [ama] at h;injection h with h;subst h;exact ⟨Dp _,by rw [aO];omega,rfl,rfl⟩
 |cons y r ih=>
  intro l hx h
  rw [ama] at h
  obtain ⟨ms,h1,h⟩:=i8 h
  obtain ⟨l',h2,h⟩:=i8 h
  injection h with h;subst h
  obtain ⟨i1,i2,i3,i4⟩:=ih (fun b hb=>hx b (by simp [hb])) h2
  obtain ⟨_,hbf,hbx⟩:=hx y (by simp)
  obtain ⟨f1,f2⟩:=I_ fm h1
  obtain ⟨q1,q2⟩:=pO hkd fb hbf f1 (by omega)
  refine ⟨ZT i1 (G9 hbx) (q1.mono (by omega)), ?_,by simp [i3],by simp [i4]⟩
  rw [aO,eB,aH,aH];omega
structure ElimP (k:Nat) (t:Tm) (f b line:Tm) (l:List (Br Tm)) (y:Tm):Prop where
 so:alE [(adR t).kids.getD 0 ao,(adR t).kids.getD 1 ao,J4 (adR t).sys]=0
 fill:amg ((adR t).kids.getD 0 ao) ((adR t).kids.getD 1 ao) (adR t).sys= .ok f
 up:J6 0 1 (t.kids.getD 0 ao)= .ok b
 plug:ams 0 b f= .ok line
 brs:ama t.kind b (ac3 t) (adR t).sys= .ok l
 so2:alE [line,ig t.kind (t.kids.getD 0 ao) (ac3 t) ((adR t).kids.getD 1 ao),J4 l]=0
 comp:dF line (ig t.kind (t.kids.getD 0 ao) (ac3 t) ((adR t).kids.getD 1 ao)) l= .ok y
 fy:bw y=0
 ff:Fm f
 fb:Fm b
 fl:Fm line
 fa:Fm (ig t.kind (t.kids.getD 0 ao) (ac3 t) ((adR t).kids.getD 1 ao))
 fw:Fm (J4 l)
 bs:l.map (·.face)=(adR t).sys.map (·.face)
 yin:In k y
theorem KC (hk:F3 k) {t y:Tm} (ft:Fm t) (hkd:t.kind=22∨t.kind=27) (h15:(adR t).kind=15) (h:amf t.kind (t.kids.getD 0 ao) (ac3 t) (adR t)= .ok y): ∃f b line l,ElimP k t f b line l y:=by
 unfold amf at h
 obtain ⟨f,h1,h⟩:=i8 h
 obtain ⟨b,h2,h⟩:=i8 h
 obtain ⟨line,h3,h⟩:=i8 h
 obtain ⟨l,h4,h⟩:=i8 h
 obtain ⟨so2,fy,hc⟩:=BI h
 obtain ⟨so,ff,hfe⟩:=BI h1
 have hlen:2≤t.kids.length∧t.kids.length≤5:=by
  have:=ft.nk
  rcases hkd with h|h<;>rw [h] at this
  ·have e:ct 22=4:=rfl
   omega
  ·have e:ct 27=5:=rfl
   omega
 obtain ⟨gl,ml⟩:=nw hlen.1
 have fx:=ft.kid ml
 obtain ⟨u,a,hxk⟩:=I8 (E5 fx h15 (n:=2) rfl)
 obtain ⟨dx0,dx1⟩:=EC hxk
 have fu:Fm u:=fx.kid (by rw [hxk];simp)
 have fa:Fm a:=fx.kid (by rw [hxk];simp)
 obtain ⟨sy,syl⟩:=fx.sy h15
 have fp:Fm (t.kids.getD 0 ao):=ft.kid (by
  match h:t.kids,hlen.1 with
  |a::l,_=>simp)
 have hwx:=Jc hk fx
 have fm: ∀y∈ac3 t,Fm y:=fun y hy=>ft.kid (rd hy)
 have hml:(ac3 t).length≤3:=by unfold ac3;rw [List.length_drop,List.length_take];omega
 have hF:Fm f:=⟨(ux hk (dx0▸fu) (dx1▸fa) (iQ (wg (dx0▸fu).ok (dx1▸fa).ok hwx.1 so).2.2) hfe).1.1,ff⟩
 have fb:=mD (by omega) fp h2
 have fl:=F5 (by omega) fb hF h3
 obtain ⟨b1,b2,b3,b4⟩:=acF hkd fb fm hml sy h4
 have hsys:=Jb hk (by omega) b1 (by omega) b2
 obtain ⟨q1,q2⟩:=pO hkd fp (a:=(adR t).kids.getD 1 ao) (dx1▸fa) fm hml
 obtain ⟨f1,f2,f3⟩:=wg fl.ok q1.ok hsys.1 so2
 exact ⟨f,b,line,l,so,hfe,h2,h3,h4,so2,hc,fy,hF,fb,fl,f2,f3,b4,(yu hk f1 f2 (iQ f3) hc).1⟩
theorem acE (hk:F3 k) {t:Tm} (ht:In k t):In k (pP t).1:=by
 unfold pP
 by_cases h0:bw t=0
 case neg=>rw [if_pos h0];exact gQ hk
 rw [if_neg (by simp [h0])]
 have ft:Fm t:=⟨ht.1,h0⟩
 split
 case isTrue hc=>
  cases hh:amf t.kind (t.kids.getD 0 ao) (ac3 t) (adR t) with
  |error e=>exact gQ hk
  |ok y=>
   obtain ⟨f,b,line,l,hp⟩:=KC hk ft hc.1 hc.2 hh
   show In k (if bw y=0 then (y,true,(0:Int)) else (ao,false,bw y)).1
   split
   ·exact hp.yin
   ·exact gQ hk
 case isFalse hc=>exact gQ hk
end Go.Proofs.YtfkkpkhfjpaafaaGreatDoor
namespace Go.Proofs.YtfkkpkhfjpaafaaGreatDoor
open Go PI
set_option linter.unusedVariables false
set_option linter.unusedSimpArgs false
set_option maxRecDepth 20000
section
variable {kd:Int}
theorem aoD (t:Tm): ∀ {V D:Int},a6 true V D t=true→a6 false V D t=true:=by
 induction t using gq with
 |h kd n nm r ks sys ih1 ih2=>
  intro V D h
  have hk: ∀ {l:List Tm} {i:Nat},(∀x∈l,∀ {V D:Int},a6 true V D x=true→a6 false V D x=true)→bO true V D kd i l=true→bO false V D kd i l=true:=by
   intro l
   induction l<;>grind [bO]
  rw [a6,Bool.and_eq_true,Bool.and_eq_true,Bool.and_eq_true] at h ⊢
  refine ⟨rfl,h.2.1,hk ih1 h.2.2.1, ?_⟩
  have:=h.2.2.2
  rw [wH,List.all_eq_true] at this ⊢
  intro b hb
  have:=this b hb
  rw [List.all_eq_true] at this ⊢
  exact fun x hx=>ih2 b hb x hx (this x hx)
theorem aqj (t:Tm): ∀ {V D:Int},a6 false V D t=true→D+j1 t≤24→a6 true V D t=true:=by
 induction t using gq with
 |h kd n nm r ks sys ih1 ih2=>
  intro V D h hb
  rw [j1] at hb
  have p1:=mj kd ks 0
  have hk: ∀ {l:List Tm} {i:Nat},(∀x∈l,∀ {V D:Int},a6 false V D x=true→D+j1 x≤24→a6 true V D x=true)→bO false V D kd i l=true→D+dI kd i l≤24→bO true V D kd i l=true:=by
   intro l
   induction l with
   |nil=>intro i _ _ _;rw [bO]
   |cons t l ih=>
    intro i h ha hb
    rw [bO,Bool.and_eq_true] at ha ⊢
    rw [dI] at hb
    exact ⟨h t (by simp) ha.1 (by omega),ih (fun x hx=>h x (by simp [hx])) ha.2 (by omega)⟩
  have hs: ∀ {l:List (Br Tm)},(∀b∈l,∀x∈b.kids,∀ {V D:Int},a6 false V D x=true→D+j1 x≤24→a6 true V D x=true)→ck false V D kd l=true→D+cx l≤24→ck true V D kd l=true:=by
   intro l
   induction l with
   |nil=>intro _ _ _;rw [ck]
   |cons b l ih=>
    intro h ha hb
    obtain ⟨f,ks'⟩:=b
    rw [ck,jT,Bool.and_eq_true] at ha ⊢
    rw [cx,bdB] at hb
    have hm: ∀ {l:List Tm},(∀x∈l,∀ {V D:Int},a6 false V D x=true→D+j1 x≤24→a6 true V D x=true)→ca false V D kd l=true→D+cX l≤24→ca true V D kd l=true:=by
     intro l
     induction l with
     |nil=>intro _ _ _;rw [ca]
     |cons t l ih=>
      intro h ha hb
      rw [ca,Bool.and_eq_true] at ha ⊢
      rw [cX] at hb
      have:=dy kd
      exact ⟨h t (by simp) ha.1 (by omega),ih (fun x hx=>h x (by simp [hx])) ha.2 (by omega)⟩
    have hb':D+max (cX ks') (cx l)≤24:=hb
    exact ⟨hm (l:=ks') (h ⟨f,ks'⟩ (by simp)) ha.1 (by omega),ih (fun b hb=>h b (by simp [hb])) ha.2 (by omega)⟩
  rw [a6,Bool.and_eq_true,Bool.and_eq_true,Bool.and_eq_true] at h ⊢
  exact ⟨by rw [decide_eq_false (by omega)];rfl,h.2.1,hk ih1 h.2.2.1 (by omega),hs ih2 h.2.2.2 (by omega)⟩
end
end Go.Proofs.YtfkkpkhfjpaafaaGreatDoor
namespace Go.Proofs.YtfkkpkhfjpaafaaGreatDoor
open Go PI
set_option linter.unusedVariables false
set_option linter.unusedSimpArgs false
set_option maxRecDepth 20000
abbrev ga (V D:Int) (t:Tm):Prop:=a6 false V D t=true
theorem ao4 {vb db:Int} (hvb:0≤vb) (hdb:0≤db) {v d V D:Int} {t t':Tm} (hd:0≤d) (hV:0≤V) (hf:Fm t) (h:ga V D t) (hl:acr vb db v d t= .ok t'):ga (V+vb) (D+db) t':=
 aof hvb hdb t hd hV hf.ok hf.rows h (fun e=>by cases e) hl
theorem aqw {V D a b:Int} {t t':Tm} (hf:Fm t) (ha:0≤a∧a≤1000000000) (hb:0≤b) (hV:0≤V) (hs:ga V D t) (h:J6 a b t= .ok t'):ga (V+a) (D+b) t':=by
 obtain ⟨m,h1,h2⟩:=i8 h
 have fm:=jr (by omega) hf h1
 have s2:=ao4 (Int.le_refl 0) hb (Int.le_refl 0) (by omega) fm (ao4 ha.1 (by decide) (Int.le_refl 0) hV hf hs h1) h2
 rw [Int.add_zero,Int.add_zero] at s2;exact s2
abbrev kW (n V D:Int) (u x:Tm):Prop:= ∀ {v d:Int} {o:Tm},0≤v→v+am x≤1000→0≤d→ga (V+v+1) (D+d) x→akT n u v d x= .ok o→ga (V+v) (D+d) o
section
variable {n V D kd:Int} {u:Tm}
theorem ao0 {W v:Int} (h:0≤W):cQ W v=W+v:=by unfold cQ;rw [if_neg (by omega)]
theorem apZ (hV:0≤V): ∀ {l l':List Tm} {i:Nat} {v d:Int},(∀x∈l,kW n V D u x)→0≤v→v+aH l+1≤1000→0≤d→bO false (V+v+1) (D+d) kd i l=true→dX n u v d kd i l= .ok l'→bO false (V+v) (D+d) kd i l'=true∧l'.length=l.length:=by
 intro l
 induction l with
 |nil=>intro l' i v d _ _ _ _ _ h;rw [dX] at h;injection h with h;subst h;exact ⟨by rw [bO],rfl⟩
 |cons t l ih=>
  intro l' i v d h hv hb hd ha hl
  rw [dX] at hl
  obtain ⟨t',e1,hl⟩:=i8 hl
  obtain ⟨m,e2,hl⟩:=i8 hl
  injection hl with hl;subst hl
  rw [bO,Bool.and_eq_true] at ha ⊢
  rw [aH] at hb
  have b1:=g7 kd i;have b2:=gr kd i
  obtain ⟨q1,q2⟩:=ih (fun x hx=>h x (by simp [hx])) hv (by omega) hd ha.2 e2
  refine ⟨⟨?_,q1⟩,by rw [List.length_cons,List.length_cons,q2]⟩
  have:=ha.1
  rw [ao0 (by omega),show V+v+1+bz kd i=V+(v+bz kd i)+1 by omega,show D+d+bJ kd i=D+(d+bJ kd i) by omega] at this
  rw [ao0 (by omega),show V+v+bz kd i=V+(v+bz kd i) by omega,show D+d+bJ kd i=D+(d+bJ kd i) by omega]
  exact h t (by simp) (by omega) (by omega) (by omega) this e1
theorem ap0: ∀ {l l':List Tm} {v d:Int},(∀x∈l,kW n V D u x)→0≤v→v+aH l+1≤1000→0≤d→ca false (V+v+1) (D+d) kd l=true→amj n u v d kd l= .ok l'→ca false (V+v) (D+d) kd l'=true∧l'.length=l.length:=by
 intro l
 induction l with
 |nil=>intro l' v d _ _ _ _ _ h;rw [amj] at h;injection h with h;subst h;exact ⟨by rw [ca],rfl⟩
 |cons t l ih=>
  intro l' v d h hv hb hd ha hl
  rw [amj] at hl
  obtain ⟨t',e1,hl⟩:=i8 hl
  obtain ⟨m,e2,hl⟩:=i8 hl
  injection hl with hl;subst hl
  rw [ca,Bool.and_eq_true] at ha ⊢
  rw [aH] at hb
  have b2:=dy kd
  obtain ⟨q1,q2⟩:=ih (fun x hx=>h x (by simp [hx])) hv (by omega) hd ha.2 e2
  refine ⟨⟨?_,q1⟩,by rw [List.length_cons,List.length_cons,q2]⟩
  have:=ha.1
  rw [show D+d+av kd=D+(d+av kd) by omega] at this ⊢
  exact h t (by simp) hv (by omega) (by omega) this e1
theorem ap1: ∀ {l l':List (Br Tm)} {v d:Int},(∀b∈l,∀x∈b.kids,kW n V D u x)→0≤v→v+aO l+1≤1000→0≤d→ck false (V+v+1) (D+d) kd l=true→dn n u v d kd l= .ok l'→ck false (V+v) (D+d) kd l'=true∧l'.length=l.length∧l'.all (bX kd (D+d))=l.all (bX kd (D+d)):=by
 intro l
 induction l with
 |nil=>intro l' v d _ _ _ _ _ h;rw [dn] at h;injection h with h;subst h;exact ⟨by rw [ck],rfl,rfl⟩
 |cons b l ih=>
  intro l' v d h hv hb hd ha hl
  rw [dn] at hl
  obtain ⟨b',e1,hl⟩:=i8 hl
  obtain ⟨m,e2,hl⟩:=i8 hl
  injection hl with hl;subst hl
  obtain ⟨f,ks⟩:=b
  rw [AJ] at e1
  obtain ⟨ks',e3,e1⟩:=i8 e1
  injection e1 with e1;subst e1
  rw [ck,jT,Bool.and_eq_true] at ha ⊢
  rw [aO,eB] at hb
  obtain ⟨q1,q2,q3⟩:=ih (fun b hb=>h b (by simp [hb])) hv (by omega) hd ha.2 e2
  obtain ⟨p1,p2⟩:=ap0 (kd:=kd) (l:=ks) (h ⟨f,ks⟩ (by simp)) hv (by omega) hd ha.1 e3
  refine ⟨⟨p1,q1⟩,by rw [List.length_cons,List.length_cons,q2], ?_⟩
  have:bX kd (D+d) ⟨f,ks'⟩=bX kd (D+d) ⟨f,ks⟩:=by unfold bX;simp only [p2]
  rw [List.all_cons,List.all_cons,this,q3]
theorem aqu (hn:0≤n) (hnV:n≤V) (hD:0≤D) (hf:Fm u) (hu:ga V D u) (t:Tm):kW n V D u t:=by
 induction t using gq with
 |h kd m nm r ks sys ih1 ih2=>
  intro v d o hv hb hd ha h
  rw [akT] at h
  rw [am] at hb
  split at h
  ·exact aqw hf (by omega) hd (by omega) hu h
  ·rename_i hc
   obtain ⟨ks',e2,h⟩:=i8 h
   obtain ⟨sys',e3,h⟩:=i8 h
   injection h with h;subst h
   unfold ga at ha ⊢
   rw [a6] at ha ⊢
   simp only [Bool.false_and,Bool.not_false,Bool.true_and,Bool.and_eq_true] at ha ⊢
   obtain ⟨q2,q3,q4⟩:=ha
   obtain ⟨k1,k2⟩:=apZ (by omega) ih1 hv (by omega) hd q3 e2
   obtain ⟨s1,s2,s3⟩:=ap1 ih2 hv (by omega) hd q4 e3
   refine ⟨?_,k1,s1⟩
   unfold cL at q2 ⊢
   simp only [Bool.and_eq_true,decide_eq_true_eq] at q2 ⊢
   rw [k2,s2,s3]
   obtain ⟨⟨a1,a2,a3,a4⟩,a5⟩:=q2
   refine ⟨⟨a1, ?_,a3,a4⟩, ?_⟩
   ·by_cases c:kd=1
    ·exact .inl c
    ·exact .inr (by rw [if_neg (fun h=>c h.1)];exact a2.resolve_left c)
   ·by_cases c1:kd=1
    ·rw [if_pos c1] at a5 ⊢
     simp only [Bool.and_eq_true,decide_eq_true_eq] at a5 ⊢
     have: ¬m=n+v:=fun e=>hc ⟨c1,e⟩
     refine ⟨a5.1, ?_,.inr ?_⟩
     ·split<;>omega
     ·split<;>omega
    ·rw [if_neg c1] at a5 ⊢;exact a5
end
theorem aqv {V D:Int} (hV:0≤V) (hD:0≤D) {t u o:Tm} (ht:Fm t) (hf:Fm u) (hu:ga V D u) (hs:ga (V+1) D t) (h:ams 0 t u= .ok o):ga V D o:=by
 unfold ams at h
 split at h
 ·cases h
 obtain ⟨o',h1,h⟩:=i8 h
 split at h
 ·cases h
 injection h with h;subst h
 have:=(eU ht.2).1
 have:=aqu (Int.le_refl 0) hV hD hf hu t (Int.le_refl 0) (by omega) (Int.le_refl 0) (by rw [Int.add_zero,Int.add_zero];exact hs) h1
 rw [Int.add_zero,Int.add_zero] at this;exact this
end Go.Proofs.YtfkkpkhfjpaafaaGreatDoor
namespace Go.Proofs.YtfkkpkhfjpaafaaGreatDoor
open Go PI
set_option linter.unusedVariables false
set_option linter.unusedSimpArgs false
set_option maxRecDepth 20000
section
variable {n kd:Int} {u:Tm}
abbrev kK (n:Int) (u x:Tm):Prop:= ∀ {v d:Int} {o:Tm},akT n u v d x= .ok o→j1 o≤j1 x+j1 u
theorem rO: ∀ {l l':List Tm} {i:Nat} {v d:Int},(∀x∈l,kK n u x)→dX n u v d kd i l= .ok l'→dI kd i l'≤dI kd i l+j1 u:=by
 intro l
 induction l with
 |nil=>intro l' i v d _ h;rw [dX] at h;injection h with h;subst h;rw [dI];have:=an3 u;omega
 |cons t l ih=>
  intro l' i v d h hl
  rw [dX] at hl
  obtain ⟨t',e1,hl⟩:=i8 hl
  obtain ⟨m,e2,hl⟩:=i8 hl
  injection hl with hl;subst hl
  rw [dI,dI]
  have:=h t (by simp) e1
  have:=ih (fun x hx=>h x (by simp [hx])) e2
  omega
theorem rP: ∀ {l l':List Tm} {v d:Int},(∀x∈l,kK n u x)→amj n u v d kd l= .ok l'→cX l'≤cX l+j1 u:=by
 intro l
 induction l with
 |nil=>intro l' v d _ h;rw [amj] at h;injection h with h;subst h;rw [cX];have:=an3 u;omega
 |cons t l ih=>
  intro l' v d h hl
  rw [amj] at hl
  obtain ⟨t',e1,hl⟩:=i8 hl
  obtain ⟨m,e2,hl⟩:=i8 hl
  injection hl with hl;subst hl
  rw [cX,cX]
  have:=h t (by simp) e1
  have:=ih (fun x hx=>h x (by simp [hx])) e2
  omega
theorem ao5: ∀ {l l':List (Br Tm)} {v d:Int},(∀b∈l,∀x∈b.kids,kK n u x)→dn n u v d kd l= .ok l'→cx l'≤cx l+j1 u:=by
 intro l
 induction l with
 |nil=>intro l' v d _ h;rw [dn] at h;injection h with h;subst h;rw [cx];have:=an3 u;omega
 |cons b l ih=>
  intro l' v d h hl
  rw [dn] at hl
  obtain ⟨b',e1,hl⟩:=i8 hl
  obtain ⟨m,e2,hl⟩:=i8 hl
  injection hl with hl;subst hl
  obtain ⟨f,ks⟩:=b
  rw [AJ] at e1
  obtain ⟨ks',e3,e1⟩:=i8 e1
  injection e1 with e1;subst e1
  rw [cx,cx,bdB,bdB]
  have:=rP (l:=ks) (h ⟨f,ks⟩ (by simp)) e3
  have:=ih (fun b hb=>h b (by simp [hb])) e2
  have e:(Br.mk f ks).kids=ks:=rfl
  rw [e] at*
  omega
theorem rt (t:Tm):kK n u t:=by
 induction t using gq with
 |h kd m nm r ks sys ih1 ih2=>
  intro v d o h
  rw [akT] at h
  split at h
  ·rw [kx h]
   have:=an3 (.mk kd m nm r ks sys)
   omega
  ·obtain ⟨ks',e2,h⟩:=i8 h
   obtain ⟨sys',e3,h⟩:=i8 h
   injection h with h;subst h
   rw [j1,j1]
   have:=rO ih1 e2
   have:=ao5 ih2 e3
   omega
theorem rx {t u o:Tm} (h:ams 0 t u= .ok o):j1 o≤j1 t+j1 u:=by
 unfold ams at h
 split at h
 ·cases h
 obtain ⟨o',h1,h⟩:=i8 h
 split at h
 ·cases h
 injection h with h;subst h
 exact rt t h1
end
section
variable {f g:Int→List Cl→Except Int (List Cl)} {kd:Int}
theorem ao9: ∀ {l l':List Tm} {i:Nat} {n:Int},(∀x∈l,∀ {n:Int} {t':Tm},ab7 f g n x= .ok t'→j1 t'≤j1 x)→aig f g n kd i l= .ok l'→dI kd i l'≤dI kd i l:=by
 intro l
 induction l with
 |nil=>intro l' i n _ h;rw [aig] at h;injection h with h;subst h;exact Int.le_refl _
 |cons t l ih=>
  intro l' i n h hl
  rw [aig] at hl
  obtain ⟨t',e1,hl⟩:=i8 hl
  obtain ⟨m,e2,hl⟩:=i8 hl
  injection hl with hl;subst hl
  rw [dI,dI]
  have:=h t (by simp) e1
  have:=ih (fun x hx=>h x (by simp [hx])) e2
  omega
theorem ao_: ∀ {l l':List Tm} {n:Int},(∀x∈l,∀ {n:Int} {t':Tm},ab7 f g n x= .ok t'→j1 t'≤j1 x)→akP f g n kd l= .ok l'→cX l'≤cX l:=by
 intro l
 induction l with
 |nil=>intro l' n _ h;rw [akP] at h;injection h with h;subst h;exact Int.le_refl _
 |cons t l ih=>
  intro l' n h hl
  rw [akP] at hl
  obtain ⟨t',e1,hl⟩:=i8 hl
  obtain ⟨m,e2,hl⟩:=i8 hl
  injection hl with hl;subst hl
  rw [cX,cX]
  have:=h t (by simp) e1
  have:=ih (fun x hx=>h x (by simp [hx])) e2
  omega
theorem apa: ∀ {l l':List (Br Tm)} {n:Int},(∀b∈l,∀x∈b.kids,∀ {n:Int} {t':Tm},ab7 f g n x= .ok t'→j1 t'≤j1 x)→acM f g n kd l= .ok l'→cx l'≤cx l:=by
 intro l
 induction l with
 |nil=>intro l' n _ h;rw [acM] at h;injection h with h;subst h;exact Int.le_refl _
 |cons b l ih=>
  intro l' n h hl
  rw [acM] at hl
  obtain ⟨o,e1,hl⟩:=i8 hl
  obtain ⟨m,e2,hl⟩:=i8 hl
  injection hl with hl;subst hl
  obtain ⟨r,ks⟩:=b
  rw [amn] at e1
  obtain ⟨r',e3,e1⟩:=i8 e1
  have hi:=ih (fun b hb=>h b (by simp [hb])) e2
  split at e1
  ·injection e1 with e1;subst e1
   rw [cx]
   show cx m≤_
   omega
  ·obtain ⟨ks',e4,e1⟩:=i8 e1
   injection e1 with e1;subst e1
   have:=ao_ (kd:=kd) (l:=ks) (h ⟨r,ks⟩ (by simp)) e4
   show cx (⟨r',ks'⟩::m)≤_
   rw [cx,cx,bdB,bdB]
   omega
theorem rL (t:Tm): ∀ {n:Int} {t':Tm},ab7 f g n t= .ok t'→j1 t'≤j1 t:=by
 induction t using gq with
 |h kd m nm r ks sys ih1 ih2=>
  intro n t' h
  rw [ab7] at h
  obtain ⟨r1,e1,h⟩:=i8 h
  obtain ⟨ks1,e2,h⟩:=i8 h
  obtain ⟨sys1,e3,h⟩:=i8 h
  injection h with h;subst h
  rw [j1,j1]
  have:=ao9 ih1 e2
  have:=apa ih2 e3
  omega
end
theorem rK {i:Int} {r:List Cl} {t t':Tm} (h:ame i r t= .ok t'):j1 t'≤j1 t:=by
 unfold ame at h
 obtain ⟨s,e1,h⟩:=i8 h
 exact rL t h
end Go.Proofs.YtfkkpkhfjpaafaaGreatDoor
namespace Go.Proofs.YtfkkpkhfjpaafaaGreatDoor
open Go PI
set_option linter.unusedVariables false
set_option linter.unusedSimpArgs false
set_option maxRecDepth 20000
mutual
def dH:Tm→Int
 | .mk kd _ _ _ ks sys=>dU kd 0 ks+bnS sys
def dU (kd:Int) (i:Nat):List Tm→Int
 |[]=>0
 |t::l=>bJ kd i+dH t+dU kd (i+1) l
def bnS:List (Br Tm)→Int
 |[]=>0
 |b::l=>l8 b+bnS l
def l8:Br Tm→Int
 | .mk _ ks=>bnM ks
def bnM:List Tm→Int
 |[]=>0
 |t::l=>1+dH t+bnM l
end
theorem jb (t:Tm):j1 t≤dH t∧dH t+1≤(au t:Int)*2:=by
 induction t using gq with
 |h kd n nm r ks sys ih1 ih2=>
  have hk: ∀ {l:List Tm} {i:Nat},(∀x∈l,j1 x≤dH x∧dH x+1≤(au x:Int)*2)→0≤dU kd i l∧dI kd i l≤dU kd i l∧dU kd i l≤(ay l:Int)*2:=by
   intro l
   induction l with
   |nil=>intro i _;rw [dU,dI,ay];omega
   |cons t l ih=>
    intro i h
    rw [dU,dI,ay]
    have h1:=h t (by simp)
    have h2:=ih (i:=i+1) fun x hx=>h x (by simp [hx])
    have h3:=gr kd i
    have h4:=an3 t
    omega
  have hm: ∀ {l:List Tm},(∀x∈l,j1 x≤dH x∧dH x+1≤(au x:Int)*2)→0≤bnM l∧cX l≤bnM l∧bnM l≤(ay l:Int)*2:=by
   intro l
   induction l with
   |nil=>intro _;rw [bnM,cX,ay];omega
   |cons t l ih=>
    intro h
    rw [bnM,cX,ay]
    have h1:=h t (by simp)
    have h2:=ih fun x hx=>h x (by simp [hx])
    have h4:=an3 t
    omega
  have hs: ∀ {l:List (Br Tm)},(∀b∈l,∀x∈b.kids,j1 x≤dH x∧dH x+1≤(au x:Int)*2)→0≤bnS l∧cx l≤bnS l∧bnS l≤(aI l:Int)*2:=by
   intro l
   induction l with
   |nil=>intro _;rw [bnS,cx,aI];omega
   |cons b l ih=>
    intro h
    obtain ⟨f,ks⟩:=b
    have h1:=hm (h ⟨f,ks⟩ (by simp))
    have h2:=ih fun b hb=>h b (by simp [hb])
    rw [bnS,cx,aI,l8,bdB,fG]
    have e:(Br.mk f ks).kids=ks:=rfl
    rw [e] at h1
    omega
  have h1:=hk (i:=0) ih1
  have h2:=hs ih2
  rw [j1,dH,au]
  omega
theorem gG (t:Tm):0≤dH t:=by have:=jb t;have:=an3 t;omega
theorem mu (kd:Int): ∀ (l:List Tm) (i:Nat),0≤dU kd i l:=by
 intro l
 induction l with
 |nil=>intro i;rw [dU];omega
 |cons t l ih=>intro i;rw [dU];have:=ih (i+1);have:=gG t;have:=gr kd i;omega
theorem aon: ∀ (l:List Tm),0≤bnM l:=by
 intro l
 induction l with
 |nil=>rw [bnM];omega
 |cons t l ih=>rw [bnM];have:=gG t;omega
theorem l9: ∀ (l:List (Br Tm)),0≤bnS l:=by
 intro l
 induction l with
 |nil=>rw [bnS];omega
 |cons b l ih=>obtain ⟨f,ks⟩:=b;rw [bnS,l8];have:=aon ks;omega
theorem mw {kd:Int} {x y:Tm}: ∀ {l:List Tm} {i:Nat},(∃p q:List Tm,l=p++q∧x∈p∧y∈q)→dH x+dH y≤dU kd i l:=by
 have mq: ∀ {l:List Tm} {i:Nat} {z:Tm},z∈l→dH z≤dU kd i l:=by
  intro l
  induction l with
  |nil=>intro i z h;cases h
  |cons t l ih=>
   intro i z h
   rw [dU]
   have:=gr kd i;have:=gG t;have:=mu kd l (i+1)
   rcases List.mem_cons.1 h with rfl|h
   ·omega
   ·have:=ih (i:=i+1) h;omega
 intro l
 induction l with
 |nil=>rintro i ⟨p,q,h,hx,_⟩;rw [List.nil_eq_append_iff] at h;rw [h.1] at hx;cases hx
 |cons t l ih=>
  rintro i ⟨p,q,h,hx,hy⟩
  rw [dU]
  have:=gr kd i;have:=gG t;have:=mu kd l (i+1)
  cases p with
  |nil=>cases hx
  |cons u p=>
   rw [List.cons_append] at h
   injection h with h1 h2
   subst h1
   rcases List.mem_cons.1 hx with rfl|hx
   ·have:=mq (i:=i+1) (show y∈l by rw [h2];exact List.mem_append_right _ hy);omega
   ·have:=ih (i:=i+1) ⟨p,q,h2,hx,hy⟩;omega
end Go.Proofs.YtfkkpkhfjpaafaaGreatDoor
namespace Go.Proofs.YtfkkpkhfjpaafaaGreatDoor
open Go PI
set_option linter.unusedVariables false
set_option linter.unusedSimpArgs false
set_option maxRecDepth 20000
variable {S:Type} {k:Nat}
theorem aoe {V D:Int} {t:Tm} (h:bB V D t):bO true V D t.kind 0 t.kids=true∧ck true V D t.kind t.sys=true∧cL V D t=true:=by
 obtain ⟨kd,n,nm,r,ks,sys⟩:=t
 unfold bB at h
 rw [a6,Bool.and_eq_true,Bool.and_eq_true,Bool.and_eq_true] at h
 exact ⟨h.2.2.1,h.2.2.2,h.2.1⟩
theorem mh {bd:Bool} {V D kd:Int}: ∀ {a b:List Tm} {i:Nat},bO bd V D kd i (a++b)=true↔bO bd V D kd i a=true∧bO bd V D kd (i+a.length) b=true:=by
 intro a
 induction a with
 |nil=>intro b i;rw [List.nil_append,bO];simp
 |cons t a ih=>intro b i;rw [List.cons_append,bO,bO,Bool.and_eq_true,Bool.and_eq_true,ih,List.length_cons,show i+1+a.length=i+(a.length+1) by omega,and_assoc]
theorem aoP {V D:Int} {x:Tm} (h:bB V D x) (hk:x.kind=15):x.sys.all (bX 15 D)=true∧ck true V D 15 x.sys=true∧ ∀ {u a:Tm},x.kids=[u,a]→bB V D u∧bB V D a:=by
 obtain ⟨h1,h2,h3⟩:=aoe h
 rw [hk] at h1 h2
 refine ⟨?_,h2,fun hx=> ?_⟩
 ·obtain ⟨kd,n,nm,r,ks,sys⟩:=x
  have hk:kd=15:=hk
  subst hk
  have:(_&&(sys.all (bX 15 D)&&_))=true:=h3
  simp only [Bool.and_eq_true] at this
  exact this.2.1
 ·rw [hx,ls] at h1
  have e1:bz 15 ((0:Nat):Int)=0:=rfl
  have e2:bJ 15 ((0:Nat):Int)=0:=rfl
  have e3:bz 15 ((0+1:Nat):Int)=0:=rfl
  have e4:bJ 15 ((0+1:Nat):Int)=0:=rfl
  rw [e1,e2,e3,e4,an0,Int.add_zero] at h1
  exact h1
theorem aoW {V D:Int} {sys:List (Br Tm)} (hD:D≤24) (h1:sys.all (bX 15 D)=true) (h2:ck true V D 15 sys=true):bB V D (J4 sys):=by
 have h3:bB V D (.mk 3 0 ByteArray.empty [] [] []):=aoU (kd:=3) (l:=[]) (by decide) rfl hD (by rw [bO])
 exact aok hD h3 h3 h1 h2
theorem qM: ∀ {sys l:List (Br Tm)},(∀b∈sys,b.kids=[AK b])→gK sys= .ok l→cx l≤cx sys:=by
 intro sys
 induction sys with
 |nil=>intro l _ h;rw [gK] at h;injection h with h;subst h;exact Int.le_refl _
 |cons b r ih=>
  intro l hk h
  rw [gK] at h
  obtain ⟨f,q0,h⟩:=i8 h
  obtain ⟨u,q1,h⟩:=i8 h
  obtain ⟨m,q2,h⟩:=i8 h
  injection h with h;subst h
  have hb:=hk b (by simp)
  have h1:=ih (fun b hb=>hk b (by simp [hb])) q2
  have h2:j1 u≤j1 (AK b):=by
   unfold di at q1
   obtain ⟨m,e1,q1⟩:=i8 q1
   have:=rK q1
   rw [lH _ e1] at this;exact this
  obtain ⟨g,ks⟩:=b
  have hb:ks=[AK ⟨g,ks⟩]:=hb
  rw [cx,cx,bdB,bdB,show cX ks=max (1+j1 (AK ⟨g,ks⟩)) 0 from by rw [hb,cX,cX];rfl,cX,cX]
  omega
theorem qJ: ∀ {a b:List (Br Tm)},cx (a++b)=max (cx a) (cx b):=by
 intro a
 induction a with
 |nil=>intro b;rw [List.nil_append,cx];have:=qK b;omega
 |cons x a ih=>intro b;rw [List.cons_append,cx,cx,ih];omega
theorem qL {t a x:Tm} {sys:List (Br Tm)} (hk: ∀b∈sys,b.kids=[AK b]) (h:amg t a sys= .ok x):j1 x≤max (j1 t) (max (1+j1 a) (cx sys)):=by
 unfold amg at h
 obtain ⟨t',e1,h⟩:=i8 h
 obtain ⟨a',e2,h⟩:=i8 h
 obtain ⟨l,e3,h⟩:=i8 h
 obtain ⟨a2,e4,h⟩:=i8 h
 injection h with h;subst h
 have:=qM hk e3
 have p1:=an3 t;have p2:=an3 a
 have e0:bJ 15 ((0:Nat):Int)=0:=rfl
 have e5:bJ 15 ((0+1:Nat):Int)=0:=rfl
 rw [j1,dI,dI,dI,qJ,cx,cx,bdB,cX,cX,kx e1,kx e2,kx e4,e0,e5]
 omega
theorem apf {line a y:Tm} {sys:List (Br Tm)} (h:dF line a sys= .ok y):y.sys.map (·.face)=sys.map (·.face):=by
 unfold dF at h
 obtain ⟨l1,e1,h⟩:=i8 h
 obtain ⟨l,e2,h⟩:=i8 h
 injection h with h;subst h
 have key: ∀ {sys l:List (Br Tm)},g_ line sys= .ok l→l.map (·.face)=sys.map (·.face):=by
  intro sys
  induction sys with
  |nil=>intro l h;rw [g_] at h;injection h with h;subst h;rfl
  |cons b r ih=>
   intro l h
   rw [g_] at h
   obtain ⟨u,q1,h⟩:=i8 h
   obtain ⟨m,q2,h⟩:=i8 h
   injection h with h;subst h
   rw [List.map_cons,List.map_cons,ih q2]
 exact key e2
theorem h9 {kd:Int} (h:kd=22∨kd=27) (i:Nat):bz kd ((i+1:Nat):Int)=0∧bJ kd (i:Int)=0∧bz kd ((0:Nat):Int)=1:=by
 have e1:bz kd ((i+1:Nat):Int)=0:=by unfold bz;rw [if_neg (by omega)]
 have e2:bJ kd (i:Int)=0:=by unfold bJ;rw [if_neg (by omega)]
 have e3:bz kd ((0:Nat):Int)=1:=by unfold bz;rw [if_pos (by omega)]
 exact ⟨e1,e2,e3⟩
theorem aqg {V D kd:Int} (hkd:kd=22∨kd=27) (hV:0≤V) (hb: ∀x:Tm,j1 x≤4→D+1+j1 x≤24): ∀ {l l':List Tm} {i:Nat},(∀y∈l,Fm y∧j1 y≤4)→bO true V D kd (i+1) l=true→alM l= .ok l'→bO true V (D+1) kd (i+1) l'=true:=by
 intro l
 induction l with
 |nil=>intro l' i _ _ h;rw [alM] at h;injection h with h;subst h;rw [bO]
 |cons y l ih=>
  intro l' i hf ha h
  rw [alM] at h
  obtain ⟨y',h1,h⟩:=i8 h
  obtain ⟨m,h2,h⟩:=i8 h
  injection h with h;subst h
  rw [bO,Bool.and_eq_true] at ha ⊢
  obtain ⟨fy,by4⟩:=hf y (by simp)
  have e1:=(h9 hkd i).1
  have e2:=(h9 hkd (i+1)).2.1
  rw [e1,e2,an0,Int.add_zero] at ha
  rw [e1,e2,an0,Int.add_zero]
  have:=aog fy (a:=0) (b:=1) (by omega) (by omega) hV ha.1 (hb y by4) h1
  rw [Int.add_zero] at this
  exact ⟨this,ih (fun y hy=>hf y (by simp [hy])) ha.2 h2⟩
theorem aoR {V D kd:Int} (hkd:kd=22∨kd=27) {p a:Tm} {l:List Tm} (hl:ct kd=(l.length:Int)+2) (hD:D≤24) (hV:0≤V) (hp:bB (V+1) D p) (hm:bO true V D kd 1 l=true) (ha:bB V D a):bB V D (ig kd p l a):=by
 refine aoU (kd:=kd) (l:=p::l++[a]) (by omega) (by rw [hl];simp;omega) hD ?_
 obtain ⟨_,e2,e3⟩:=h9 hkd 0
 have e4:=(h9 hkd l.length).1
 have e5:=(h9 hkd (l.length+1)).2.1
 rw [List.cons_append,bO,Bool.and_eq_true,mh,iw,show (0+1+l.length:Nat)=l.length+1 by omega,e2,e3,e4,e5,aoZ hV,an0,Int.add_zero]
 exact ⟨hp,hm,ha⟩
theorem apq (hk:F3 k) {t f b line y:Tm} {l:List (Br Tm)} {V D:Int} (ft:Fm t) (hkd:t.kind=22∨t.kind=27) (h15:(adR t).kind=15) (hV:0≤V) (hD:0≤D∧D≤8) (hb:dH t≤4) (hs:bB V D t) (p:ElimP k t f b line l y):bB V D y∧y.sys.map (·.face)=(adR t).sys.map (·.face):=by
 refine ⟨?_,(apf p.comp).trans p.bs⟩
 have hks:ct t.kind=t.kids.length:=ft.nk
 have hlen:2≤t.kids.length:=by
  rcases hkd with h|h<;>rw [h] at hks
  ·have e:ct 22=4:=rfl
   omega
  ·have e:ct 27=5:=rfl
   omega
 obtain ⟨gl,ml⟩:=nw hlen
 obtain ⟨km,_⟩:=Lx hlen
 have fx:=ft.kid ml
 obtain ⟨u,a,hxk⟩:=I8 (E5 fx h15 (n:=2) rfl)
 obtain ⟨dx0,dx1⟩:=EC hxk
 have fu:Fm u:=fx.kid (by rw [hxk];simp)
 have fa:Fm a:=fx.kid (by rw [hxk];simp)
 obtain ⟨sy,syl⟩:=fx.sy h15
 have fp:Fm (t.kids.getD 0 ao):=ft.kid (by rw [km];simp)
 have hbk:dU t.kind 0 t.kids≤4:=by
  have:=l9 t.sys
  cases t;rw [dH] at hb;simp only [Tm.sys] at this;simp only [Tm.kind,Tm.kids];omega
 have hbx:dH (t.kids.getD 0 ao)+dH (adR t)≤4:=Int.le_trans (mw (kd:=t.kind) (i:=0) ⟨[t.kids.getD 0 ao],ac3 t++[adR t],km,by simp,by simp⟩) hbk
 have hbm: ∀y∈ac3 t,j1 y≤4:=fun y hy=>by
  have h1:=mw (kd:=t.kind) (l:=t.kids) (i:=0) (x:=t.kids.getD 0 ao) (y:=y) ⟨[t.kids.getD 0 ao],ac3 t++[adR t],km,by simp,by simp [hy]⟩
  have h2:=gG (t.kids.getD 0 ao)
  have h3:=jb y
  omega
 have b1:=jb (t.kids.getD 0 ao);have b2:=jb (adR t);have b3:=gG (t.kids.getD 0 ao);have b4:=gG (adR t)
 have bx:j1 u≤j1 (adR t)∧j1 a≤j1 (adR t)∧cx (adR t).sys≤j1 (adR t):=by
  generalize adR t=x at h15 hxk ⊢
  obtain ⟨kd,n,nm,r,ks,sys⟩:=x
  have h15:kd=15:=h15
  have hxk:ks=[u,a]:=hxk
  subst h15;subst hxk
  have e0:bJ 15 ((0:Nat):Int)=0:=rfl
  have e5:bJ 15 ((0+1:Nat):Int)=0:=rfl
  rw [j1,dI,dI,dI,e0,e5]
  simp only [Tm.sys]
  omega
 obtain ⟨s1,_,_⟩:=aoe hs
 rw [km,mh,mh,iw,iw,List.length_singleton] at s1
 obtain ⟨_,z2,z3⟩:=h9 hkd 0
 obtain ⟨z4,_,_⟩:=h9 hkd (ac3 t).length
 have z5:=(h9 hkd ((ac3 t).length+1)).2.1
 rw [z2,z3,show (0+1+(ac3 t).length:Nat)=(ac3 t).length+1 by omega,z4,z5,aoZ hV,an0,Int.add_zero] at s1
 obtain ⟨sp,sm,sx⟩:=s1
 obtain ⟨x1,x2,x3⟩:=aoP sx h15
 obtain ⟨su,sa⟩:=x3 hxk
 have pf:=p.fill
 rw [dx0,dx1] at pf
 have swx:=aoW (by omega) x1 x2
 have sf:bB V (D+1) f:=aqb fu fa (by omega) hV su sa swx (iQ (wg (dx0▸fu).ok (dx1▸fa).ok (Jc hk fx).1 p.so).2.2) (by omega) (by omega) (by omega) pf
 have sb:=aog fp (a:=0) (b:=1) (by omega) (by omega) (by omega) sp (by omega) p.up
 rw [Int.add_zero] at sb
 have wl:=aqv hV (by omega) p.fb p.ff (aoD f sf) (aoD b sb) p.plug
 have bf:=qL (fun b hb=>(sy b hb).1) pf
 have bl:j1 line≤6:=by
  have h1:=rx p.plug
  have h2:=kx p.up
  omega
 have sl:bB V (D+1) line:=aqj line wl (by omega)
 have hml:ct t.kind=((ac3 t).length:Int)+2:=by
  rw [hks,km];simp;omega
 have sa':bB V D (ig t.kind (t.kids.getD 0 ao) (ac3 t) ((adR t).kids.getD 1 ao)):=aoR hkd hml (by omega) hV sp sm (dx1▸sa)
 have key: ∀ {r l:List (Br Tm)},(∀b∈r,b.kids=[AK b])→r.all (bX 15 D)=true→ck true V D 15 r=true→ama t.kind b (ac3 t) r= .ok l→l.all (bX 15 D)=true∧ck true V D 15 l=true:=by
  intro r
  induction r with
  |nil=>intro l _ _ _ h;rw [ama] at h;injection h with h;subst h;exact ⟨rfl,by rw [ck]⟩
  |cons z r ih=>
   intro l hk h1 h2 h
   rw [ama] at h
   obtain ⟨ms,q1,h⟩:=i8 h
   obtain ⟨m,q2,h⟩:=i8 h
   injection h with h;subst h
   rw [List.all_cons,Bool.and_eq_true] at h1 ⊢
   obtain ⟨hkid,h2r⟩:=aop (hk z (by simp)) h2
   obtain ⟨i1,i2⟩:=ih (fun b hb=>hk b (by simp [hb])) h1.2 h2r q2
   obtain ⟨_,fml⟩:=I_ (fun y hy=>ft.kid (rd hy)) q1
   refine ⟨⟨?_,i1⟩, ?_⟩
   ·have:=h1.1
    unfold bX at this ⊢
    rw [Bool.and_eq_true] at this ⊢
    exact ⟨rfl,this.2⟩
   ·rw [ck,Bool.and_eq_true,jT,ca,ca,Bool.and_true]
    refine ⟨?_,i2⟩
    have:=aoR (V:=V) (D:=D+1) hkd (p:=b) (l:=ms) (a:=AK z) (by rw [hml,fml]) (by omega) hV sb (aqg hkd hV (fun x hx=>by omega) (i:=0) (fun y hy=>⟨ft.kid (rd hy),hbm y hy⟩) sm q1) hkid
    exact this
 obtain ⟨k1,k2⟩:=key (fun b hb=>(sy b hb).1) x1 x2 p.brs
 exact aqa p.fl (by omega) hV sl sa' (aoW (by omega) k1 k2) (iQ p.fw) (by omega) p.comp
end Go.Proofs.YtfkkpkhfjpaafaaGreatDoor
namespace Go.Proofs.YtfkkpkhfjpaafaaGreatDoor
open Go PI
set_option linter.unusedVariables false
set_option linter.unusedSimpArgs false
set_option maxRecDepth 20000
variable {S:Type} {k:Nat}
theorem wq {V D:Int} {r:List Cl} {a:Tm} (hr:bF r=true) (hlow:dg r D=true) (hD:D≤24) (ha:bB V D a):bB V D (.mk 26 0 ByteArray.empty r [a] []):=by
 unfold bB
 rw [a6,ck]
 simp only [Bool.true_and,Bool.and_eq_true,Bool.not_eq_true',decide_eq_false_iff_not,Bool.and_true]
 refine ⟨by omega, ?_, ?_⟩
 ·show (true&&(bF r&&dg r D))=true
  rw [hr,hlow];rfl
 ·rw [iw]
  show a6 true (cQ V 0) (D+0) a=true
  rw [an0,Int.add_zero];exact ha
theorem wi {V D:Int} {t:Tm} (h:bB V D t) (hk:t.kind=14) {l a:Tm} (hkd:t.kids=[l,a]):cV t.r=true∧dg t.r D=true∧bB V (D+1) l∧bB V D a:=by
 obtain ⟨h1,h2,h3⟩:=aoe h
 rw [hk,hkd,ls] at h1
 have e1:bz 14 ((0:Nat):Int)=0:=rfl
 have e2:bJ 14 ((0:Nat):Int)=1:=rfl
 have e3:bz 14 ((0+1:Nat):Int)=0:=rfl
 have e4:bJ 14 ((0+1:Nat):Int)=0:=rfl
 rw [e1,e2,e3,e4,an0,Int.add_zero] at h1
 obtain ⟨kd,n,nm,r,ks,sys⟩:=t
 have hk:kd=14:=hk
 subst hk
 have:(_&&(cV r&&dg r D))=true:=h3
 simp only [Bool.and_eq_true] at this
 exact ⟨this.2.1,this.2.2,h1⟩
theorem ape (hk:F3 k) {t y:Tm} {V D:Int} (ft:Fm t) (h14:t.kind=14) (h23:(t.kids.getD 0 ao).kind=23) (hx:(t.kids.getD 1 ao).kind=24∨(t.kids.getD 1 ao).kind=25∨(t.kids.getD 1 ao).kind=26∨(t.kids.getD 1 ao).kind=15) (hV:0≤V) (hD:0≤D∧D≤8) (hb:dH t≤4) (hs:bB V D t) (h:gh t.r (t.kids.getD 0 ao) (t.kids.getD 1 ao)= .ok y):
  bB V D y∧y.kind=(t.kids.getD 1 ao).kind∧((t.kids.getD 1 ao).kind=15→y.sys.map (·.face)=(t.kids.getD 1 ao).sys.map (·.face)):=by
 obtain ⟨line,x,hkd⟩:=I8 (E5 ft h14 (n:=2) rfl)
 obtain ⟨d0,d1⟩:=EC hkd
 rw [d0,d1] at h
 rw [d1] at hx ⊢
 rw [d0] at h23
 have fl:Fm line:=ft.kid (by rw [hkd];simp)
 have fx:Fm x:=ft.kid (by rw [hkd];simp)
 have hr:=ft.r14 h14
 obtain ⟨r1,r2,sl,sx⟩:=wi hs h14 hkd
 have hbl:j1 line≤4:=by
  have h1:=mw (kd:=t.kind) (i:=0) (x:=line) (y:=x) (l:=t.kids) ⟨[line],[x],by rw [hkd];rfl,by simp,by simp⟩
  have h2:=gG x
  have h3:=jb line
  have h4:=l9 t.sys
  have h5:dH t=dU t.kind 0 t.kids+bnS t.sys:=by cases t;rw [dH];rfl
  omega
 unfold gh at h
 split at h
 ·injection h with h;subst h
  exact ⟨sx,rfl,fun h=>by omega⟩
 split at h
 ·rename_i h26
  injection h with h;subst h
  obtain ⟨w,hw⟩:=jH (E5 fx h26 (n:=1) rfl)
  obtain ⟨z,hz⟩:=jH (E5 fl h23 (n:=1) rfl)
  rw [hw,hz,show [z].getD 0 ao=z from rfl,show [w].getD 0 ao=w from rfl]
  obtain ⟨k1,_,k3⟩:=aoe sx
  obtain ⟨q1,_,_⟩:=aoe sl
  rw [hw,h26,iw] at k1
  rw [hz,h23,iw] at q1
  have e1:bz 26 ((0:Nat):Int)=0:=rfl
  have e2:bJ 26 ((0:Nat):Int)=0:=rfl
  have e3:bz 23 ((0:Nat):Int)=0:=rfl
  have e4:bJ 23 ((0:Nat):Int)=0:=rfl
  rw [e1,e2,an0,Int.add_zero] at k1
  rw [e3,e4,an0,Int.add_zero] at q1
  have k4:bF x.r=true∧dg x.r D=true:=by
   obtain ⟨kd,n,nm,r,ks,sys⟩:=x
   have h26:kd=26:=h26
   subst h26
   have:(_&&(bF r&&dg r D))=true:=k3
   simp only [Bool.and_eq_true] at this
   exact this.2
  exact ⟨wq k4.1 k4.2 (by omega) (aod r1 r2 (by omega) q1 k1),h26.symm,fun h=>by omega⟩
 have h15:x.kind=15:=by omega
 obtain ⟨u,a,hxk⟩:=I8 (E5 fx h15 (n:=2) rfl)
 obtain ⟨dx0,dx1⟩:=EC hxk
 obtain ⟨sy,syl⟩:=fx.sy h15
 obtain ⟨x1,x2,x3⟩:=aoP sx h15
 obtain ⟨su,sa⟩:=x3 hxk
 rw [dx1] at h
 obtain ⟨e,h1,h⟩:=i8 h
 obtain ⟨l,h2,h⟩:=i8 h
 injection h with h;subst h
 have key: ∀ {r l:List (Br Tm)},(∀b∈r,b.kids=[AK b])→r.all (bX 15 D)=true→ck true V D 15 r=true→amw t.r line r= .ok l→l.all (bX 15 D)=true∧ck true V D 15 l=true∧l.map (·.face)=r.map (·.face):=by
  intro r
  induction r with
  |nil=>intro l _ _ _ h;rw [amw] at h;injection h with h;subst h;exact ⟨rfl,by rw [ck],rfl⟩
  |cons z r ih=>
   intro l hk h1 h2 h
   rw [amw] at h
   obtain ⟨phi,q0,h⟩:=i8 h
   obtain ⟨ln,q1,h⟩:=i8 h
   obtain ⟨m,q2,h⟩:=i8 h
   injection h with h;subst h
   obtain ⟨p0,rfl⟩:=rR q0
   rw [List.all_cons,Bool.and_eq_true] at h1 ⊢
   obtain ⟨hkid,h2r⟩:=aop (hk z (by simp)) h2
   obtain ⟨i1,i2,i3⟩:=ih (fun b hb=>hk b (by simp [hb])) h1.2 h2r q2
   refine ⟨⟨?_,i1⟩, ?_,by rw [List.map_cons,List.map_cons,i3]⟩
   ·have:=h1.1
    unfold bX at this ⊢
    rw [Bool.and_eq_true] at this ⊢
    exact ⟨rfl,this.2⟩
   ·rw [ck,Bool.and_eq_true,jT,ca,ca,Bool.and_true]
    refine ⟨?_,i2⟩
    have s2:=aof (Int.le_refl 0) (show (0:Int)≤1 by omega) line (v:=0) (d:=1) (V:=V) (D:=D+1) (by omega) hV fl.ok fl.rows sl (fun _=>by omega) q1
    rw [Int.add_zero] at s2
    have hlow:dg (agS t.r 0 1).1 (D+1)=true:=by
     rw [an1 (kQ p0)]
     exact aot (n:=0) hr.1 p0 (anY ((an1 hr.1).1 r2) fun j hj=>by
      have:up1 0 1 j=j+1:=by unfold up1;rw [if_neg (by omega)]
      rw [this];omega)
    have hright:cV (agS t.r 0 1).1=true:=by
     exact QF (d:=0) (db:=1) (f:=t.r) (by unfold alN;rw [if_neg (by omega),jF p0]) hr.1.2 r1
    have:=aod (V:=V) (D:=D+1) hright hlow (by omega) s2 hkid
    exact this
 obtain ⟨k1,k2,k3⟩:=key (fun b hb=>(sy b hb).1) x1 x2 h2
 exact ⟨aok (by omega) (aoT fl hD.1 sl h1) (aod r1 r2 (by omega) sl sa) k1 k2,h15.symm,fun _=>k3⟩
end Go.Proofs.YtfkkpkhfjpaafaaGreatDoor
namespace Go.Proofs.YtfkkpkhfjpaafaaGreatDoor
open Go PI
set_option linter.unusedVariables false
set_option linter.unusedSimpArgs false
set_option maxRecDepth 20000
variable {S:Type} {k:Nat}
section
variable {hd:Tm→(Int→Option S)→Option S} {t:Tm}
abbrev ja (hd:Tm→(Int→Option S)→Option S) (y:Tm):Prop:= ∀g,hd y g=g (dH y)
theorem nP (b:Br Tm) (l:List (Br Tm)):bnS (b::l)=bnM b.kids+bnS l:=by cases b;rw [bnS,l8]
theorem apM (hk:Fu k) (ret:Int→Option S) (rec1:Int→Int→Option S) {v:Int} {x:Br Tm} (hQ: ∀y∈x.kids,ja hd y) (hl:x.kids.length<1073741824):
  ∀ (r p:List Tm) (m:Nat) (a:Int),x.kids=p++r→r.length<m→0≤a→a+bnM r<4611686018427387904→iM hd k ret rec1 t v x m a (p.length:Int)=rec1 (a+bnM r) (IntKind.wrap .i64 (v+1)):=by
 intro r
 induction r with
 |nil=>
  intro p m a h hm ha hz
  obtain ⟨m,rfl,hm'⟩:=i9 hm
  simp only [iM,lG,akb h,ad,bnM]
  rw [Int.add_zero]
 |cons y r ih=>
  intro p m a h hm ha hz
  obtain ⟨m,rfl,hm'⟩:=i9 hm
  obtain ⟨e1,e2,e3,e4⟩:=j3 h (by omega)
  have q2:=hQ y (by rw [h];simp)
  have:=gG y
  have:=aon r
  rw [bnM] at hz
  simp only [iM,lG,e1,ae,e2,Option.bind_some,ar,q2 _,e3,aaf (show-9223372036854775808≤1+dH y by omega) (by omega),aaf (show-9223372036854775808≤a+(1+dH y) by omega) (by omega)]
  rw [ih _ m _ e4 hm' (by omega) (by omega),bnM,Int.add_assoc]
theorem apL (hk:Fu k) (ret:Int→Option S) (hQ: ∀b∈t.sys,∀y∈b.kids,ja hd y) (ht:OkT t):
  ∀ (r p:List (Br Tm)) (m:Nat) (a:Int),t.sys=p++r→r.length<m→0≤a→a+bnS r<4611686018427387904→hZ hd k ret t m a (p.length:Int)=ret (a+bnS r):=by
 obtain ⟨o1,o2,o3,o4,o5,o6,o7⟩:=ht.no
 intro r
 induction r with
 |nil=>
  intro p m a h hm ha hz
  obtain ⟨m,rfl,hm'⟩:=i9 hm
  simp only [hZ,j9,akb h,ad,bnS]
  rw [Int.add_zero]
 |cons x r ih=>
  intro p m a h hm ha hz
  obtain ⟨m,rfl,hm'⟩:=i9 hm
  obtain ⟨e1,e2,e3,e4⟩:=j3 h (by omega)
  have hx:x∈t.sys:=by rw [h];simp
  rw [nP] at hz
  have hp:=aon x.kids
  have hp2:=l9 r
  have:=apM (t:=t) hk ret (hZ hd k ret t m) (v:=(p.length:Int)) (hQ x hx) (ht.bi hx).1.2.2 x.kids [] k a rfl (by have:=(ht.bi hx).1.2.2;have:4294967296≤k:=hk;omega) ha (by omega)
  simp only [List.length_nil] at this
  simp only [hZ,j9,e1,ae,e2,Option.bind_some]
  refine Eq.trans this ?_
  rw [e3,ih _ m _ e4 hm' (by omega) (by omega),nP,Int.add_assoc]
theorem apK (hk:Fu k) (ret:Int→Option S) (hQ: ∀y∈t.kids,ja hd y) (hQ': ∀b∈t.sys,∀y∈b.kids,ja hd y) (ht:OkT t):
  ∀ (r p:List Tm) (m:Nat) (a:Int),t.kids=p++r→r.length<m→0≤a→a+dU t.kind p.length r+bnS t.sys<4611686018427387904→jm hd k ret t m (p.length:Int) a=ret (a+dU t.kind p.length r+bnS t.sys):=by
 obtain ⟨o1,o2,o3,o4,o5,o6,o7⟩:=ht.no
 intro r
 induction r with
 |nil=>
  intro p m a h hm ha hz
  obtain ⟨m,rfl,hm'⟩:=i9 hm
  rw [dU] at hz
  simp only [jm,j4,akb h,ad,dU]
  have hs:=apL hk ret hQ' ht t.sys [] k a rfl (by have:4294967296≤k:=hk;omega) ha (by omega)
  simp only [List.length_nil] at hs
  refine Eq.trans hs ?_
  rw [Int.add_zero]
 |cons y r ih=>
  intro p m a h hm ha hz
  obtain ⟨m,rfl,hm'⟩:=i9 hm
  obtain ⟨e1,e2,e3,e4⟩:=j3 h (by omega)
  have q2:=hQ y (by rw [h];simp)
  have:=gG y
  have hb:=gr t.kind p.length
  have hk':=mu t.kind r (p.length+1)
  have hs:=l9 t.sys
  rw [dU] at hz
  have:=ih (p++[y]) m (a+(bJ t.kind p.length+dH y)) e4 hm' (by omega) (by rw [List.length_append,List.length_singleton];omega)
  simp only [jm,j4,e1,ae,e2,Option.bind_some,ag hk,jE,ar,q2 _,e3,aaf (show-9223372036854775808≤bJ t.kind p.length+dH y by omega) (by omega),aaf (show-9223372036854775808≤a+(bJ t.kind p.length+dH y) by omega) (by omega)]
  rw [this,dU,List.length_append,List.length_singleton]
  exact congrArg ret (by omega)
end
theorem ap9 (t:Tm):OkT t→ ∀ {k:Nat} (ret:Int→Option S),Fd k (am t)→(au t:Int)<1099511627776→fH k t ret=ret (dH t):=by
 induction t using c7 with
 |h t ih1 ih2=>
  intro ht k ret hk hdp
  obtain ⟨q,rfl,hq,hf⟩:=hk.pos' (alF t)
  obtain ⟨o1,o2,o3,o4,o5,o6,o7⟩:=ht.no
  have hz:=Hl t
  have hQ: ∀y∈t.kids,ja (S:=S) (fH q) y:=fun y hy g=>ih1 y hy (ht.ki hy) g (hf _ (bY hy)) (by have:=k_ hy;omega)
  have hQ': ∀b∈t.sys,∀y∈b.kids,ja (S:=S) (fH q) y:=fun b hb y hy g=>ih2 b hb y hy ((ht.bi hb).2 y hy) g (hf _ (b8 hb hy)) (by have:=we hb;have:=k_ hy;omega)
  have hbn:=(jb t).2
  have e:dH t=dU t.kind 0 t.kids+bnS t.sys:=by cases t;rw [dH];rfl
  have:=apK hq ret hQ hQ' ht t.kids [] q 0 rfl (by have:4294967296≤q:=hq;omega) (Int.le_refl 0) (by simp only [List.length_nil];omega)
  simp only [List.length_nil] at this
  simp only [fH,aoC]
  refine Eq.trans this ?_
  rw [e,Int.zero_add]
theorem apO (hk:Fu k) (ret:Bool→Option S) {x b:Tm} (hl:x.sys.length<1073741824) (he:b.sys.map (·.face)=x.sys.map (·.face)) (hf: ∀z∈x.sys,z.face.length<1073741824):
  ∀ (r p:List (Br Tm)) (m:Nat),x.sys=p++r→r.length<m→iz k ret x b m (p.length:Int)=ret true:=by
 intro r
 induction r with
 |nil=>
  intro p m h hm
  obtain ⟨m,rfl,hm'⟩:=i9 hm
  simp only [iz,lE,akb h,ad]
 |cons y r ih=>
  intro p m h hm
  obtain ⟨m,rfl,hm'⟩:=i9 hm
  obtain ⟨e1,e2,e3,e4⟩:=j3 h (by omega)
  obtain ⟨z,hz,hzf⟩: ∃z,af b.sys (p.length:Int)=some z∧z.face=y.face:=by
   have h1:(x.sys.map (·.face))[p.length]? =some y.face:=by rw [h];simp
   rw [←he,List.getElem?_map,Option.map_eq_some_iff] at h1
   obtain ⟨z,h2,h3⟩:=h1
   exact ⟨z,by rw [pU];exact h2,h3⟩
  have hyl:y.face.length<1073741824:=hf y (by rw [h];simp)
  simp only [iz,lE,e1,ae,e2,Option.bind_some,hz,ag hk,e3]
  rw [aiV hk (by rw [hzf];omega),hzf,decide_eq_true rfl,Bool.not_true,ad]
  exact ih (p++[y]) m e4 hm'
theorem ao6 {kd D E:Int} (h:D≤E): ∀ {l:List (Br Tm)},ba l→l.all (bX kd D)=true→l.all (bX kd E)=true:=by
 intro l
 induction l with
 |nil=>intro _ _;rfl
 |cons b l ih=>
  intro ho hb
  obtain ⟨f,ks⟩:=b
  rw [ba,fc] at ho
  rw [List.all_cons,Bool.and_eq_true] at hb ⊢
  refine ⟨?_,ih ho.2 hb.2⟩
  have h1:=hb.1
  unfold bX at h1 ⊢
  simp only [Bool.and_eq_true,decide_eq_true_eq] at h1 ⊢
  exact ⟨h1.1,h1.2.1,aov ((oB ho.1.1.1).1 h1.2.1).1 h1.2.2 h⟩
theorem aqc (t:Tm):OkT t→ ∀ {V D E:Int},a6 false V D t=true→D≤E→a6 false (-1) E t=true:=by
 induction t using gq with
 |h kd n nm r ks sys ih1 ih2=>
  intro ht V D E h hDE
  rw [OkT] at ht
  obtain ⟨o1,o2,o3,o4,o5,o6,o7⟩:=ht.1
  have hk: ∀ {l:List Tm} {i:Nat},(∀x∈l,OkT x→ ∀ {V D E:Int},a6 false V D x=true→D≤E→a6 false (-1) E x=true)→aZ l→bO false V D kd i l=true→bO false (-1) E kd i l=true:=by
   intro l
   induction l with
   |nil=>intro i _ _ _;rw [bO]
   |cons t l ih=>
    intro i h hl ha
    rw [aZ] at hl
    rw [bO,Bool.and_eq_true] at ha ⊢
    rw [B2]
    exact ⟨h t (by simp) hl.1 ha.1 (by omega),ih (fun x hx=>h x (by simp [hx])) hl.2 ha.2⟩
  have hm: ∀ {l:List Tm},(∀x∈l,OkT x→ ∀ {V D E:Int},a6 false V D x=true→D≤E→a6 false (-1) E x=true)→aZ l→ca false V D kd l=true→ca false (-1) E kd l=true:=by
   intro l
   induction l with
   |nil=>intro _ _ _;rw [ca]
   |cons t l ih=>
    intro h hl ha
    rw [aZ] at hl
    rw [ca,Bool.and_eq_true] at ha ⊢
    exact ⟨h t (by simp) hl.1 ha.1 (by omega),ih (fun x hx=>h x (by simp [hx])) hl.2 ha.2⟩
  have hs: ∀ {l:List (Br Tm)},(∀b∈l,∀x∈b.kids,OkT x→ ∀ {V D E:Int},a6 false V D x=true→D≤E→a6 false (-1) E x=true)→ba l→ck false V D kd l=true→ck false (-1) E kd l=true:=by
   intro l
   induction l with
   |nil=>intro _ _ _;rw [ck]
   |cons b l ih=>
    intro h hl ha
    obtain ⟨f,ks'⟩:=b
    rw [ba,fc] at hl
    rw [ck,jT,Bool.and_eq_true] at ha ⊢
    exact ⟨hm (l:=ks') (h ⟨f,ks'⟩ (by simp)) hl.1.2 ha.1,ih (fun b hb=>h b (by simp [hb])) hl.2 ha.2⟩
  rw [a6,Bool.and_eq_true,Bool.and_eq_true,Bool.and_eq_true] at h ⊢
  refine ⟨rfl, ?_,hk ih1 ht.2.1 h.2.2.1,hs ih2 ht.2.2 h.2.2.2⟩
  have h2:=h.2.1
  unfold cL at h2 ⊢
  simp only [Bool.and_eq_true] at h2 ⊢
  refine ⟨h2.1, ?_⟩
  have h3:=h2.2
  split
  ·rename_i c
   rw [if_pos c] at h3
   simp only [Bool.and_eq_true,decide_eq_true_eq] at h3 ⊢
   exact ⟨h3.1,h3.2.1,.inl (by omega)⟩
  ·rename_i c
   rw [if_neg c] at h3
   split
   ·rename_i c
    rw [if_pos c] at h3;exact h3
   ·rename_i c
    rw [if_neg c] at h3
    split
    ·rename_i c
     rw [if_pos c,Bool.and_eq_true] at h3
     rw [Bool.and_eq_true]
     exact ⟨h3.1,aov ((fF o4).1 h3.1) h3.2 hDE⟩
    ·rename_i c
     rw [if_neg c] at h3
     split
     ·rename_i c
      rw [if_pos c,Bool.and_eq_true] at h3
      rw [Bool.and_eq_true]
      exact ⟨h3.1,aov ((oB o4).1 h3.1).1 h3.2 hDE⟩
     ·rename_i c
      rw [if_neg c,Bool.and_eq_true] at h3
      rw [Bool.and_eq_true]
      exact ⟨ao6 hDE ht.2.2 h3.1,h3.2⟩
theorem apu {t:Tm} (h:In k t) {V D:Int} (hr:anW t V D=0):Fm t:=by
 have hr':=hr
 unfold anW at hr
 split at hr
 ·cases hr
 split at hr
 ·cases hr
 split at hr
 ·cases hr
 obtain ⟨_,_,hs⟩:=aoN hr'
 exact ⟨h.1,pS (by omega) (by omega) (aqc t h.1 (aoD t hs) (aoS hs))⟩
structure MayR (k:Nat) (x t:Tm) (V D:Int) (r:Tm×Bool×Int):Prop where
 ins:In k r.1
 no:r.2.1=false→r.1=ao
 ok:r.2.1=true→r.2.2=0∧anW r.1 V D=0∧r.1.kind=x.kind∧(x.kind=15→r.1.sys.map (·.face)=x.sys.map (·.face))
theorem apo (hk:F3 k) {t:Tm} {V D:Int} (ht:In k t) (ft:Fm t) (hV:0≤V) (hD:0≤D∧D≤8) (hb:dH t≤4) (hs:bB V D t):MayR k (adR t) t V D (pP t)∧((pP t).2.1=true→(t.kind=22∨t.kind=27)∧(adR t).kind=15):=by
 have hin:=acE hk ht
 unfold pP at hin ⊢
 rw [if_neg (by simp [ft.2])] at hin ⊢
 split
 case isFalse=>exact ⟨⟨gQ hk,fun _=>rfl,fun h=>by cases h⟩,fun h=>by cases h⟩
 case isTrue hc=>
  rw [if_pos hc] at hin
  refine ⟨?_,fun _=>hc⟩
  cases hh:amf t.kind (t.kids.getD 0 ao) (ac3 t) (adR t) with
  |error e=>exact ⟨gQ hk,fun _=>rfl,fun h=>by cases h⟩
  |ok y=>
   obtain ⟨f,b,line,l,hp⟩:=KC hk ft hc.1 hc.2 hh
   obtain ⟨s1,s2⟩:=apq hk ft hc.1 hc.2 hV hD hb hs hp
   rw [show iP (.ok y)=(y,true,0) from if_pos hp.fy]
   exact ⟨hp.yin,fun h=>(by cases h),fun _=>⟨rfl,aoO hp.fy hV hD.1 s1,(Z_ hp.comp).trans hc.2.symm,fun _=>s2⟩⟩
theorem apd (hk:F3 k) {t:Tm} {V D:Int} (ht:In k t) (ft:Fm t) (hV:0≤V) (hD:0≤D∧D≤8) (hb:dH t≤4) (hs:bB V D t):MayR k (adR t) t V D (h_ t)∧((h_ t).2.1=true→t.kind=14):=by
 have hin:=apb hk ht
 unfold h_ at hin ⊢
 rw [if_neg (by simp [ft.2])] at hin ⊢
 split
 case isFalse=>exact ⟨⟨gQ hk,fun _=>rfl,fun h=>by cases h⟩,fun h=>by cases h⟩
 case isTrue hc=>
  rw [if_pos hc] at hin
  refine ⟨?_,fun _=>hc.1⟩
  obtain ⟨line,x,hkd⟩:=I8 (E5 ft hc.1 (n:=2) rfl)
  have hl:adR t=t.kids.getD 1 ao:=by unfold adR;rw [hkd];rfl
  rw [hl]
  cases hh:gh t.r (t.kids.getD 0 ao) (t.kids.getD 1 ao) with
  |error e=>exact ⟨gQ hk,fun _=>rfl,fun h=>by cases h⟩
  |ok y=>
   have hy:=nR hk ft hc.1 hc.2.1 hc.2.2 hh
   obtain ⟨s1,s2,s3⟩:=ape hk ft hc.1 hc.2.1 hc.2.2 hV hD hb hs hh
   show MayR k _ t V D (if bw y=0 then (y,true,(0:Int)) else (ao,false,bw y))
   split
   ·rename_i fy
    exact ⟨hy.1,fun h=>(by cases h),fun _=>⟨rfl,aoO fy hV hD.1 s1,s2,s3⟩⟩
   ·exact ⟨gQ hk,fun _=>rfl,fun h=>by cases h⟩
theorem ap7 (hk4:F4 k) {t:Tm} {V D:Int} (ht:In k t) (hV:aG V) (hD:aG D) (ret:Bool→Option S):l_ k t V D ret=ret true:=by
 have hk:=hk4.f3
 have hfu:4294968296≤k:=hk
 simp only [l_,aoB,ag hk.fu,ar,aj2 hk,Bool.not_true,ad,DR,SR]
 obtain ⟨w,hw⟩:=ajK t ht.1 150 (fun r1=>ab (decide (r1>150)) (ret true) (ab (decide (D>8)) (ret true) (fH k t fun r3=>ab (decide (r3>4)) (ret true) (anX k t V D fun r4=>ab (!(r4==0)) (ret true) (tL k t fun r5=>JG k t fun r6=>ab r5.2.1 (ab (!(r5.2.2==0)) (ret false) (anX k r5.1 V D fun r7=>ab (!(r7==0)) (ret false) (ab r6.2.1 (ab (!(r6.2.2==0)) (ret false) (anX k r6.1 V D fun r8=>ab (!(r8==0)) (ret false) (ab r5.2.1 (ab r6.2.1 (ret false) (anV k ret r6 t r5 k)) (anV k ret r6 t r5 k)))) (ab r5.2.1 (ab r6.2.1 (ret false) (anV k ret r6 t r5 k)) (anV k ret r6 t r5 k))))) (ab r6.2.1 (ab (!(r6.2.2==0)) (ret false) (anX k r6.1 V D fun r15=>ab (!(r15==0)) (ret false) (ab r5.2.1 (ab r6.2.1 (ret false) (anV k ret r6 t r5 k)) (anV k ret r6 t r5 k)))) (ab r5.2.1 (ab r6.2.1 (ret false) (anV k ret r6 t r5 k)) (anV k ret r6 t r5 k)))))))) ht.2.1
 refine hw.trans ?_
 cases decide (w>150) with
 |true=>rfl
 |false=>
 rw [ad,aY]
 split
 ·rfl
 rename_i hD8
 rw [ap9 t ht.1 _ ht.2.1 (by have:=ht.2.2;omega),aY]
 split
 ·rfl
 rename_i hb4
 unfold aG at hV hD
 rw [nK ht hk (by omega) (by omega)]
 by_cases r0:anW t V D=0
 case neg=>rw [show (anW t V D==0)=false from by simpa using r0];rfl
 rw [show (!(anW t V D==0))=false from by simpa using r0,ad,ajh hk4 ht,ap_ hk ht]
 have ft:=apu ht r0
 obtain ⟨v0,d0,hs⟩:=aoN r0
 obtain ⟨m1,e1⟩:=apo hk ht ft v0 (by omega) (by omega) hs
 obtain ⟨m2,e2⟩:=apd hk ht ft v0 (by omega) (by omega) hs
 generalize pP t=A at m1 e1 ⊢
 generalize h_ t=B at m2 e2 ⊢
 obtain ⟨a,oa,ea⟩:=A
 obtain ⟨b,ob,eb⟩:=B
 obtain ⟨i1,n1,q1⟩:=m1
 obtain ⟨i2,n2,q2⟩:=m2
 dsimp only at i1 n1 q1 i2 n2 q2 e1 e2 ⊢
 obtain ⟨q,hq⟩: ∃q,k=q+1:=⟨k-1,by omega⟩
 have fin: ∀y:Tm,y.kind=(adR t).kind→((adR t).kind=15→y.sys.map (·.face)=(adR t).sys.map (·.face))→Fm (adR t)→(adR t).kind=15→an6 k ret (adR t) k y=ret true:=fun y hy hf fx h15=>by
  have: ∀j,j=q+1→an6 k ret (adR t) j y=ret true:=by
   rintro j rfl
   simp only [an6,lD]
   exact apO hk.fu ret (by have:=(fx.sy h15).2;omega) (hf h15) (fun z hz=>by have:=(fx.face hz).1.len;omega) (adR t).sys [] k rfl (by have:=(fx.sy h15).2;omega)
  exact this k hq
 have J:(oa=true→ob=true→False)→anV k ret (b,ob,eb) t (a,oa,ea) k=ret true:=fun hno=>by
  have hlast:(oa=true∨ob=true)→2≤t.kids.length:=fun h=>by
   have:=ft.nk
   rcases h with h|h
   ·rcases (e1 h).1 with h|h<;>rw [h] at this
    ·have e:ct 22=4:=rfl
     omega
    ·have e:ct 27=5:=rfl
     omega
   ·have h:=e2 h
    rw [h] at this
    have e:ct 14=2:=rfl
    omega
  have J1:(oa=true∨ob=true)→an5 k ret (b,ob,eb) t (a,oa,ea) k=ret true:=fun hor=>by
   have hl:=hlast hor
   obtain ⟨gl,ml⟩:=nw hl
   have fx:=ft.kid ml
   have hw:IntKind.wrap .i64 ((t.kids.length:Int)-1)=(t.kids.length:Int)-1:=aaf (by omega) (by have:=ft.ok.no.2.2.2.2.2.1;omega)
   have: ∀j,j=q+1→an5 k ret (b,ob,eb) t (a,oa,ea) j=ret true:=by
    rintro j rfl
    simp only [an5,lA,hw,gl,Option.bind_some,ar]
    by_cases h15:(adR t).kind=15
    ·rw [show (!((adR t).kind==15))=false from by simpa using h15,ad]
     cases oa with
     |true=>
      obtain ⟨_,_,k1,k2⟩:=q1 rfl
      rw [ae,show (!(a.kind==15))=false from by rw [k1];simpa using h15,ad]
      have hle:a.sys.length=(adR t).sys.length:=by have:=congrArg List.length (k2 h15);simpa using this
      rw [hle,show (!(((adR t).sys.length:Int)==((adR t).sys.length:Int)))=false from by simp,ad]
      exact fin a k1 k2 fx h15
     |false=>
      cases ob with
      |false=>rcases hor with h|h<;>cases h
      |true=>
       obtain ⟨_,_,k1,k2⟩:=q2 rfl
       rw [ad,show (!(b.kind==15))=false from by rw [k1];simpa using h15,ad]
       have hle:b.sys.length=(adR t).sys.length:=by have:=congrArg List.length (k2 h15);simpa using this
       rw [hle,show (!(((adR t).sys.length:Int)==((adR t).sys.length:Int)))=false from by simp,ad]
       exact fin b k1 k2 fx h15
    ·rw [show (!((adR t).kind==15))=true from by simpa using h15,ae]
     cases oa with
     |true=>exact absurd (e1 rfl).2 h15
     |false=>
      cases ob with
      |false=>rcases hor with h|h<;>cases h
      |true=>
       obtain ⟨_,_,k1,_⟩:=q2 rfl
       rw [ae,k1,beq_self_eq_true]
   exact this k hq
  have: ∀j,j=q+1→anV k ret (b,ob,eb) t (a,oa,ea) j=ret true:=by
   rintro j rfl
   simp only [anV,lz,ar]
   cases oa with
   |true=>rw [Bool.not_true,ad];exact J1 (.inl rfl)
   |false=>
    rw [Bool.not_false,ae]
    cases ob with
    |true=>rw [Bool.not_true,ad];exact J1 (.inr rfl)
    |false=>
     rw [Bool.not_false,ae,n1 rfl,n2 rfl]
     have hn:=RQ (S:=S) ao (gQ hk).1 (k:=k)
     unfold ao at hn ⊢
     rw [hn _ (gQ hk).2.1,ae,hn _ (gQ hk).2.1]
  exact this k hq
 have hno:oa=true→ob=true→False:=fun h1 h2=>by
  have:=e2 h2
  rcases (e1 h1).1 with h|h<;>omega
 cases oa with
 |true=>
  cases ob with
  |true=>exact (hno rfl rfl).elim
  |false=>
   obtain ⟨k0,k1,_,_⟩:=q1 rfl
   subst k0
   rw [ae,show (!((0:Int)==0))=false from rfl,ad,nK i1 hk (by omega) (by omega),k1]
   exact J hno
 |false=>
  cases ob with
  |true=>
   obtain ⟨k0,k1,_,_⟩:=q2 rfl
   subst k0
   rw [ad,ae,show (!((0:Int)==0))=false from rfl,ad,nK i2 hk (by omega) (by omega),k1]
   exact J hno
  |false=>exact J hno
end Go.Proofs.YtfkkpkhfjpaafaaGreatDoor
namespace Go.Proofs.YtfkkpkhfjpaafaaGreatDoor
open Go PI Go.ChangeShapes Go.WideShapes Go.ChangeAt Go.RowKit
set_option linter.unusedVariables false
set_option linter.unusedSimpArgs false
set_option maxRecDepth 100000
set_option maxHeartbeats 4000000
theorem adj {k:Nat} (hk:4296016872≤k) {H:Type} {t:Tm} {d:DataW H} (h:QT t d) (hb:Rows.uptoBulk d≤1048576):In k t:=by
 have h1:=h.1
 have h2:=zG t
 exact ⟨h.2 (by omega),by unfold Fd;omega,by omega⟩
theorem nO {H:Type} {enc:TypeId×Value→H} {w:World} {spare:Nat→Bool} {held:Bool} {o:Obj} {N:aN} {g:Gh UU} (hN: ∀b o,¬N b o) {W:World} {base:Nat} {v:Value} {d:DataW H} {ps:List MemPlace} (hv:Value.okWide Tryz.prog W .any base 3 v) (h:DataW.Trod enc Tryz.prog w 0 spare held 3 v d ps):
  ∃n:Int,Rep (LL o) w N g v (.int .i64 n)∧aG n:=by
 obtain ⟨n,rfl⟩:=okWide_int Tryz.underlying3 hv
 obtain ⟨q,hq⟩:=h
 obtain ⟨z,hz,hi⟩:=NT hq
 obtain rfl:n=z:=by simpa [Value.cells] using hz
 exact ⟨n,.int _ _,hi⟩
theorem hrow (q:Nat) {a0 b0:Int} {c0:ByteArray} {d0:List Cl} {e0:List Tm} {f0:List (Br Tm)} {t1:Int} {t2:Int}:aoj (S:=Out UU) q [.agg (d6 ET.T (Tm.mk a0 b0 c0 d0 e0 f0)),.int .i64 t1,.int .i64 t2] [] some=aa q (l_ q (Tm.mk a0 b0 c0 d0 e0 f0) t1 t2) fun r=>some (Out.ret (U:=UU) (.bool r) []):=by kernel_rfl
theorem apP {j:Nat} (hF:F4 (j+1)) {t0:Tm} (h0:In (j+1) t0) {t1:Int} (h1:aG t1) {t2:Int} (h2:aG t2):aoj (S:=Out UU) (j+1) [.agg (d6 ET.T t0),.int .i64 t1,.int .i64 t2] [] some=some (.ret (.bool true) []):=by
 obtain ⟨a0,b0,c0,d0,e0,f0⟩:=t0
 exact (hrow (j+1)).trans ((ZV (by omega) _ _).trans (ap7 hF h0 h1 h2 fun r=>some (Out.ret (U:=UU) (.bool r) [])))
theorem agd {k:Nat} (hk:4296016872≤k) {o:Obj} (ho:ai o) {t0:Tm} (h0:In k t0) {t1:Int} (h1:aG t1) {t2:Int} (h2:aG t2):
  ci (LL o) 4 [.agg (d6 ET.T t0),.int .i64 t1,.int .i64 t2] [] (.ret (.bool true) []):=by
 have hF:F4 k:=by unfold F4;omega
 obtain ⟨j,rfl⟩: ∃j,k=j+1:=⟨k-1,by omega⟩
 obtain ⟨out,hout,hx⟩:=aqq (S:=Out UU) o ho (j+1) [.agg (d6 ET.T t0),.int .i64 t1,.int .i64 t2] [] some (.ret (.bool true) []) (apP hF h0 h1 h2)
 injection hx with hx
 exact hx▸hout
theorem agc (H:Type) (enc:TypeId×Value→H) (W:World) (base:Nat) (args:Array Value) (ds gs:List (DataW H)) (before:List MemPlace)
  (hval: ∀ (j:Nat) t v,Tryz.f4.params[j]? =some t→args[j]? =some v→Value.okWide Tryz.prog W .any base t v)
  (hW:DataW.Whole enc Tryz.prog Tryz.f4.params.toList Rows.hitMaySpec.vars false W args.toList ds gs before) (hL:laidMetH Tryz.prog Rows.hitMayRow.laid W) (hb:Rows.uptoBulkAll (ds++gs)≤1048576):
  Calls Tryz.prog 4 args W fun e W'=> ∃v,e= .returned v∧Rows.hitMaySpec.post enc Tryz.prog Tryz.f4 false true false false W args v W':=by
 have hW':=hW
 obtain ⟨p,q,hA0,hV,rfl,hfz,hnd⟩:=hW
 have hA:DataW.TrodAll enc Tryz.prog W 0 (fun _=>true) true Tryz.f4.params.toList args.toList ds p:=hA0
 rw [Tryz.params4] at hA hval
 obtain ⟨v0,vs0,d0,ds0,p0,q0,hargs,rfl,rfl,h0,r0⟩:=trodAll_cons hA
 obtain ⟨v1,vs1,d1,ds1,p1,q1,rfl,rfl,rfl,h1,r1⟩:=trodAll_cons r0
 obtain ⟨v2,vs2,d2,ds2,p2,q2,rfl,rfl,rfl,h2,r2⟩:=trodAll_cons r1
 obtain ⟨rfl,rfl,rfl⟩:=trodAll_nil r2
 obtain rfl:args= #[v0,v1,v2]:=by cases args;simp_all
 obtain ⟨rfl,rfl⟩:=trodVars_none hV
 obtain ⟨o,ho,hh⟩:=akL hL
 simp only [List.append_nil,Rows.uptoBulkAll,Nat.add_zero] at hb
 obtain ⟨t0,e0,k0⟩:=ZG (o:=o) (g:=gB UU 0 fun _=>0) noN h0
 obtain ⟨t1,e1,k1⟩:=nO (o:=o) (g:=gB UU 0 fun _=>0) noN (hval 1 3 v1 rfl rfl) h1
 obtain ⟨t2,e2,k2⟩:=nO (o:=o) (g:=gB UU 0 fun _=>0) noN (hval 2 3 v2 rfl rfl) h2
 have hk:(4296016872:Nat)≤4296016872:=Nat.le_refl _
 generalize hkk:(4296016872:Nat)=k at hk
 have hok:=agd (k:=k) (by omega) ho (adj (by omega) k0 (by omega)) k1 k2
 refine (ZW hok (adb hh rfl rfl fun j p hj=> ?_)).mono ?_
 ·match j,hj with
  |0,hj=>cases hj;exact e0
  |1,hj=>cases hj;exact e1
  |2,hj=>cases hj;exact e2
  |j+3,hj=>simp at hj
 ·rintro e W' ⟨rfl,hkept⟩
  refine ⟨_,rfl,ahF rfl rfl (fun t ht=> ?_) rfl hW' hkept⟩
  rw [Tryz.params4] at ht
  have ht':t=26∨t=3∨t=3:=by simpa using ht
  rcases ht' with rfl|rfl|rfl<;>exact of_decide_eq_true (by kernel_rfl)
noncomputable def Fb (os:Os):World:=
 {World.holding Tryz.prog os ⟨#[],#[],[]⟩ with heap:=(World.holding Tryz.prog os ⟨#[],#[],[]⟩).heap.modify 0 fun
   | .cells _ t frozen=> .cells (Lib.deBruijn32tab.map fun n:Nat=>Value.int .u8 n).toArray t frozen
   |o=>o}
def alC:Value:= .agg #[.int .i64 0,.int .i64 0,.string ByteArray.empty,.slice none 0 0,.slice none 0 0,.slice none 0 0]
def zeroArgs:Array Value:= #[alC,.int .i64 0,.int .i64 0]
def alA {H:Type}:DataW H:= .agg [.lit (.int .i64 0),.lit (.int .i64 0),.lit (.string []),.nil,.nil,.nil]
theorem af_ (os:Os):laidMet Tryz.prog Rows.hitMayRow.laid ((Fb os).forCall (fun _ _=>0) ⟨#[],zeroArgs,[]⟩).memory:=
 laidMet_of_run' 8 (by kernel_rfl) (by kernel_rfl)
theorem aim (os:Os) {H:Type} (enc:TypeId×Value→H): ∃places,DataW.whole enc Tryz.prog ((Fb os).forCall (fun _ _=>0) ⟨#[],zeroArgs,[]⟩).memory Tryz.f4.params.toList Rows.hitMaySpec.vars false zeroArgs.toList 8=some ([alA,.lit (.int .i64 0),.lit (.int .i64 0)],[],places):=
 ⟨[],by kernel_rfl⟩
theorem agw (os:Os) (started:os.Started) (H:Type) (enc:TypeId×Value→H) (F:Stop.Interp):
  ReturnsInHanded {} Tryz.checked os 4 .any ((Rows.OpenSpec.upto Rows.hitMaySpec).preRow enc Tryz.prog Tryz.f4 Rows.hitMayUptoRow.domain false Rows.hitMayUptoRow.laid) (((Rows.OpenSpec.upto Rows.hitMaySpec).at F).post enc Tryz.prog Tryz.f4 false true false false):=by
 obtain ⟨places,hx⟩:=aim os enc
 refine returnsInHanded_of_row (C:=Tryz.checked) (s:=Rows.OpenSpec.upto Rows.hitMaySpec) own started (by kernel_rfl) Tryz.func4
  (witness_row_at (enc:=enc) (C:=Tryz.checked) false (Fb os) zeroArgs rfl (by kernel_rfl) (by kernel_rfl) (by kernel_rfl)
   (OpenSpec.preRow_of_cond 8 hx (by kernel_rfl) (fun k hk=>by cases hk;kernel_rfl) (by kernel_rfl) (af_ os))) ?_
 intro W base args ds gs before hval hW _ hcond _ hL _ _
 exact agc H enc W base args ds gs before hval hW hL (of_decide_eq_true (hcond _ rfl))
theorem aj3:Rows.HitMayUptoSaid:=
 OpenClaim.holds_of_cond 4 Tryz.f4 rfl rfl rfl rfl rfl rfl rfl ⟨rfl,rfl,rfl,rfl,rfl⟩ rfl rfl rfl rfl rfl (by as_aux_lemma=>kernel_rfl) Tryz.func4 adt
  (of_decide_eq_true (by as_aux_lemma=>kernel_rfl)) (by unfold Func.isWrapper;first|(rw [if_pos (by decide+kernel)];kernel_rfl)|(rw [if_neg (by decide+kernel)];exact ⟨rfl,rfl⟩))
  (fun os started H enc _ F=>by rw [OpenClaim.pre_eq_preRow];exact agw os started H enc F)
theorem plain (f:FuncId) (fn:Func) (hf:Tryz.pinned.checked.prog.funcNamed "hypercube/hypercubelaw17.HitMay" =some f) (hfn:Tryz.pinned.checked.prog.funcs[f]? =some fn):
  true=Tryz.pinned.checked.prog.looks []∧ ∀ (j:Nat) t,fn.params[j]? =some t→Tryz.pinned.checked.prog.wantsStandIn t=false:=by
 obtain rfl:f=4:=Option.some.inj ((show Tryz.prog.funcNamed "hypercube/hypercubelaw17.HitMay" =some 4 by kernel_rfl).symm.trans hf)|>.symm
 obtain rfl:fn=Tryz.f4:=(Option.some.inj (Tryz.func4.symm.trans hfn)).symm
 refine ⟨by kernel_rfl,fun j t ht=> ?_⟩
 rw [Tryz.params4] at ht
 have ht':t=26∨t=3∨t=3:=by simpa using Array.mem_of_getElem? ht
 rcases ht' with rfl|rfl|rfl
 ·exact (show Tryz.prog.wantsStandIn 26=false by kernel_rfl)
 ·exact (show Tryz.prog.wantsStandIn 3=false by kernel_rfl)
 ·exact (show Tryz.prog.wantsStandIn 3=false by kernel_rfl)
theorem hitMay_holds:Rows.HitMayUptoCardSaid:=
 Claim7.holds_tied_plain_at .later [] _ _ _ _ aj3 (fun _ h=>by cases h) (by as_aux_lemma=>kernel_rfl) (fun _ h=>by cases h) hitMayUpto_row_tie rfl ⟨rfl,rfl⟩ (by as_aux_lemma=>kernel_rfl) rfl plain (by as_aux_lemma=>kernel_rfl)
#print axioms hitMay_holds
end Go.Proofs.YtfkkpkhfjpaafaaGreatDoor
