/- Part 5 of a proof; sources: wip/. -/
import Derived.Test.YtfffkmcpnggkdaaGreatDoorX4
import Derived.KernelRfl
open Bool renaming and_eq_true→pX,not_false→sQ,not_true→uX
open ByteArray renaming empty→oW
open Eq renaming trans→o0
open Go.IntKind renaming wrap→oa
open Int renaming toNat→zm,toNat_natCast→EJ
open List renaming all_eq_true→xm,append_nil→xG,getElem?_eq_getElem→zk,length_append→H4,length_cons→ue,length_eq_zero_iff→Iy,map_cons→Fy,mem_append→xO,mem_cons→xB,mem_map→wD,nil_append→zg
open Nat renaming le_refl→xq,le_trans→bu,mul_le_mul_right→HV,zero_add→Ej
open Option renaming bind→nW,bind_some→p9
set_option linter.unusedVariables false
set_option linter.unusedSimpArgs false
namespace Go.Proofs.YtfffkmcpnggkdaaGreatDoor
set_option maxRecDepth 100000
open Go PI
section
variable {S:Type} {k:Nat}
def gK:LB->Except Int (LB)
 |[]=> .ok []
 |b::r=>bE (eW (tb b.f 0 1)) fun f=>bE (di [⟨3,0⟩] (AK b)) fun u=>bE (gK r) fun l=> .ok (.mk f [u]::l)
def FB (t a:Tm) (sys:LB):Except Int Tm:=bE (J6 0 1 t) fun t'=>bE (J6 0 1 a) fun a'=>bE (gK sys) fun l=>bE (J6 0 2 a) fun a2=> .ok (.mk 15 0 oW [] [t',a'] (l++[.mk [⟨0,1⟩] [a2]]))
theorem acQ: ∀ {r:LB} {e:Int},gK r= .error e->0<e/\e<=1000:=by
 intro r
 induction r with
 |nil=>intro e h;cases h
 |cons b r q=>
  intro e h
  rcases be h with h|⟨_,_,h⟩<;>grind [be,T2,q_,li]
theorem uw {t a:Tm} {sys:LB} {e:Int} (h:FB t a sys= .error e):0<e/\e<=1000:=by
 rcases be h with h|⟨_,_,h⟩
 ·exact xJ h
 rcases be h with h|⟨_,_,h⟩
 ·exact xJ h
 rcases be h with h|⟨_,_,h⟩
 ·exact acQ h
 rcases be h with h|⟨_,_,h⟩
 ·exact xJ h
 simp_all
theorem acR: ∀ {r l:LB},(∀b∈r,b.c=[AK b]/\Fm (AK b)/\aq b.f/\b.f.length<1073741824)->gK r= .ok l->ba l/\aO l<=201/\aI l<=r.length*20001/\l.length=r.length:=by
 intro r
 induction r with
 |nil=>
  intro l _ h
  injection h with h;grind [ba,aO,aI]
 |cons b r x=>
  intro l q h
  obtain ⟨f,z,h⟩:=i8 h
  obtain ⟨u,h1,h⟩:=i8 h
  obtain ⟨B,h2,h⟩:=i8 h
  injection h with h;subst h
  obtain ⟨E,A,F,I⟩:=q b (by simp)
  obtain ⟨i1,i2,i3,i4⟩:=x (fun b hb=>q b (by simp [hb])) h2
  obtain ⟨a1,a2,a3,a4⟩:=Jo A h1
  obtain ⟨g1,rfl⟩:=rR z
  have hf:=kQ g1
  have:=hf.len
  refine ⟨?_, ?_, ?_,by simp [i4]⟩
  ·rw [ba,Fa,aZ,aZ]
   exact ⟨⟨⟨hf.2,by omega,by simp⟩,a1,trivial⟩,i1⟩
  all_goals grind [aO,Ey,aH,aI,Fs,ay]
theorem NQ {l l':LB} (h:ba l) (h':ba l'):ba (l++l'):=by
 grind [NR]
theorem zF (l l':LB):aO (l++l')=max (aO l) (aO l'):=by
 induction l<;>grind [aO]
theorem R1 (l l':LB):aI (l++l')=aI l+aI l':=by
 induction l<;>grind [aI]
theorem agY:aq [⟨0,1⟩]:=fun c hc=>by grind [ag0]
theorem ux (hk:F3 k) {t a:Tm} {sys:LB} (q:Fm t) (ha:Fm a) (hs:SyF sys) {x:Tm} (h:FB t a sys= .ok x):In k x/\0<=x.k:=by
 obtain ⟨t',h1,h⟩:=i8 h
 obtain ⟨a',h2,h⟩:=i8 h
 obtain ⟨l,z,h⟩:=i8 h
 obtain ⟨a2,A,h⟩:=i8 h
 injection h with h;subst h
 have f1:=mD (by omega) q h1
 have f2:=mD (by omega) ha h2
 have f4:=mD (by omega) ha A
 obtain ⟨i1,i2,i3,i4⟩:=acR hs.bV z
 have:=hs.len;have:=f1.dep;have:=f2.dep;have:=f4.dep;have:=f1.dP;have:=f2.dP;have:=f4.dP
 have B:sys.length*20001<=20000*20001:=HV _ hs.len
 refine ⟨⟨?_,hk.fd ?_, ?_⟩,(by decide:(0:Int)<=15)⟩
 ·rw [pf,aZ,aZ,aZ]
  refine ⟨⟨by unfold aG;omega,by unfold aG;omega,by simp,fun c hc=>(by cases hc),by simp,by simp,by grind⟩,⟨f1.ok,f2.ok,trivial⟩,NQ i1 ?_⟩
  rw [ba,ba,Fa,aZ,aZ]
  exact ⟨⟨⟨agY,by simp,by simp⟩,f4.ok,trivial⟩,trivial⟩
 all_goals grind [am,aH,zF,aO,Ey,au,ay,R1,aI,Fs]
theorem uI (hk:F3 k) (I:Tm×Int->OS S) {a:Tm} {q:Int×Int×BA×LT} {sys:LB} {c:Int} (hc:c≠0) (z:sys.length<1073741824):
  ∀ (r p acc:LB) (m:Nat),sys=p++r->0<m->acc.length<1073741824->gM k I a q sys m c acc (p.length:Int)=I (oe,c):=by
 intro r p acc m h A ha
 obtain ⟨m,rfl⟩: ∃j,m=j+1:=⟨m-1,by omega⟩
 have B: ∀ (b:Br Tm) (f:Unit->OS S),nW (aw 1099511627776 acc.length [b].length) f=f ():=fun b f=>J5 (by grind) f
 cases r with
 |nil=>grind [gM,oQ,n3,ar,ag,Hh,rG]
 |cons x r=>
  obtain ⟨E,F,J,L⟩:=qF h (by omega)
  grind [gM,oQ,ae,de,ar,ag,Hh,rG]
theorem aeQ (hk:F3 k) (I:Tm×Int->OS S) {a:Tm} (ha:Fm a) {q:Int×Int×BA×LT} {sys:LB} (A:sys.length<1073741824) (hs: ∀b∈sys,b.c=[AK b]/\Fm (AK b)/\aq b.f/\b.f.length<1073741824):
  ∀ (r p acc:LB) (m:Nat),sys=p++r->r.length<m->acc.length+r.length<1073741823->
   gM k I a q sys m 0 acc (p.length:Int)=eE (bE (gK r) fun l=>bE (J6 0 2 a) fun a2=> .ok (l++[.mk [⟨0,1⟩] [a2]])) (fun l=>eQ k (.mk q.1 q.2.1 q.2.2.1 [] q.2.2.2 (acc++l)) 0 fun z=>I (z.1,z.2.1)) fun e=>I (oe,e):=by
 intro r
 induction r with
 |nil=>
  intro p acc m h F B
  obtain ⟨m,rfl,E⟩:=pw F
  have J: ∀ (b:Br Tm) (f:Unit->OS S),nW (aw 1099511627776 acc.length [b].length) f=f ():=fun b f=>J5 (by grind) f
  have L: ∀g:Tm×Int->OS S,Bx k a 0 2 0 g=g (tE (J6 0 2 a)):=fun g=>RW hk ha (by omega) (by omega) g
  simp only [gM,oQ,xu h,n3,ag hk.fu,ar,L,J,gK,aD]
  cases hu:J6 0 2 a with
  |error e=>
   have he:=xJ hu
   show eQ k _ e _=I (oe,e)
   grind [rG]
  |ok a2=>rfl
 |cons x r T=>
  intro p acc m h F B
  obtain ⟨m,rfl,E⟩:=pw F
  obtain ⟨W,Y,M,O⟩:=qF h (by omega)
  obtain ⟨x1,x2,x3,x4⟩:=hs x (by grind)
  have hg:af x.c 0=some (AK x):=by rw [x1];rfl
  have J: ∀ (b:Br Tm) (f:Unit->OS S),nW (aw 1099511627776 acc.length [b].length) f=f ():=fun b f=>J5 (by grind) f
  have pA: ∀g:LC×Int->OS S,tA k x.f 0 g=g (tb x.f 0 1):=fun g=>ajX hk x3 x4 g
  simp only [gM,oQ,W,ae,Y,p9,ag hk.fu,de,bG,show decide ((0:Int)=0)=true from rfl,uX,n3,ar,pA,hg,J]
  rw [gK,AS,AS]
  by_cases h1:(tb x.f 0 1).2=0
  ·rw [jF h1,aP,h1,Rd hk x2 QD,AS]
   cases h2:di [⟨3,0⟩] (AK x) with
   |error e=>
    have he:=li h2
    rw [M]
    exact uI hk I (show e≠0 by omega) A r (p++[x]) _ m O (by grind) (by grind)
   |ok u=>
    rw [aP,M]
    refine (T (p++[x]) (acc++[.mk (tb x.f 0 1).1 [u]]) m O E (by grind)).trans ?_
    rw [AS,AS]
    refine Dc (fun l _=> ?_) fun _ _=>rfl
    grind [AS,aP]
  ·rw [iO h1,K1 h1 hk,M]
   exact uI hk I h1 A r (p++[x]) _ m O (by grind) (by grind)
theorem aiO (hk:F3 k) {t a:Tm} {sys:LB} (L:In k t) (ha:In k a) (hs:In k (J4 sys)) (I:Tm×Int->OS S):yy k t a sys I=I (tE (c6 [t,a,J4 sys] (FB t a sys))):=by
 have F: ∀x∈[t,a,J4 sys],In k x:=fun x M=>by
  grind
 have q:xv [t,a,J4 sys]=0-> ∀x∈[t,a,J4 sys],Fm x:=fun h=>Sq (fun x M=>(F x M).1) h
 have A:sys.length<1073741824:=hs.1.node.2.2.2.2.2.2
 have hb: ∀g:Int->OS S,m9 k [t,a,.mk 15 0 oW [] [.mk 3 0 oW [] [] [],.mk 3 0 oW [] [] []] sys] g=g (xv [t,a,J4 sys]):=fun g=>Re hk F (by simp) g
 simp only [yy,Hr,ag hk.fu,ar,RY hk.fu,hb,wq,RV hk (fun h=>q h t (by simp)) (show (0:Int)<=0/\(0:Int)<=1000000 by omega) (show (0:Int)<=1/\(1:Int)<9223372036854775808 by omega),
  RV hk (fun h=>q (s5 h) a (by simp)) (show (0:Int)<=0/\(0:Int)<=1000000 by omega) (show (0:Int)<=1/\(1:Int)<9223372036854775808 by omega)]
 unfold c6
 have E:sys.length<k:=by omega
 by_cases B:xv [t,a,J4 sys]=0
 ·have fl:=q B t (by simp)
  have fa:=q B a (by simp)
  have sy:=iQ (q B (J4 sys) (by simp))
  have hlen:=sy.len
  rw [B,if_pos rfl,T9]
  have J:I (tE (FC (FB t a sys)))=eE (FB t a sys) (fun t=>eQ k t 0 fun z=>I (z.1,z.2.1)) fun e=>I (oe,e):=by
   unfold FC
   rw [Jl _ I,AS]
   refine Dc (fun t L=> ?_) fun _ _=>rfl
   rw [<-Jl _ I]
   exact ((Rk hk (t:=t) (c:=0) (fun _=>(ux hk fl fa sy L).1) I).trans rfl).symm
  rw [J]
  unfold FB
  rw [AS]
  cases h1:J6 0 1 t with
  |error e=>
   have he:=xJ h1
   show gM k I a _ sys k (mE e 0 1 a).2 [] 0=I (oe,e)
   rw [wz (show e≠0 by omega)]
   exact uI hk I (show e≠0 by omega) A sys [] [] k rfl (by omega) (by simp)
  |ok t'=>
   rw [aP,AS]
   show gM k I a (15,0,oW,[t',(mE 0 0 1 a).1]) sys k (mE 0 0 1 a).2 [] 0=_
   rw [T9]
   cases h2:J6 0 1 a with
   |error e=>
    have he:=xJ h2
    exact uI hk I (show e≠0 by omega) A sys [] [] k rfl (by omega) (by simp)
   |ok a'=>
    rw [aP]
    refine (aeQ hk I fa A sy.bV sys [] [] k rfl E (by grind)).trans ?_
    rw [AS,AS]
    refine Dc (fun l _=> ?_) fun _ _=>rfl
    rw [AS,AS]
    rfl
 ·rw [if_neg B,wz B]
  show gM k I a _ sys k (mE (xv [t,a,J4 sys]) 0 1 a).2 [] 0=_
  rw [wz B]
  exact uI hk I B A sys [] [] k rfl (by omega) (by simp)
def mM (c:Int) (x:Except Int Tm):Tm×Int:=if c=0 then tE x else (oe,c)
theorem kR (x:Except Int Tm):mM 0 x=tE x:=rfl
theorem n9 {c:Int} (h:c≠0) (x:Except Int Tm):mM c x=(oe,c):=if_neg h
theorem rJ (t:Tm) (e c:Int) (I:Tm×Int->OS S):HM k t e c I=I (if c=0 then (if e=0 then (t,0) else (oe,e)) else (oe,c)):=by
 simp only [HM,ar]
 by_cases hc:c=0
 ·subst hc
  rw [show ((0:Int)==0)=true from rfl,ae,if_pos rfl]
  by_cases he:e=0
  ·subst he;rfl
  ·rw [dj he,sQ,ae,if_neg he];rfl
 ·rw [dj hc,n3,if_neg hc,sQ,ae];rfl
theorem Lw (x:Except Int Tm) (q: ∀e,x= .error e->e≠0) (c:Int):(if c=0 then (if (tE x).2=0 then ((tE x).1,(0:Int)) else (oe,(tE x).2)) else (oe,c))=mM c x:=by
 unfold mM
 split
 ·cases x with
  |ok t=>rfl
  |error e=>rw [if_neg (show (tE (.error e)).2≠0 from q e rfl)];rfl
 ·rfl
theorem Az {f:(Tm×Int->OS S)->OS S} {x:Except Int Tm} (c:Int) (hf:c=0-> ∀g,f g=g (tE x)) (q: ∀e,x= .error e->e≠0) (I:Tm×Int->OS S):
  (ab (!(c==0)) (I (oe,c)) (f fun r=>I (if c=0 then (if r.2=0 then (r.1,0) else (oe,r.2)) else (oe,c))))=I (mM c x):=by
 by_cases hc:c=0
 ·subst hc
  rw [show (!((0:Int)==0))=false from rfl,n3,hf rfl,<-Lw x q 0]
 ·rw [dj hc,sQ,ae,n9 hc]
theorem FP {x:Except Int Tm} (h: ∀e,x= .error e->0<e/\e<=1000): ∀e,x= .error e->e≠0:=fun e he=>by have:=h e he;omega
theorem NA {a b:Int} {t:Tm}: ∀e,wA a b t= .error e->0<e/\e<=1000:=fun e h=>z7 (fun e h=>xJ h) h
theorem aak {a b:Int} {t:Tm}: ∀e,pH a b t= .error e->0<e/\e<=1000:=fun e h=>z7 (fun e h=>M0 t h) h
theorem iF {i:Int} {r:LC} {t:Tm}: ∀e,wv i r t= .error e->0<e/\e<=1000:=fun e h=>z7 (fun e h=>fP h) h
theorem SN (hk:F3 k) {t:Tm} {r:LC} {c:Int} (q:c=0->In k t) (x:RF r) (I:Tm×Int->OS S):JL k t r c I=I (mM c (wv 0 r t)):=by
 simp only [JL,ag hk.fu,dG,ar,rJ]
 exact Az c (fun h g=>ap8 hk (q h) (i:=0) (by decide) x g) (FP iF) I
theorem vZ (hk:F3 k) {t:Tm} {c:Int} (q:c=0->In k t) (I:Tm×Int->OS S):JI k t c I=I (mM c (wv 0 [⟨0,0⟩] t)):=by
 simp only [JI,ag hk.fu,Nu,ar,SN hk q Qz]
theorem v6 (hk:F3 k) {t:Tm} {b c:Int} (q:c=0->In k t) (hb:0<=b/\b<1000) (I:Tm×Int->OS S):JJ k t b c I=I (mM c (pH 1 b t)):=by
 simp only [JJ,ag hk.fu,dG,ar,rJ]
 exact Az c (fun h g=>ek hk (q h) (f:=1) (b:=b) (by decide) (by omega) g) (FP aak) I
theorem E8 (hk:F3 k) {t:Tm} {a b c:Int} (q:c=0->In k t) (ha:0<=a/\a<1000) (hb:0<=b/\b<1000) (I:Tm×Int->OS S):zb k t a b c I=I (mM c (wA a b t)):=by
 simp only [zb,ag hk.fu,dG,ar,rJ]
 exact Az c (fun h g=>aiH hk (q h) (vb:=a) (db:=b) (by omega) (by omega) g) (FP NA) I
theorem v_ (hk:F3 k) {f:LC} {b c:Int} (hf:aq f) (hl:f.length<1073741824) (hb:0<=b/\b<1000) (I:LC×Int->OS S):JK k f b c I=I (if c=0 then tb f 0 b else ([],c)):=by
 simp only [JK,ag hk.fu,dG,ar,rJ]
 by_cases hc:c=0
 ·subst hc
  rw [show (!((0:Int)==0))=false from rfl,n3,vX hk.fu hf hl (by unfold aG;omega) (by unfold aG;omega),if_pos rfl,if_pos rfl]
  split
  ·rename_i h;rw [show tb f 0 b=((tb f 0 b).1,(tb f 0 b).2) from rfl,h]
  ·rfl
 ·rw [dj hc,sQ,ae,if_neg hc]
def dM (c:Int) (t:Tm):Tm×Int:=if c=0 then (if bw t=0 then (t,0) else (oe,bw t)) else (oe,c)
def FA (x:Except Int Tm):Tm×Bool×Int:=match x with
 | .ok t=>if bw t=0 then (t,true,0) else (oe,false,bw t)
 | .error e=>(oe,false,e)
theorem Ry (hk:F3 k) {t:Tm} {c:Int} (q:In k t) (I:Tm×Bool×Int×Int->OS S):ly k t c I=I ((dM c t).1,(dM c t).2==0,(dM c t).2,(dM c t).2):=by
 simp only [ly,ag hk.fu,dG,ar,rJ,zy q.1 q.2.1 q.dep]
 have:pf (dM c t).1/\Fd k (am (dM c t).1):=by
  unfold dM
  split
  ·split
   ·exact ⟨q.1,q.2.1⟩
   ·exact ⟨(gQ hk).1,(gQ hk).2.1⟩
  ·exact ⟨(gQ hk).1,(gQ hk).2.1⟩
 exact vU (dM c t).1 this.1 _ this.2
theorem s7 {t:Tm} (g:Tm×Bool×Int->OS S):g ((dM 0 t).1,(dM 0 t).2==0,(dM 0 t).2)=g (FA (.ok t)):=by
 unfold dM FA
 simp only [if_true]
 split
 ·rfl
 ·rename_i h;rw [dj h]
theorem JF {c:Int} (h:c≠0) {t:Tm} (g:Tm×Bool×Int->OS S):g ((dM c t).1,(dM c t).2==0,(dM c t).2)=g (FA (.error c)):=by
 unfold dM FA
 rw [if_neg h,dj h]
end
section
abbrev En:=Nat->Prop
def hp (c:Cl) (j:Nat):Prop:=c.pos.toNat.testBit j=true
def hn (c:Cl) (j:Nat):Prop:=c.neg.toNat.testBit j=true
theorem apD (a b:Cl) (j:Nat):hp (d9 a b) j↔hp a j\/hp b j:=by
 simp_all [hp,d9,ep]
theorem apA (a b:Cl) (j:Nat):hn (d9 a b) j↔hn a j\/hn b j:=by
 simp_all [hn,d9,ep]
theorem b1 {c:Cl} (h:RC c) {j:Nat} (hj:hp c j):j<24:=oZ (by have:=h.1;omega) hj
theorem aoL {c:Cl} (h:RC c) {j:Nat} (hj:hn c j):j<24:=oZ (by have:=h.2;omega) hj
theorem ao3 {s:Int} {n:Nat} (hn:n<24) (j:Nat):(IA s (n:Int)).toNat.testBit j=(s.toNat.testBit j&&decide (j<24)&& !decide (j=n)):=by
 unfold IA
 rw [if_pos (by omega),EJ,EJ,mm,Nat.testBit_and,g8,Nat.testBit_two_pow]
 grind
def wB (P:En) (n:Nat) (A:Prop):En:=fun j=>(j≠n/\P j)\/(j=n/\A)
theorem apE (n:Nat) (q:n<24) (j:Nat): ¬hp (nl n) j:=by
 unfold hp nl;simp
theorem apB (n:Nat) (q:n<24) (j:Nat):hn (nl n) j↔j=n:=by
 grind [hn,nl,aln]
theorem apF (n:Nat) (q:n<24) (j:Nat):hp (pl n) j↔j=n:=by
 grind [hp,pl,aln]
theorem apC (n:Nat) (q:n<24) (j:Nat): ¬hn (pl n) j:=by
 unfold hn pl;simp
def iy (n x:Nat):Nat:=if n<x then x-1 else x
theorem ma {s:Int} {n:Nat} (q:n<24) (h:0<=s/\s<16777216) (y:Nat):(pI s (n:Int)).toNat.testBit y=true↔ ∃x,s.toNat.testBit x=true/\x≠n/\iy n x=y:=by
 have hs:s.toNat<16777216:=by omega
 have hM:s.toNat&&&xA=s.toNat:=by
  apply Nat.eq_of_testBit_eq
  grind [g8,oZ]
 unfold pI
 rw [EJ]
 unfold j7
 rw [if_pos (by omega),EJ,hM,Nat.testBit_or,Dl,Nat.testBit_mul_two_pow,Nat.testBit_div_two_pow,Bool.or_eq_true,pX,pX,decide_eq_true_eq,decide_eq_true_eq]
 unfold iy
 grind
theorem aoF {s:Int} {n b:Nat} (h:0<=s/\s<16777216) (q:(Db s n b).2=0) (y:Nat):(Db s n b).1.toNat.testBit y=true↔ ∃x,s.toNat.testBit x=true/\eU n b x=y:=by
 have hs:s.toNat<16777216:=by omega
 unfold Db at q ⊢
 rw [if_neg (by omega)] at q ⊢
 simp only [EJ] at q ⊢
 rw [Fg] at q ⊢
 split at q<;>grind [eU,oY,oG,sP,oZ]
theorem apV {c:Cl} {n b:Nat} (q:(dw c n b).2=0):(Db c.pos n b).2=0/\(Db c.neg n b).2=0/\(dw c n b).1=⟨(Db c.pos n b).1,(Db c.neg n b).1⟩:=by
 grind [dw]
theorem apw {n b:Nat}: ∀ {l h:LC},(xK (dK n b) h l).2=0->(xK (dK n b) h l).1=h++l.map (fun c=>(dw c n b).1)/\ ∀c∈l,(dw c n b).2=0:=by
 intro l
 induction l<;>grind [xK,dK]
def RX (fa:Bool) (f:LC):Prop:=RF f/\(fa=true-> ∀c∈f,bS c=false)
def j1 (fa:Bool) (f:LC) (i:Int) (r:LC):LC×Int:=if fa then iG f i r else iH f i r
theorem ap2 {fa:Bool} {f r:LC} {i:Int} (hf:aq f) (q:aq r) (h:(j1 fa f i r).2=0):RX fa (j1 fa f i r).1:=by
 unfold j1 at h ⊢
 cases fa
 ·exact ⟨ahR q h,fun h=>by cases h⟩
 ·have:=ahO hf q h
  exact ⟨this.1,fun _=>this.2⟩
def kk (f:LC) (n:Nat):Prop:= ∀c∈f,¬hp c n/\ ¬hn c n
def same (n:Nat) (P P':En):Prop:= ∀j,j≠n->(P j↔P' j)
theorem same.symm {n:Nat} {P P':En} (h:same n P P'):same n P' P:=fun j hj=>(h j hj).symm
def ins (P:En) (n:Nat):En:=fun x=>x≠n/\P (iy n x)
theorem aqs {f:LC} {n:Nat}:jJ f n=true↔ ¬kk f n:=by
 grind [jJ,kk,hp,hn]
theorem DR {f:LC} {n:Nat}:bP (ie f) (n:Int)=true↔n<24/\ ¬kk f n:=by
 grind [bP,ie,EJ,D7,aqs]
theorem nT {f:LC} (hf:RF f) {i:Int} (x:24<=i):ub i f=f:=by
 have: ∀c∈f,jU i c=c:=fun c hc=>by
  obtain ⟨p,q⟩:=c
  obtain ⟨h1,h2⟩:=hf.rc hc
  grind [jU,pI,j7,ZC]
 unfold ub
 rw [show f.map (jU i)=f from (List.map_congr_left this).trans (List.map_id f),hf.1]
theorem apR {l:LC}:(bp l).1.length<=l.length:=by
 grind [bp,agM]
theorem apS {f:LC} {i b:Int}:(tb f i b).1.length<=f.length:=by
 unfold tb
 split
 ·split
  ·refine bu apR ?_
   have:=(KH (i:=i) (b:=b) (r:=f) (h:=[]) (fun c hc=>by cases hc)).2
   grind
  ·simp
 ·simp
abbrev Zp:=Bool->Int->LC->LC->Prop
abbrev Zo:=Int->LC->LC->Prop
mutual
def mY (pl:Bool):Tm->Prop
 | .mk kd n nm r q sys=>RX (decide (kd=14)) r/\mX pl q/\si pl sys
def mX (pl:Bool):LT->Prop
 |[]=>True
 |t::l=>mY pl t/\mX pl l
def si (pl:Bool):LB->Prop
 |[]=>True
 |b::l=>Ji pl b/\si pl l
def Ji (pl:Bool):Br Tm->Prop
 | .mk f q=>(RX true f/\(pl=true->f≠[]))/\mX pl q
end
section
variable {pl:Bool} {c vb db kd:Int} {fo fa:dC} {Ro Ro':Zp} {Rb Rb':Zo}
end
theorem aoh {d:Int} (h:0<=d): ∃n:Nat,d=n:=⟨d.toNat,by omega⟩
theorem apv {r:LC} {fa:Bool} {d:Int} {f:LC} (h:eB 0 r fa d []= .ok f):f=[]:=by
 grind [acV]
variable {S:Type} {k:Nat}
def FQ (sys:LB):Bool:=sys.any fun b=>(b.f.length:Int)==0
mutual
def oq:Tm->Bool
 | .mk _ _ _ _ q sys=> !FQ sys&&(Sr q&&AF sys)
def Sr:LT->Bool
 |[]=>true
 |t::l=>oq t&&Sr l
def AF:LB->Bool
 |[]=>true
 |b::l=>NZ b&&AF l
def NZ:Br Tm->Bool
 | .mk _ q=>Sr q
end
theorem Q1 {f:LC} (hf:aq f) (h:cV f=true):RX true f:=by
 have:=(oB hf).1 h
 exact ⟨this.1,fun _=>this.2⟩
theorem FY {vars nP kd n nm r ks sys} (x:pf (.mk kd n nm r ks sys)) (h:cL vars nP (.mk kd n nm r ks sys)=true):RX (decide (kd=14)) r/\ ∀b∈sys,RX true b.f:=by
 obtain ⟨B,E,F,A,I,J,L⟩:=x.node
 unfold cL at h
 simp only [pX,decide_eq_true_eq] at h
 obtain ⟨⟨a1,a2,a3,a4⟩,a5⟩:=h
 have z:r.length=0->RX (decide (kd=14)) r:=fun h=>by
  have:=Iy.1 h;subst this;exact ⟨rA,fun _ c hc=>by cases hc⟩
 have q:xU kd=0-> ∀b∈sys,RX true b.f:=fun h=>by
  grind
 split at a5
 ·rename_i c
  simp only [pX,decide_eq_true_eq] at a5
  exact ⟨z a5.1,q (by subst c;decide)⟩
 split at a5
 ·rename_i c
  simp only [pX,decide_eq_true_eq] at a5
  exact ⟨z a5.1,q (by subst c;decide)⟩
 split at a5
 ·rename_i c
  rw [pX] at a5
  exact ⟨⟨(L8 A).1 a5.1,fun h=>by grind⟩,q (by rcases c with rfl|rfl|rfl<;>decide)⟩
 split at a5
 ·rename_i c
  rw [pX] at a5
  subst c
  exact ⟨Q1 A a5.1,q (by decide)⟩
 ·simp only [pX,decide_eq_true_eq] at a5
  refine ⟨z a5.2,fun b hb=> ?_⟩
  have:=xm.1 a5.1 b hb
  unfold bX at this
  simp only [pX] at this
  exact Q1 (x.br hb).1.1 this.2.1
theorem Zz {bd pl:Bool} (t:Tm): ∀ {vars nP:Int},pf t->rf bd vars nP t=true->(pl=true->oq t=true)->mY pl t:=by
 induction t using gq with
 |h kd n nm r O sys I J=>
  intro vars nP z h hp
  rw [rf,pX,pX,pX] at h
  obtain ⟨_,a,b,c⟩:=h
  obtain ⟨T,hb⟩:=FY z a
  have q:=z
  rw [pf] at q
  obtain ⟨_,ok,os⟩:=q
  rw [oq] at hp
  simp only [pX,Bool.not_eq_true'] at hp
  have hk: ∀ {l:LT} {i:Nat},(∀x∈l,∀ {vars nP:Int},pf x->rf bd vars nP x=true->(pl=true->oq x=true)->mY pl x)->aZ l->bO bd vars nP kd i l=true->(pl=true->Sr l=true)->mX pl l:=by
   intro l
   induction l<;>grind [bO,mX,Sr,aZ]
  have L: ∀ {l:LT},(∀x∈l,∀ {vars nP:Int},pf x->rf bd vars nP x=true->(pl=true->oq x=true)->mY pl x)->aZ l->ca bd vars nP kd l=true->(pl=true->Sr l=true)->mX pl l:=by
   intro l
   induction l<;>grind [ca,mX,Sr,aZ]
  have hs: ∀ {l:LB},(∀b∈l,∀x∈b.c,∀ {vars nP:Int},pf x->rf bd vars nP x=true->(pl=true->oq x=true)->mY pl x)->ba l->(∀b∈l,RX true b.f)->ck bd vars nP kd l=true->(pl=true->FQ l=false/\AF l=true)->si pl l:=by
   intro l
   induction l with
   |nil=>grind [si]
   |cons b l M=>
    intro h1 h2 F E B
    obtain ⟨f,A⟩:=b
    rw [ba] at h2
    rw [Fa] at h2
    rw [ck,jT,pX] at E
    rw [FQ,List.any_cons,Bool.or_eq_false_iff,AF,NZ,pX] at B
    rw [si,Ji]
    refine ⟨⟨⟨F ⟨f,A⟩ (by simp),fun e he=> ?_⟩,L (h1 ⟨f,A⟩ (by simp)) h2.1.2 E.1 fun e=>(B e).2.1⟩,M (fun b hb=>h1 b (by simp [hb])) h2.2 (fun b hb=>F b (by simp [hb])) E.2 fun e=>⟨(B e).1.2,(B e).2.2⟩⟩
    grind
  grind [mY]
theorem Fm.pl {t:Tm} {pl:Bool} (h:Fm t) (hp:pl=true->oq t=true):mY pl t:=by
 have:=h.2
 unfold bw at this
 split at this
 ·simp_all
 split at this
 ·simp_all
 split at this
 ·rename_i q;exact Zz t h.1 q hp
 omega
theorem Zx {kd d:Int}: ∀ {l:LT} {i:Nat} {x:Tm},24<=d->bO false (-1) d kd i l=true->x∈l->rf false (-1) 24 x=true:=by
 intro l
 induction l with
 |nil=>intro i x _ _ h;cases h
 |cons t l q=>
  intro i x hd h hx
  rw [bO,pX] at h
  rcases xB.1 hx with rfl|hx
  ·have:=h.1
   rw [B2,at8 x (by have:=gr kd i;omega) (Int.le_refl 24)] at this;exact this
  ·exact q hd h.2 hx
theorem Fm.bV {t x:Tm} (h:Fm t) (q:x∈t.c):Fm x:=by
 obtain ⟨h1,h2,z⟩:=Ie h.2
 have hd:=bY q
 have hs:au x<=au t:=by have:=Hl t;have:=k_ q;omega
 refine ⟨h.1.ki q,pS (by omega) (by omega) ?_⟩
 obtain ⟨kd,n,nm,r,A,sys⟩:=t
 rw [rf] at z
 simp only [Bool.false_and,sQ,Bool.true_and,pX] at z
 exact Zx (Int.le_refl 24) z.2.1 q
theorem Fm.brk {t x:Tm} {b:Br Tm} (h:Fm t) (hb:b∈t.s) (q:x∈b.c):Fm x:=by
 obtain ⟨h1,h2,z⟩:=Ie h.2
 have hd:=b8 hb q
 have hs:au x<=au t:=by have:=Hl t;have:=we hb;have:=k_ q;omega
 refine ⟨(h.1.bi hb).2 x q,pS (by omega) (by omega) ?_⟩
 obtain ⟨kd,n,nm,r,A,sys⟩:=t
 rw [rf] at z
 simp only [Bool.false_and,sQ,Bool.true_and,pX] at z
 have:=z.2.2
 rw [wH,xm] at this
 have:=xm.1 (this b hb) x q
 rw [at8 x (by have:=KZ kd;omega) (Int.le_refl 24)] at this;exact this
theorem Fm.own {t:Tm} (h:Fm t):cL (-1) 24 t=true:=by
 have q:=(Ie h.2).2.2
 cases t
 rw [rf] at q
 simp only [Bool.false_and,sQ,Bool.true_and,pX] at q
 exact q.1
theorem Fm.nk {t:Tm} (h:Fm t):ct t.k=t.c.length:=by
 have:=h.own
 cases t
 unfold cL at this
 simp only [pX,decide_eq_true_eq] at this
 exact this.1.1
theorem Fm.n0 {t:Tm} (h:Fm t) (hk:t.k≠1):t.n=0:=by
 have:=h.own
 cases t
 unfold cL at this
 simp only [pX,decide_eq_true_eq] at this
 exact this.1.2.1.resolve_left hk
theorem ZI {b:BA} (h:b.size=0):b=oW:=by
 obtain ⟨⟨l⟩⟩:=b
 cases l with
 |nil=>rfl
 |cons c l=>cases h
theorem Fm.nm0 {t:Tm} (h:Fm t) (hk:t.k≠2):t.name=oW:=by
 have:=h.own
 cases t
 unfold cL at this
 simp only [pX,decide_eq_true_eq] at this
 exact ZI (this.1.2.2.1.resolve_left hk)
theorem Fm.kd0 {t:Tm} (h:Fm t):0<=t.k:=h.rows.no.2.2
theorem Fm.r14 {t:Tm} (h:Fm t) (hk:t.k=14):RX true t.r:=by
 have:=FY (kd:=t.k) (n:=t.n) (nm:=t.name) (r:=t.r) (ks:=t.c) (sys:=t.s) (by cases t;exact h.1) (by have:=h.own;cases t;exact this)
 have h1:=this.1
 rw [hk] at h1;exact h1
theorem Fm.f {t:Tm} {b:Br Tm} (h:Fm t) (hb:b∈t.s):RX true b.f:=by
 have:=FY (kd:=t.k) (n:=t.n) (nm:=t.name) (r:=t.r) (ks:=t.c) (sys:=t.s) (by cases t;exact h.1) (by have:=h.own;cases t;exact this)
 exact this.2 b hb
theorem ED {α:Type} {l:List α} {n:Nat} {i:Int} (q:i=n) {x:α} (h:l[n]? =some x):af l i=some x:=by subst q;rw [pU];exact h
end
section
def atR (t:Tm) (i:Nat) (u:Tm):Tm:= .mk t.k t.n t.name t.r (t.c.set i u) t.s
def xF (t:Tm) (i:Nat):Tm:=t.c.getD i oe
section
variable (st:Tm->Tm×Bool×Int) (pl:Tm->List Nat) (eF:Int)
mutual
noncomputable def cz:Nat->Nat->Tm->Except Int (Tm×Nat)
 |0,_,_=> .error 0
 |n+1,f,t=>
  if (st t).2.2≠0/\f≠0 then .error (st t).2.2
  else if (st t).2.1=false/\(st t).2.2=0 then eT n f t (pl t)
  else if f=0 then .error eF else cz n (f-1) (st t).1
termination_by n=>(n,0)
noncomputable def eT:Nat->Nat->Tm->List Nat->Except Int (Tm×Nat)
 |_,f,t,[]=> .ok (t,f)
 |n,f,t,i::l=>match cz n f (xF t i) with
  | .error e=> .error e
  | .ok (k,q)=>if @decide (k=xF t i) (Classical.propDecidable _) then eT n q t l else cz n q (atR t i k)
termination_by n _ _ l=>(n,l.length+1)
end
end
variable {st:Tm->Tm×Bool×Int} {pl:Tm->List Nat} {eF:Int}
theorem aF6 (x:eF≠0) (j:Nat): ∀ (n:Nat),(∀f t,(∀a l,cz st pl eF n f t= .ok (a,l)->cz st pl eF n (f+j) t= .ok (a,l+j))/\ ∀e,cz st pl eF n f t= .error e->e≠0->e≠eF->cz st pl eF n (f+j) t= .error e)/\
  ∀ (l:List Nat) f t,(∀a r,eT st pl eF n f t l= .ok (a,r)->eT st pl eF n (f+j) t l= .ok (a,r+j))/\ ∀e,eT st pl eF n f t l= .error e->e≠0->e≠eF->eT st pl eF n (f+j) t l= .error e:=by
 intro n
 induction n with
 |zero=>
  have hA: ∀f t,cz st pl eF 0 f t= .error 0:=fun f t=>by rw [cz]
  refine ⟨fun f t=>⟨fun a l h=>(by grind),fun e h h1 _=>by grind⟩, ?_⟩
  intro l
  cases l<;>grind [eT]
 |succ n q=>
  obtain ⟨z,A⟩:=q
  have hA: ∀f t,(∀a l,cz st pl eF (n+1) f t= .ok (a,l)->cz st pl eF (n+1) (f+j) t= .ok (a,l+j))/\ ∀e,cz st pl eF (n+1) f t= .error e->e≠0->e≠eF->cz st pl eF (n+1) (f+j) t= .error e:=by
   grind [cz]
  refine ⟨hA, ?_⟩
  intro l
  induction l<;>grind [eT]
def xz (st:Tm->Tm×Bool×Int) (pl:Tm->List Nat):Nat->Tm->Prop
 |0,_=>False
 |n+1,t=>(st t).2.1=false/\(st t).2.2=0/\ ∀i∈pl t,xz st pl n (xF t i)
theorem xz.mono {n m:Nat} (h:n<=m): ∀ {t:Tm},xz st pl n t->xz st pl m t:=by
 induction n generalizing m with
 |zero=>intro t h;exact h.elim
 |succ n x=>
  intro t q
  obtain ⟨m,rfl⟩: ∃j,m=j+1:=⟨m-1,by omega⟩
  exact ⟨q.1,q.2.1,fun i z=>x (by omega) (q.2.2 i z)⟩
theorem aGF: ∀ (n:Nat),(∀f t a r,cz st pl eF n f t= .ok (a,r)->xz st pl n a/\r<=f)/\
  ∀ (l:List Nat) f t a r,(st t).2.1=false->(st t).2.2=0->(∀i∈pl t,i∈l\/xz st pl n (xF t i))->eT st pl eF n f t l= .ok (a,r)->xz st pl (n+1) a/\r<=f:=by
 intro n
 induction n with
 |zero=>
  refine ⟨fun f t a r h=>(by rw [cz] at h;cases h), ?_⟩
  intro l
  cases l with
  |nil=>
   intro f t a r h1 h2 hl h
   rw [eT] at h;injection h with h;injection h with q q2;subst q;subst q2
   exact ⟨⟨h1,h2,fun i x=>(hl i x).elim (fun h=>(by cases h)) fun h=>h⟩,xq _⟩
  |cons i l=>grind [eT,cz]
 |succ n A=>
  obtain ⟨B,F⟩:=A
  have hA: ∀f t a r,cz st pl eF (n+1) f t= .ok (a,r)->xz st pl (n+1) a/\r<=f:=by
   intro f t a r h
   rw [cz] at h
   split at h
   ·cases h
   split at h
   ·grind
   split at h
   ·cases h
   ·obtain ⟨q,q2⟩:=B _ _ _ _ h
    exact ⟨q.mono (by omega),by omega⟩
  refine ⟨hA, ?_⟩
  intro l
  induction l with
  |nil=>
   intro f t a r h1 h2 hl h
   rw [eT] at h;injection h with h;injection h with q q2;subst q;subst q2
   exact ⟨⟨h1,h2,fun i x=>(hl i x).elim (fun h=>(by cases h)) fun h=>h⟩,xq _⟩
  |cons i l E=>
   intro f t a r h1 h2 hl h
   rw [eT] at h
   cases z:cz st pl eF (n+1) f (xF t i) with
   |error e=>grind
   |ok p=>
    obtain ⟨k,I⟩:=p
    rw [z] at h
    dsimp only at h
    obtain ⟨s1,s2⟩:=hA _ _ _ _ z
    split at h
    ·grind
    ·obtain ⟨r1,J⟩:=hA _ _ _ _ h
     exact ⟨r1.mono (by omega),by omega⟩
def Ic {α β:Type} (x:Except Int (α×Nat)) (F:α->Nat->Except Int (β×Nat)):Except Int (β×Nat):=match x with
 | .error e=> .error e
 | .ok p=>F p.1 p.2
theorem q9 {α β:Type} {a:α} {r:Nat} {F:α->Nat->Except Int (β×Nat)}:Ic (.ok (a,r)) F=F a r:=rfl
theorem RN {α β:Type} {x:Except Int (α×Nat)} {F:α->Nat->Except Int (β×Nat)} {p:β×Nat} (h:Ic x F= .ok p): ∃a r,x= .ok (a,r)/\F a r= .ok p:=by
 cases x with
 |error e=>cases h
 |ok q=>exact ⟨q.1,q.2,rfl,h⟩
theorem azM {α β:Type} {x:Except Int (α×Nat)} {F:α->Nat->Except Int (β×Nat)} {e:Int} (h:Ic x F= .error e):x= .error e\/ ∃a r,x= .ok (a,r)/\F a r= .error e:=by
 cases x with
 |error e'=>injection h with h;grind
 |ok q=>exact .inr ⟨q.1,q.2,rfl,h⟩
section
variable (hd:Nat->Tm->Except Int (Tm×Nat))
end
def xY {α:Type} (eF:Int) (j:Nat) (x y:Except Int (α×Nat)):Prop:=(∀a r,x= .ok (a,r)->y= .ok (a,r+j))/\ ∀e,x= .error e->e≠0->e≠eF->y= .error e
theorem xY.bind {α β:Type} {eF:Int} {j:Nat} {x y:Except Int (α×Nat)} {F G:α->Nat->Except Int (β×Nat)} (h:xY eF j x y) (z: ∀a r,xY eF j (F a r) (G a (r+j))):xY eF j (Ic x F) (Ic y G):=by
 cases x with
 |error e=>
  refine ⟨fun a r q=>(by cases q),fun e' q h1 h2=> ?_⟩
  injection q with q;subst q
  rw [h.2 e rfl h1 h2];rfl
 |ok p=>
  obtain ⟨a,r⟩:=p
  have:=h.1 a r rfl
  rw [this]
  exact z a r
theorem xY.ok {α:Type} {eF:Int} {j:Nat} (a:α) (r:Nat):xY eF j (.ok (a,r)) (.ok (a,r+j)):=
 ⟨fun a' q h=>by grind,fun e h=>(by cases h)⟩
variable {hd:Nat->Tm->Except Int (Tm×Nat)} {eF:Int}
inductive It where
 |ask (a b:Tm)
 |err (e:Int)
 |no
section
variable (hd:Nat->Tm->Except Int (Tm×Nat)) (qs:Tm->Tm->List It) (eF:Int)
mutual
noncomputable def zf:Nat->Nat->Tm->Tm->Except Int (Bool×Nat)
 |0,_,_,_=> .error 0
 |n+1,f,a,b=>if f=0 then .error eF else Ic (hd (f-1) a) fun x f1=>Ic (hd f1 b) fun y f2=>zj n f2 (qs x y)
termination_by n=>(n,0)
noncomputable def zj:Nat->Nat->List It->Except Int (Bool×Nat)
 |_,f,[]=> .ok (true,f)
 |n,f,i::l=>match i with
  | .err e=> .error e
  | .no=> .ok (false,f)
  | .ask a b=>Ic (zf n f a b) fun yes q=>if yes then zj n q l else .ok (false,q)
termination_by n _ l=>(n,l.length+1)
end
end
variable {hd:Nat->Tm->Except Int (Tm×Nat)} {qs:Tm->Tm->List It} {eF:Int}
theorem l4 {f:Nat} {a b:Tm}:zf hd qs eF 0 f a b= .error 0:=by rw [zf]
theorem Sa {n f:Nat} {a b:Tm}:zf hd qs eF (n+1) f a b=if f=0 then .error eF else Ic (hd (f-1) a) fun x f1=>Ic (hd f1 b) fun y f2=>zj hd qs eF n f2 (qs x y):=by rw [zf]
theorem SQ {n f:Nat}:zj hd qs eF n f []= .ok (true,f):=by rw [zj]
theorem SR {n f:Nat} {e:Int} {l:List It}:zj hd qs eF n f (.err e::l)= .error e:=by rw [zj]
theorem qt {n f:Nat} {l:List It}:zj hd qs eF n f (.no::l)= .ok (false,f):=by rw [zj]
theorem SO {n f:Nat} {a b:Tm} {l:List It}:zj hd qs eF n f (.ask a b::l)=Ic (zf hd qs eF n f a b) fun yes q=>if yes then zj hd qs eF n q l else .ok (false,q):=by rw [zj]
theorem aQS {α β:Type} {x z:Except Int (α×Nat)} {F F':α->Nat->Except Int (β×Nat)} (A:x≠ .error 0->z=x) (B: ∀a r,x= .ok (a,r)->F a r≠ .error 0->F' a r=F a r) (h:Ic x F≠ .error 0):Ic z F'=Ic x F:=by
 cases x with
 |error e=>rw [A (fun q=>h (by injection q with q;rw [q];rfl))];rfl
 |ok p=>rw [A (by simp)];exact B p.1 p.2 rfl h
theorem aS9: ∀n,(∀f a b,zf hd qs eF n f a b≠ .error 0->zf hd qs eF (n+1) f a b=zf hd qs eF n f a b)/\ ∀l f,zj hd qs eF n f l≠ .error 0->zj hd qs eF (n+1) f l=zj hd qs eF n f l:=by
 have mk: ∀n,(∀f a b,zf hd qs eF n f a b≠ .error 0->zf hd qs eF (n+1) f a b=zf hd qs eF n f a b)-> ∀l f,zj hd qs eF n f l≠ .error 0->zj hd qs eF (n+1) f l=zj hd qs eF n f l:=by
  intro n hA l
  induction l with
  |nil=>grind [SQ]
  |cons i l q=>
   intro f h
   cases i<;>grind [SR,qt,SO,aQS]
 intro n
 induction n<;>grind [l4,Sa,aQS]
theorem aQg {n m:Nat} (h:n<=m) {f:Nat} {a b:Tm} (x:zf hd qs eF n f a b≠ .error 0):zf hd qs eF m f a b=zf hd qs eF n f a b:=by
 induction m with
 |zero=>
  grind
 |succ m q=>
  by_cases e:n=m+1
  ·rw [e]
  ·have:=q (by omega)
   simp_all [aS9]
theorem aOs {j:Nat} (z: ∀f t,xY eF j (hd f t) (hd (f+j) t)): ∀n,(∀f a b,xY eF j (zf hd qs eF n f a b) (zf hd qs eF n (f+j) a b))/\ ∀l f,xY eF j (zj hd qs eF n f l) (zj hd qs eF n (f+j) l):=by
 have mk: ∀n,(∀f a b,xY eF j (zf hd qs eF n f a b) (zf hd qs eF n (f+j) a b))-> ∀l f,xY eF j (zj hd qs eF n f l) (zj hd qs eF n (f+j) l):=by
  intro n hA l
  induction l with
  |nil=>intro f;rw [SQ,SQ];exact .ok _ _
  |cons i l q=>
   intro f
   cases i with
   |err e=>rw [SR,SR];exact ⟨fun a r h=>(by cases h),fun e' h _ _=>h⟩
   |no=>rw [qt,qt];exact .ok _ _
   |ask a b=>
    rw [SO,SO]
    refine (hA f a b).bind fun y r=> ?_
    cases y with
    |true=>exact q r
    |false=>exact .ok _ _
 intro n
 induction n with
 |zero=>
  grind [xY,l4]
 |succ n q=>
  have hA: ∀f a b,xY eF j (zf hd qs eF (n+1) f a b) (zf hd qs eF (n+1) (f+j) a b):=fun f a b=>by
   rw [Sa,Sa]
   by_cases c:f=0
   ·rw [if_pos c]
    exact ⟨fun a r h=>(by cases h),fun e h _ he=>by grind⟩
   ·rw [if_neg c,if_neg (by omega),show f+j-1=f-1+j by omega]
    exact (z (f-1) a).bind fun x r=>(z r b).bind fun y s=>q.2 _ _
  grind
theorem aPc {n:Nat}: ∀ {l:List It} {f r:Nat},zj hd qs eF n f l= .ok (false,r)-> .no∈l\/ ∃a b,.ask a b∈l/\ ∃z A,zf hd qs eF n z a b= .ok (false,A):=by
 intro l
 induction l with
 |nil=>intro f r h;rw [SQ] at h;injection h with h;injection h with h _;cases h
 |cons x l B=>
  intro f r h
  cases x with
  |err e=>rw [SR] at h;cases h
  |no=>exact .inl (by simp)
  |ask a b=>
   rw [SO] at h
   obtain ⟨y,f1,h1,h⟩:=RN h
   cases y with
   |false=>exact .inr ⟨a,b,by simp,f,f1,h1⟩
   |true=>
    rw [if_pos rfl] at h
    rcases B h with q|⟨c,d,q,E⟩
    ·exact .inl (by simp [q])
    ·exact .inr ⟨c,d,by simp [q],E⟩
def aPY (hd:Nat->Tm->Except Int (Tm×Nat)) (qs:Tm->Tm->List It) (eF:Int) (a b:Tm) (v:Bool):Prop:= ∃n f r,zf hd qs eF n f a b= .ok (v,r)
section
variable (hM: ∀j f t,xY eF j (hd f t) (hd (f+j) t))
include hM
theorem aOF {f q:Nat} {t a a':Tm} {r x:Nat} (h:hd f t= .ok (a,r)) (h':hd q t= .ok (a',x)):a=a':=by
 have h1:=(hM q f t).1 a r h
 have h2:=(hM f q t).1 a' x h'
 grind
theorem aTn {a b:Tm} {v v':Bool} (h:aPY hd qs eF a b v) (h':aPY hd qs eF a b v'):v=v':=by
 obtain ⟨n,f,r,h⟩:=h
 obtain ⟨q,x,z,h'⟩:=h'
 have A:zf hd qs eF (max n q) f a b= .ok (v,r):=by grind [aQg]
 have B:zf hd qs eF (max n q) x a b= .ok (v',z):=by grind [aQg]
 have h1:=((aOs (hM x) (max n q)).1 f a b).1 v r A
 have h2:=((aOs (hM f) (max n q)).1 x a b).1 v' z B
 grind
theorem aNm (I: ∀x,∀i∈qs x x,(∃c,i= .ask c c)\/ ∃e,i= .err e): ∀n f a b r,(∀f z x y r A,hd f a= .ok (x,r)->hd z b= .ok (y,A)->x=y)->zf hd qs eF n f a b≠ .ok (false,r):=by
 intro n
 induction n with
 |zero=>grind [l4]
 |succ n J=>
  intro f a b r B h
  rw [Sa] at h
  split at h
  ·cases h
  obtain ⟨x,f1,h1,h⟩:=RN h
  obtain ⟨y,f2,h2,h⟩:=RN h
  obtain rfl:=B _ _ _ _ _ _ h1 h2
  rcases aPc h with q|⟨c,d,q,z,A,E⟩
  ·grind
  ·rcases I x _ q with ⟨F,q⟩|⟨e,q⟩
   ·injection q with L q2
    rw [L,q2] at E
    exact J z F F A (fun f z x y r A h h'=>aOF hM h h') E
   ·cases q
end

variable {S:Type} {k:Nat}
theorem Dw (n:Int) (b:Br Tm) (l:LB):Hk n (b::l)=dc n b.c+Hk n l:=by cases b;rfl
theorem tz (n:Int) (t:Tm):zh n t=(if t.k=1/\t.n=n then 1 else 0)+(cE n t.k 0 t.c+Hk n t.s):=by cases t;rfl
theorem Z7 {kd:Int}: ∀ {l:LT} {i:Nat} {n:Int},(∀x∈l,∀n,zh n x<=au x)->cE n kd i l<=ay l:=by
 intro l
 induction l<;>grind [cE,ay]
theorem Z8: ∀ {l:LT} {n:Int},(∀x∈l,∀n,zh n x<=au x)->dc n l<=ay l:=by
 intro l
 induction l<;>grind [dc,ay]
theorem Z9: ∀ {l:LB} {n:Int},(∀b∈l,∀x∈b.c,∀n,zh n x<=au x)->Hk n l<=aI l:=by
 intro l
 induction l<;>grind [Hk,aI,Dw,kZ,Z8]
theorem yr (t:Tm): ∀n,zh n t<=au t:=by
 induction t using c7<;>grind [tz,rM,Z7,Z9]
theorem Fm.no_sys {t:Tm} (h:Fm t) (hk:xU t.k=0):t.s=[]:=by
 have:=h.own
 cases t
 unfold cL at this
 simp only [pX,decide_eq_true_eq] at this
 exact Iy.1 (this.1.2.2.2 hk)
theorem Fm.leaf {t:Tm} (h:Fm t) (hk:t.k=1):t.c=[]/\t.s=[]:=by
 have hn:=h.nk
 rw [hk] at hn
 refine ⟨Iy.1 (by have:ct 1=0:=rfl;omega),h.no_sys (by rw [hk];rfl)⟩
section
variable {hd:Tm->Int->(Int->OS S)->OS S} {t:Tm} {n:Int}
theorem aet (hk:Fu k) (I:Int->OS S) (q:Int->Int->OS S) {v:Int} {x:Br Tm} (A: ∀y∈x.c,∀g,hd y n g=g ((zh n y:Nat):Int)) (hl:x.c.length<1073741824):
  ∀ (r p:LT) (m a:Nat),x.c=p++r->r.length<m->a+dc n r<4611686018427387904->nG hd k I q n t v x m (a:Int) (p.length:Int)=q (oa .i64 (v+1)) ((a+dc n r:Nat):Int):=by
 intro r
 induction r with
 |nil=>grind [pw,dc,nG,xh,n3]
 |cons y r B=>
  intro p m a h E ha
  obtain ⟨m,rfl,z⟩:=pw E
  obtain ⟨F,J,L,M⟩:=qF h (by omega)
  have O:=A y (by grind)
  have T:a+dc n (y::r)=(a+zh n y)+dc n r:=by rw [dc];omega
  rw [T] at ha ⊢
  have W:oa .i64 ((a:Int)+((zh n y:Nat):Int))=((a+zh n y:Nat):Int):=by grind [vc]
  simp only [nG,xh,F,ae,J,p9,ar,O,L,W,B (p++[y]) m (a+zh n y) M z ha]
theorem aes (hk:Fu k) (I:Int->OS S) (E: ∀b∈t.s,∀y∈b.c,∀g,hd y n g=g ((zh n y:Nat):Int)) (hl:t.s.length<1073741824) (q: ∀b∈t.s,b.c.length<1073741824):
  ∀ (r p:LB) (m a:Nat),t.s=p++r->r.length<m->a+Hk n r<4611686018427387904->ku hd k I n t m (p.length:Int) (a:Int)=I ((a+Hk n r:Nat):Int):=by
 intro r
 induction r with
 |nil=>grind [pw,Hk,ku,sE,n3]
 |cons x r F=>
  intro p m a h J ha
  obtain ⟨m,rfl,z⟩:=pw J
  obtain ⟨L,M,O,T⟩:=qF h (by omega)
  have B:x∈t.s:=by grind
  have A:=q x B
  have W:a+Hk n (x::r)=(a+dc n x.c)+Hk n r:=by rw [Dw];omega
  rw [W] at ha ⊢
  have:=aet (t:=t) (n:=n) (v:=(p.length:Int)) hk I (ku hd k I n t m) (E x B) A x.c [] k a rfl (by have:=hk;omega) (by omega)
  simp only [ku,sE,L,ae,M,p9]
  refine o0 this ?_
  rw [O,F (p++[x]) m (a+dc n x.c) T z ha]
theorem aer (hk:Fu k) (I:Int->OS S) (hn:0<=n/\n<=2199023255552) (J: ∀y∈t.c,∀x,0<=x/\x<=n+1-> ∀g,hd y x g=g ((zh x y:Nat):Int)) (z: ∀b∈t.s,∀y∈b.c,∀g,hd y n g=g ((zh n y:Nat):Int)) (F:pf t):
  ∀ (r p:LT) (m a:Nat),t.c=p++r->r.length<m->a+cE n t.k p.length r+Hk n t.s<4611686018427387904->nF hd k I t n m (p.length:Int) (a:Int)=I ((a+cE n t.k p.length r+Hk n t.s:Nat):Int):=by
 obtain ⟨o1,o2,o3,o4,o5,o6,L⟩:=F.no
 intro r
 induction r with
 |nil=>
  intro p m a h A ha
  obtain ⟨m,rfl,q⟩:=pw A
  have B:a+cE n t.k p.length []=a:=by rfl
  rw [B] at ha ⊢
  have:=aes hk I z L (fun b hb=>(F.bi hb).1.2.2) t.s [] k a rfl (by omega) ha
  grind [nF,sD,n3]
 |cons y r M=>
  intro p m a h A ha
  obtain ⟨m,rfl,q⟩:=pw A
  obtain ⟨O,T,W,Y⟩:=qF h (by omega)
  have hb:=g7 t.k p.length
  have E:oa .i64 (n+Am t.k p.length)=n+Am t.k p.length:=by grind [vc]
  have hy:=J y (by grind) (n+Am t.k p.length) (by omega)
  have B:a+cE n t.k p.length (y::r)=(a+zh (n+Am t.k p.length) y)+cE n t.k (p++[y]).length r:=by grind [cE]
  rw [B] at ha ⊢
  have hw:oa .i64 ((a:Int)+((zh (n+Am t.k p.length) y:Nat):Int))=((a+zh (n+Am t.k p.length) y:Nat):Int):=by grind [vc]
  simp only [nF,sD,O,ae,T,p9,ar,ag hk,jE,E,hy,W,hw,M (p++[y]) m (a+zh (n+Am t.k p.length) y) Y q ha]
end
theorem ai6 (t:Tm): ∀ {k:Nat} {n:Int} (I:Int->OS S),Fm t->Fd k (am t)->0<=n/\n+am t<=2199023255552->gz k t n I=I ((zh n t:Nat):Int):=by
 induction t using c7 with
 |h t z A=>
  intro k n I ft hk hn
  obtain ⟨q,rfl,E,hf⟩:=hk.pos' (HX t)
  have hp:=HX t
  have J:=ft.dP
  have hc:=yr t n
  by_cases hv:t.k=1/\t.n=n
  ·obtain ⟨L,M⟩:=ft.leaf hv.1
   grind [tz,cE,Hk,gz,BU,ae]
  have F:Ak (gz q) q I t n q=I ((zh n t:Nat):Int):=by
   obtain ⟨j,rfl⟩: ∃j,q=j+1:=⟨q-1,by omega⟩
   rw [tz,if_neg hv,Ej]
   rw [tz] at hc
   have:=aer (t:=t) (n:=n) E I (by omega) (fun y x O B g=>z y x g (ft.bV x) (hf _ (bY x)) ⟨B.1,by have:=bY x;omega⟩) (fun b hb y x g=>A b hb y x g (ft.brk hb x) (hf _ (b8 hb x)) ⟨hn.1,by have:=b8 hb x;omega⟩) ft.ok t.c [] (j+1) 0 rfl (by have:=ft.ok.no.2.2.2.2.2.1;omega) (by grind)
   grind [Ak,xg]
  simp only [gz,BU,F]
  by_cases h1:t.k=1<;>grind [ae,n3]
section
variable {hd:Tm->Int->(Int->OS S)->OS S} {t:Tm} {n:Int}
end
theorem N3 (n:Int) (u:Tm) (v d kd:Int) (b:Br Tm) (l:LB):I1 n u v d kd (b::l)=bE (bE (Ml n u v d kd b.c) fun q=> .ok (.mk b.f q)) fun x=>bE (I1 n u v d kd l) fun l'=> .ok (x::l'):=by cases b;rfl
theorem agP (t:Tm) (I:Int->OS S):ze k t I=I (av t.k):=by
 simp only [ze,av]
 by_cases h:t.k=15
 ·rw [h];rfl
 ·rw [beq_false_of_ne h,if_neg h];rfl
theorem Fm.r1 {t:Tm} (h:Fm t) (hk:t.k=1):t.r=[]:=by
 have:=h.own
 obtain ⟨kd,n,nm,r,q,sys⟩:=t
 have hk:kd=1:=hk
 subst hk
 unfold cL at this
 simp only [pX,decide_eq_true_eq,if_true] at this
 exact Iy.1 this.2.1
section
variable {hd:Tm->Int->Tm->Int->Int->(pr Int Tm->OS S)->OS S} {t u:Tm} {n v d:Int}
theorem afl (hk:Fu k) (I:pr Int Tm->OS S) (q:LB->Int->OS S) {ks:LT} {o:LB} {x:Br Tm} {i:Int} (A:0<=d/\d<4611686018427387904) (B: ∀y∈x.c,∀g:pr Int Tm->OS S,hd y n u v (d+av t.k) g=g (pE (HZ n u v (d+av t.k) y))) (hl:x.c.length<1073741824) (ho:o.length<1073741824):
  ∀ (r p acc:LT) (m:Nat),x.c=p++r->r.length<m->acc.length+r.length<1073741824->
   Sv hd k I q t ks o x u n v d i m acc (p.length:Int)=eE (Ml n u v d t.k r) (fun l=>q (o++[.mk x.f (acc++l)]) (oa .i64 (i+1))) fun e=>I (.bD e):=by
 have E:=KZ t.k
 have z:oa .i64 (d+av t.k)=d+av t.k:=by grind [vc]
 intro r
 induction r with
 |nil=>
  grind [pw,Sv,xj,n3,Ml,aP,J5]
 |cons y r T=>
  intro p acc m h F ha
  obtain ⟨m,rfl,J⟩:=pw F
  obtain ⟨L,M,O,W⟩:=qF h (by omega)
  rw [ue] at ha
  simp only [Sv,xj,L,ae,M,p9,ar,ag hk,agP,z,B y (by grind),O,Ml]
  grind [AS,ij,Dc,J5,aP]
theorem afk (hk:Fu k) (I:pr Int Tm->OS S) {ks:LT} (z:pf t) (q:0<=d/\d<4611686018427387904) (B: ∀b∈t.s,∀y∈b.c,∀g:pr Int Tm->OS S,hd y n u v (d+av t.k) g=g (pE (HZ n u v (d+av t.k) y))):
  ∀ (r p acc:LB) (m:Nat),t.s=p++r->r.length<m->acc.length+r.length<1073741824->
   kw hd k I t ks u n v d m acc (p.length:Int)=eE (I1 n u v d t.k r) (fun l=>I (.ok (.mk t.k 0 t.name t.r ks (acc++l)))) fun e=>I (.bD e):=by
 intro r
 induction r with
 |nil=>
  grind [pw,kw,fg,n3,I1,aP]
 |cons x r O=>
  intro p acc m h E ha
  obtain ⟨m,rfl,F⟩:=pw E
  have J:=z.no.2.2.2.2.2.2
  obtain ⟨L,M,T,W⟩:=qF h (by omega)
  have A:x∈t.s:=by grind
  obtain ⟨⟨f1,f2,f3⟩,_⟩:=z.bi A
  rw [ue] at ha
  simp only [kw,fg,L,ae,M,p9]
  rw [J5 (by omega)]
  refine (afl (o:=acc) (i:=(p.length:Int)) hk I (kw hd k I t ks u n v d m) q (B x A) f3 (by omega) x.c [] [] k rfl (by omega) (by grind)).trans ?_
  rw [N3,AS,AS]
  refine Dc (fun l _=> ?_) fun e _=>rfl
  grind [aP,AS]
theorem afj (hk:Fu k) (I:pr Int Tm->OS S) (B:pf t) (E:0<=v/\v<4611686018427387904) (x:0<=d/\d<4611686018427387904) (F: ∀y∈t.c,∀a b,0<=a/\a<=1->0<=b/\b<=1-> ∀g:pr Int Tm->OS S,hd y n u (v+a) (d+b) g=g (pE (HZ n u (v+a) (d+b) y)))
  (z: ∀b∈t.s,∀y∈b.c,∀g:pr Int Tm->OS S,hd y n u v (d+av t.k) g=g (pE (HZ n u v (d+av t.k) y))):
  ∀ (r p acc:LT) (m:Nat),t.c=p++r->r.length<m->acc.length+r.length<1073741824->
   qj hd k I t u n v d m acc (p.length:Int)=eE (dX n u v d t.k p.length r) (fun l=>eE (I1 n u v d t.k t.s) (fun l'=>I (.ok (.mk t.k 0 t.name t.r (acc++l) l'))) fun e=>I (.bD e)) fun e=>I (.bD e):=by
 obtain ⟨o1,o2,o3,o4,o5,o6,o7⟩:=B.no
 intro r
 induction r with
 |nil=>
  intro p acc m h A ha
  obtain ⟨m,rfl,q⟩:=pw A
  simp only [qj,qU,xu h,n3,dX,aP,xG]
  exact afk hk I B x z t.s [] [] k rfl (by omega) (by grind)
 |cons y r J=>
  intro p acc m h A ha
  obtain ⟨m,rfl,q⟩:=pw A
  obtain ⟨L,M,O,T⟩:=qF h (by omega)
  have bv:=g7 t.k p.length
  have bd:=gr t.k p.length
  have W:oa .i64 (v+Am t.k p.length)=v+Am t.k p.length:=by grind [vc]
  have wd:oa .i64 (d+bJ t.k p.length)=d+bJ t.k p.length:=by grind [vc]
  rw [ue] at ha
  simp only [qj,qU,L,ae,M,p9,ar,ag hk,jE,W,wd,F y (by grind) _ _ bv bd,O,dX]
  rw [AS,ij]
  refine Dc (fun Y _=> ?_) fun e _=>rfl
  rw [J5 (by grind),J (p++[y]) (acc++[Y]) m T q (by grind),AS,H4,List.length_singleton]
  grind [aP]
end
theorem ajw {u:Tm} {n:Int} (fu:Fm u) (hn:0<=n/\n<=1099511627776) (t:Tm): ∀ {k:Nat} {v d:Int} (I:pr Int Tm->OS S),Fm t->4294968296+am t<=k->0<=v/\v+am t<=1000->0<=d/\d+am t<=1000->gA k t n u v d I=I (pE (HZ n u v d t)):=by
 induction t using c7 with
 |h t F J=>
  intro k v d I ft hk hv hd
  have hp:=HX t
  obtain ⟨q,rfl⟩: ∃q,k=q+1:=⟨k-1,by omega⟩
  have W:F3 q:=by omega
  have z:=W.fu
  have wn:oa .i64 (n+v)=n+v:=by grind [vc]
  have A:HZ n u v d t=if t.k=1/\t.n=n+v then J6 v d u else bE (dX n u v d t.k 0 t.c) fun L=>bE (I1 n u v d t.k t.s) fun B=> .ok (.mk t.k (if t.k=1/\t.n>n+v then t.n-1 else t.n) t.name t.r L B):=by
   obtain ⟨kd,m,nm,r,ks,sys⟩:=t;rfl
  simp only [gA,H2,wn,ag z,ar]
  by_cases h1:t.k=1
  ·obtain ⟨Y,l2⟩:=ft.leaf h1
   have M:(t.k==1)=true:=by grind
   rw [M,ae,A]
   by_cases h2:t.n=n+v
   ·rw [h2,beq_self_eq_true,ae,if_pos ⟨h1,rfl⟩,He W fu (by omega) (by omega)]
    cases hh:J6 v d u with
    |error e=>
     have he:=xJ hh
     rw [show (tE (.error e)).2=e from rfl,dj (show e≠0 by omega)];rfl
    |ok y=>rfl
   ·rw [beq_false_of_ne h2,n3,if_neg (fun h=>h2 h.2),Y,l2,dX,I1,aD,aD]
    have hr:t.r=[]:=ft.r1 h1
    have O:t.name=oW:=ft.nm0 (by omega)
    by_cases E:t.n>n+v
    ·have hi:=ft.ok.no.2.1
     have wt:oa .i64 (t.n-1)=t.n-1:=by grind [aG,vc]
     rw [decide_eq_true E,ae,if_pos ⟨h1,E⟩,wt,h1,hr,O];rfl
    ·rw [decide_eq_false E,n3,if_neg (fun h=>E h.2),<-Y,<-l2]
     cases t;rfl
  ·rw [beq_false_of_ne h1,n3,A,if_neg (fun h=>h1 h.1),if_neg (fun h=>h1 h.1),ft.n0 h1]
   obtain ⟨o1,o2,o3,o4,o5,o6,o7⟩:=ft.ok.no
   rw [J5 (by omega)]
   have hQ: ∀y∈t.c,∀a b,0<=a/\a<=1->0<=b/\b<=1-> ∀g:pr Int Tm->OS S,gA q y n u (v+a) (d+b) g=g (pE (HZ n u (v+a) (d+b) y)):=fun y x a b ha hb g=>by
    have:=bY x
    exact F y x g (ft.bV x) (by omega) (by omega) (by omega)
   have T: ∀b∈t.s,∀y∈b.c,∀g:pr Int Tm->OS S,gA q y n u v (d+av t.k) g=g (pE (HZ n u v (d+av t.k) y)):=fun b hb y x g=>by
    have:=b8 hb x
    have:=KZ t.k
    exact J b hb y x g (ft.brk hb x) (by omega) (by omega) (by omega)
   have:=afj (t:=t) (u:=u) (n:=n) (v:=v) (d:=d) z I ft.ok (by omega) (by omega) hQ T t.c [] [] q rfl (by omega) (by grind)
   refine this.trans ?_
   refine o0 ?_ (Qx _ I).symm
   simp_all [AS,aP]
section
variable {hd:Tm->(Int->OS S)->OS S} {t:Tm}
theorem af6 (hk:Fu k) (I:Bool×Int->OS S) (q:Int->Int->Int->OS S) {v more:Int} {x:Br Tm} (A: ∀y∈x.c,∀g,hd y g=g ((au y:Nat):Int)) (hl:x.c.length<1073741824):
  ∀ (r p:LT) (m a:Nat),x.c=p++r->r.length<m->a+ay r<4611686018427387904->n4 hd k I q t v x more m (a:Int) (p.length:Int)=q ((a+ay r:Nat):Int) (oa .i64 (v+1)) more:=by
 intro r
 induction r with
 |nil=>grind [pw,ay,n4,yj,n3]
 |cons y r B=>
  intro p m a h E ha
  obtain ⟨m,rfl,z⟩:=pw E
  obtain ⟨F,J,L,M⟩:=qF h (by omega)
  have O:=A y (by grind)
  have T:a+ay (y::r)=(a+au y)+ay r:=by rw [ay];omega
  rw [T] at ha ⊢
  have W:oa .i64 ((a:Int)+((au y:Nat):Int))=((a+au y:Nat):Int):=by grind [vc]
  simp only [n4,yj,F,ae,J,p9,ar,ag hk,ug,O,L,W,uX,n3,B (p++[y]) m (a+au y) M z ha]
theorem af5 (hk:Fu k) (I:Bool×Int->OS S) {more:Int} (E: ∀b∈t.s,∀y∈b.c,∀g,hd y g=g ((au y:Nat):Int)) (hl:t.s.length<1073741824) (q: ∀b∈t.s,b.c.length<1073741824):
  ∀ (r p:LB) (m a:Nat),t.s=p++r->r.length<m->a+aI r<4611686018427387904->kM hd k I t m (a:Int) (p.length:Int) more=I (true,((a+aI r:Nat):Int)):=by
 intro r
 induction r with
 |nil=>grind [pw,aI,kM,tr,n3]
 |cons x r F=>
  intro p m a h J ha
  obtain ⟨m,rfl,z⟩:=pw J
  obtain ⟨L,M,O,T⟩:=qF h (by omega)
  have B:x∈t.s:=by grind
  have A:=q x B
  have W:a+aI (x::r)=(a+ay x.c)+aI r:=by rw [aI,kZ];omega
  rw [W] at ha ⊢
  have:=af6 (t:=t) (v:=(p.length:Int)) (more:=more) hk I (kM hd k I t m) (E x B) A x.c [] k a rfl (by have:=hk;omega) (by omega)
  simp only [kM,tr,L,ae,M,p9]
  refine o0 this ?_
  rw [O,F (p++[x]) m (a+ay x.c) T z ha]
theorem af4 (hk:Fu k) (I:Bool×Int->OS S) (E: ∀y∈t.c,∀g,hd y g=g ((au y:Nat):Int)) (x: ∀b∈t.s,∀y∈b.c,∀g,hd y g=g ((au y:Nat):Int)) (B:pf t):
  ∀ (r p:LT) (m a:Nat),t.c=p++r->r.length<m->a+ay r+aI t.s<4611686018427387904->iv hd k I t m (a:Int) (p.length:Int)=I (true,((a+ay r+aI t.s:Nat):Int)):=by
 obtain ⟨o1,o2,o3,o4,o5,o6,F⟩:=B.no
 intro r
 induction r with
 |nil=>
  intro p m a h z ha
  obtain ⟨m,rfl,q⟩:=pw z
  have A:a+ay []=a:=by rfl
  rw [A] at ha ⊢
  have:=fun more=>af5 (more:=more) hk I x F (fun b hb=>(B.bi hb).1.2.2) t.s [] k a rfl (by omega) ha
  simp only [iv,tq,xu h,n3]
  cases (t.k==15)<;>grind [n3,ae]
 |cons y r J=>
  intro p m a h z ha
  obtain ⟨m,rfl,q⟩:=pw z
  obtain ⟨L,M,O,T⟩:=qF h (by omega)
  have W:=E y (by grind)
  have A:a+ay (y::r)=(a+au y)+ay r:=by rw [ay];omega
  rw [A] at ha ⊢
  have Y:oa .i64 ((a:Int)+((au y:Nat):Int))=((a+au y:Nat):Int):=by grind [vc]
  simp only [iv,tq,L,ae,M,p9,ar,ag hk,jE,ug,W,O,Y,uX,n3,J (p++[y]) m (a+au y) T q ha]
theorem aeA (hk:Fu k) (I:Bool×Int->OS S) (q:Int->Int->Int->OS S) {v more:Int} {x:Br Tm} (A: ∀y∈x.c,∀g,hd y g=g ((am y:Nat):Int)) (hl:x.c.length<1073741824):
  ∀ (r p:LT) (m a:Nat),x.c=p++r->r.length<m->n5 hd k I q t v x more m (a:Int) (p.length:Int)=q ((max a (aH r):Nat):Int) (oa .i64 (v+1)) more:=by
 intro r
 induction r with
 |nil=>grind [pw,aH,n5,yk,n3]
 |cons y r B=>
  intro p m a h E
  obtain ⟨m,rfl,z⟩:=pw E
  obtain ⟨F,J,L,M⟩:=qF h (by omega)
  have O:=A y (by grind)
  have T:max a (aH (y::r))=max (max a (am y)) (aH r):=by rw [aH];omega
  rw [T]
  have W:(if ((am y:Nat):Int)>(a:Int) then ((am y:Nat):Int) else (a:Int))=((max a (am y):Nat):Int):=by omega
  simp only [n5,yk,F,ae,J,p9,ar,ag hk,e6,O,L,W,uX,n3,B (p++[y]) m (max a (am y)) M z]
theorem aez (hk:Fu k) (I:Bool×Int->OS S) {more:Int} (E: ∀b∈t.s,∀y∈b.c,∀g,hd y g=g ((am y:Nat):Int)) (hl:t.s.length<1073741824) (q: ∀b∈t.s,b.c.length<1073741824):
  ∀ (r p:LB) (m a:Nat),t.s=p++r->r.length<m->kN hd k I t m (a:Int) (p.length:Int) more=I (true,((max a (aO r):Nat):Int)):=by
 intro r
 induction r with
 |nil=>grind [pw,aO,kN,tu,n3]
 |cons x r F=>
  intro p m a h J
  obtain ⟨m,rfl,z⟩:=pw J
  obtain ⟨L,M,O,T⟩:=qF h (by omega)
  have B:x∈t.s:=by grind
  have A:=q x B
  have W:max a (aO (x::r))=max (max a (aH x.c)) (aO r):=by rw [aO,pD];omega
  rw [W]
  have:=aeA (t:=t) (v:=(p.length:Int)) (more:=more) hk I (kN hd k I t m) (E x B) A x.c [] k a rfl (by have:=hk;omega)
  simp only [kN,tu,L,ae,M,p9]
  refine o0 this ?_
  rw [O,F (p++[x]) m (max a (aH x.c)) T z]
theorem aey (hk:Fu k) (I:Bool×Int->OS S) (E: ∀y∈t.c,∀g,hd y g=g ((am y:Nat):Int)) (x: ∀b∈t.s,∀y∈b.c,∀g,hd y g=g ((am y:Nat):Int)) (B:pf t):
  ∀ (r p:LT) (m a:Nat),t.c=p++r->r.length<m->mc hd k I t m (a:Int) (p.length:Int)=I (true,((max (max a (aH r)) (aO t.s):Nat):Int)):=by
 obtain ⟨o1,o2,o3,o4,o5,o6,F⟩:=B.no
 intro r
 induction r with
 |nil=>
  intro p m a h z
  obtain ⟨m,rfl,q⟩:=pw z
  have A:max a (aH [])=a:=by rw [aH];omega
  rw [A]
  have:=fun more=>aez (more:=more) hk I x F (fun b hb=>(B.bi hb).1.2.2) t.s [] k a rfl (by omega)
  simp only [mc,gw,xu h,n3]
  cases (t.k==15)<;>grind [n3,ae]
 |cons y r J=>
  intro p m a h z
  obtain ⟨m,rfl,q⟩:=pw z
  obtain ⟨L,M,O,T⟩:=qF h (by omega)
  have W:=E y (by grind)
  have A:max a (aH (y::r))=max (max a (am y)) (aH r):=by rw [aH];omega
  rw [A]
  have Y:(if ((am y:Nat):Int)>(a:Int) then ((am y:Nat):Int) else (a:Int))=((max a (am y):Nat):Int):=by omega
  simp only [mc,gw,L,ae,M,p9,ar,ag hk,jE,e6,W,O,Y,uX,n3,J (p++[y]) m (max a (am y)) T q]
end
theorem Q_ (t:Tm):pf t-> ∀ {k:Nat} (I:Int->OS S),Fd k (am t)->au t<4611686018427387904->j6 k t I=I ((au t:Nat):Int):=by
 induction t using c7 with
 |h t A B=>
  intro z k I hk hs
  obtain ⟨q,rfl,E,hf⟩:=hk.pos' (HX t)
  have F:=rM t
  have:=af4 E (fun r=>I r.2) (fun y x g=>A y x (z.ki x) g (hf _ (bY x)) (by have:=k_ x;omega)) (fun b hb y x g=>B b hb y x ((z.bi hb).2 y x) g (hf _ (b8 hb x)) (by have:=k_ x;have:=we hb;omega)) z t.c [] q 1 rfl (by have:=z.no.2.2.2.2.2.1;omega) (by omega)
  grind [j6,TS,ar,DY,IW,ag]
theorem aiK (t:Tm):pf t-> ∀ {k:Nat} (I:Int->OS S),Fd k (am t)->am t<4611686018427387904->j5 k t I=I ((am t:Nat):Int):=by
 induction t using c7 with
 |h t A B=>
  intro z k I hk hs
  obtain ⟨q,rfl,E,hf⟩:=hk.pos' (HX t)
  have F:=pF t
  have:=aey E (fun r=>I (oa .i64 (r.2+1))) (fun y x g=>A y x (z.ki x) g (hf _ (bY x)) (by have:=bY x;omega)) (fun b hb y x g=>B b hb y x ((z.bi hb).2 y x) g (hf _ (b8 hb x)) (by have:=b8 hb x;omega)) z t.c [] q 0 rfl (by have:=z.no.2.2.2.2.2.1;omega)
  simp only [j5,TO,ag E,ar,DZ,IX]
  grind [vc]
abbrev F4 (k:Nat):Prop:=4294970296<=k
theorem F4.f3 (h:F4 k):F3 k:=by have:4294970296<=k:=h;unfold F3;omega
def ri (n:Int) (t u:Tm):Except Int Tm:=sh t (sh u (K7 n t u))
theorem ajv (q:F4 k) {t u:Tm} (z:In k t) (hu:In k u) {n:Int} (hn:0<=n/\n<=1000000) (I:Tm×Int->OS S):zd k t n u I=I (tE (ri n t u)):=by
 have hk:=q.f3
 simp only [zd,ag hk.fu,ar,zy z.1 z.2.1 z.dep,zy hu.1 hu.2.1 hu.dep]
 unfold ri
 by_cases h1:bw t=0
 case neg=>rw [dj h1,sQ,ae];unfold sh;rw [if_neg h1];rfl
 by_cases h2:bw u=0
 case neg=>rw [h1,show (!((0:Int)==0))=false from rfl,n3,dj h2,sQ,ae];unfold sh;rw [if_pos h1,if_neg h2];rfl
 have ft:Fm t:=⟨z.1,h1⟩
 have fu:Fm u:=⟨hu.1,h2⟩
 have hc:=yr t n
 have z1:=ft.dP;have z2:=fu.dP;have z3:=mB u;have d1:=ft.dep;have d2:=fu.dep
 have M:4294970296<=k:=q
 have A:(if 1099511627776<n then (1099511627776:Int) else n)=n:=if_neg (by omega)
 have hmul:zh n t*(au u-1)<=20000*20000:=Nat.mul_le_mul (by omega) (by omega)
 have B:oa .i64 ((au u:Int)-1)=((au u-1:Nat):Int):=by rw [vc (by omega) (by omega)];omega
 have E:oa .i64 ((zh n t:Int)*((au u-1:Nat):Int))=((zh n t*(au u-1):Nat):Int):=by
  rw [<-Int.natCast_mul];exact vc (by omega) (by omega)
 have F:oa .i64 ((au t:Int)+((zh n t*(au u-1):Nat):Int))=((au t+zh n t*(au u-1):Nat):Int):=by
  rw [<-Int.natCast_add];exact vc (by omega) (by omega)
 rw [h1,h2,show (!((0:Int)==0))=false from rfl,n3,n3,decide_eq_false (by omega),n3]
 simp only [A]
 rw [Q_ t ft.ok _ (ft.fd hk) (by omega),ai6 t _ ft (ft.fd hk) (by omega),Q_ u fu.ok _ (fu.fd hk) (by omega),B,E,F]
 unfold sh
 rw [if_pos h1,if_pos h2]
 unfold K7
 by_cases J:au t+zh n t*(au u-1)>20000
 ·rw [decide_eq_true (by omega),ae,if_pos J];rfl
 rw [decide_eq_false (by omega),n3,if_neg J,ajw fu (by omega) t _ ft (by omega) (by omega) (by omega),ij]
 cases hp:HZ n u 0 0 t with
 |error e=>rfl
 |ok o=>
  rw [aP,aD]
  have x:=(Ie ft.2).2.2
  obtain ⟨O,q2,T,W⟩:=F8 fu (by omega) t (v:=0) (d:=0) (by omega) (by omega) (by omega) ft.ok x hp
  show j5 k o _=_
  rw [aiK o O _ (hk.fd (by omega)) (by omega)]
  by_cases L:am o>200
  ·rw [decide_eq_true (by omega),ae,if_pos L];rfl
  ·rw [decide_eq_false (by omega),n3,if_neg L];rfl
abbrev xH (r:LC) (l a:Tm):Tm:= .mk 14 0 oW r [l,a] []
def ME (r:LC) (line:Tm):LB->Except Int (LB)
 |[]=> .ok []
 |b::l=>bE (eW (tb r 0 1)) fun nX=>bE (uC 0 1 0 1 line) fun q=>bE (ME r line l) fun x=> .ok (.mk b.f [xH nX q (AK b)]::x)
def gh (r:LC) (line x:Tm):Except Int Tm:=
 if x.k=24\/x.k=25 then .ok x
 else if x.k=26 then .ok (.mk 26 0 oW x.r [xH r (line.c.getD 0 oe) (x.c.getD 0 oe)] [])
 else bE (Ab 0 [⟨0,0⟩] line) fun e=>bE (ME r line x.s) fun l=> .ok (.mk 15 0 oW [] [e,xH r line (x.c.getD 1 oe)] l)
def h_ (t:Tm):Tm×Bool×Int:=
 if bw t≠0 then (oe,false,bw t) else
 if t.k=14/\(t.c.getD 0 oe).k=23/\((t.c.getD 1 oe).k=24\/(t.c.getD 1 oe).k=25\/(t.c.getD 1 oe).k=26\/(t.c.getD 1 oe).k=15) then FA (gh t.r (t.c.getD 0 oe) (t.c.getD 1 oe)) else (oe,false,0)
theorem I8 {t:Tm} (h:t.c.length=2): ∃a b,t.c=[a,b]:=by
 match h':t.c,h with
 |[a,b],_=>exact ⟨a,b,rfl⟩
theorem jH {t:Tm} (h:t.c.length=1): ∃a,t.c=[a]:=by
 match h':t.c,h with
 |[a],_=>exact ⟨a,rfl⟩
theorem Fm.sy {t:Tm} (h:Fm t) (hk:t.k=15):(∀b∈t.s,b.c=[AK b]/\Fm (AK b)/\RX true b.f)/\t.s.length<=20000:=by
 have ho:=h.own
 refine ⟨fun b hb=> ?_, ?_⟩
 ·have hl:b.c.length=1:=by
   obtain ⟨kd,n,nm,r,q,sys⟩:=t
   have hk:kd=15:=hk
   subst hk
   have ho:(_&&(sys.all (bX 15 24)&&_))=true:=ho
   simp only [pX] at ho
   have:=xm.1 ho.2.1 b hb
   unfold bX at this
   simp only [pX,decide_eq_true_eq] at this
   have h1:=this.1
   have:xU 15=1:=rfl
   omega
  obtain ⟨f,q⟩:=b
  match q,hl with
  |[a],_=>exact ⟨rfl,h.brk hb (by simp [AK]),h.f hb⟩
 ·have h1:=h.dP
  have h2:=Hl t
  have: ∀ {l:LB},(∀b∈l,b.c≠[])->l.length<=aI l:=by
   intro l
   induction l with
   |nil=>intro _;simp
   |cons b l x=>
    intro hl
    have:=x fun b hb=>hl b (by simp [hb])
    have hb:=hl b (by simp)
    obtain ⟨f,q⟩:=b
    cases q with
    |nil=>exact absurd rfl hb
    |cons a q=>rw [aI,Fs,ay,ue];have:=mB a;omega
  have:=this (l:=t.s) fun b hb=>by
   intro he
   obtain ⟨kd,n,nm,r,q,sys⟩:=t
   have hk:kd=15:=hk
   subst hk
   have ho:(_&&(sys.all (bX 15 24)&&_))=true:=ho
   simp only [pX] at ho
   have:=xm.1 ho.2.1 b hb
   unfold bX at this
   simp only [pX,decide_eq_true_eq] at this
   have h1:=this.1
   rw [he] at h1
   have:xU 15=1:=rfl
   simp at h1;omega
  omega
def DQ {α:Type} (c:Int) (x:Except Int α):Except Int α:=if c=0 then x else .error c
theorem oH {α:Type} (x:Except Int α):DQ 0 x=x:=rfl
theorem lb {α:Type} {c:Int} (h:c≠0) (x:Except Int α):DQ c x= .error c:=if_neg h
structure Sm (n:Nat) (t:Tm):Prop where
 ok:pf t
 dP:au t<=n
 dep:am t<=300
theorem Fm.sm {t:Tm} (h:Fm t):Sm 20000 t:=⟨h.ok,h.dP,by have:=h.dep;omega⟩
theorem Sm.mono {n m:Nat} {t:Tm} (h:Sm n t) (q:n<=m):Sm m t:=⟨h.ok,by have:=h.dP;omega,h.dep⟩
theorem f':Sm 20000 oe:=⟨agT,by unfold oe;rw [au,ay,aI];omega,by unfold oe;rw [am,aH,aO];omega⟩
theorem Sm.isIn {n:Nat} {t:Tm} (h:Sm n t) (hk:F3 k) (hn:n<1099511627776):In k t:=⟨h.ok,hk.fd (by have:=h.dep;omega),by have:=h.dP;omega⟩
structure KK (n:Nat) (l:LB):Prop where
 ok:ba l
 dP:aI l<=l.length*n
 dep:aO l<=301
theorem Dp (n:Nat):KK n []:=⟨by rw [ba];trivial,by rw [aI];simp,by rw [aO];omega⟩
theorem Ju {n:Nat} {l:LB} (h:KK n l) {f:LC} (hf:aq f/\f.length<1073741824) {t:Tm} (q:Sm n t):KK n (l++[⟨f,[t]⟩]):=by
 refine ⟨NQ h.ok ?_, ?_, ?_⟩
 ·rw [ba,Fa,aZ,aZ,ba];exact ⟨⟨⟨hf.1,hf.2,by simp⟩,q.ok,trivial⟩,trivial⟩
 ·rw [R1,aI,Fs,ay,ay,aI,H4,List.length_singleton,Nat.succ_mul]
  have:=h.dP;have:=q.dP;omega
 ·rw [zF,aO,Ey,aH,aH,aO]
  have:=h.dep;have:=q.dep;omega
theorem Hn {kd:Int} (E:0<=kd/\kd<=28) {r:LC} (B:aq r/\r.length<1073741824) {ks:LT} {sys:LB} {n m:Nat} (q: ∀x∈ks,pf x/\am x<=299) (hl:ks.length<1000) (L:ay ks<=n) (hs:ba sys) (A:sys.length<1073741824) (F:aO sys<=299) (I:aI sys<=m):Sm (n+m+1) (.mk kd 0 oW r ks sys):=by
 have hd:aH ks<=299:=by
  have: ∀ {l:LT},(∀x∈l,am x<=299)->aH l<=299:=by
   intro l
   induction l with
   |nil=>intro _;rw [aH];omega
   |cons t l J=>intro h;rw [aH];have:=h t (by simp);have:=J fun x z=>h x (by simp [z]);omega
  exact this fun x z=>(q x z).2
 refine ⟨?_, ?_, ?_⟩
 ·rw [pf]
  exact ⟨⟨by unfold aG;omega,by unfold aG;omega,by decide,B.1,B.2,by omega,A⟩,vf.2 fun x z=>(q x z).1,hs⟩
 ·rw [au];omega
 ·rw [am];omega
theorem MD {r:LC} (z:aq r/\r.length<1073741824) {n m:Nat} {l a:Tm} (hl:Sm n l) (ha:Sm m a) (h1:am l<=299) (h2:am a<=299):Sm (n+m+1) (xH r l a):=by
 have:=Hn (kd:=14) (by omega) z (ks:=[l,a]) (sys:=[]) (n:=n+m) (m:=0) (fun x q=>by
  simp at q
  rcases q with rfl|rfl
  ·exact ⟨hl.ok,h1⟩
  ·exact ⟨ha.ok,h2⟩) (by simp) (by rw [ay,ay,ay];have:=hl.dP;have:=ha.dP;omega) (by rw [ba];trivial) (by simp) (by rw [aO];omega) (by rw [aI];omega)
 exact this
theorem EC {t:Tm} {a b:Tm} (h:t.c=[a,b]):t.c.getD 0 oe=a/\t.c.getD 1 oe=b:=by rw [h];exact ⟨rfl,rfl⟩
theorem G9 {fa:Bool} {f:LC} (h:RX fa f):aq f/\f.length<1073741824:=⟨h.1.2,by have:=h.1.len;omega⟩
theorem o5 {f:LC} {b:Int} (h:RF f):aq (tb f 0 b).1/\(tb f 0 b).1.length<1073741824:=by
 have hl:=apS (f:=f) (i:=0) (b:=b)
 have:=h.len
 refine ⟨?_,by omega⟩
 by_cases q:(tb f 0 b).2=0
 ·exact (kQ q).2
 ·rw [apW q];exact fun c hc=>by cases hc
theorem apN (hk:F3 k) (I:Tm×Bool×Int->OS S) {t line x:Tm} {z:Int×Int×BA×LC×LT} {q:Tm×Int} (O:RX true t.r) (hl:Fm line) (hx: ∀b∈x.s,b.c=[AK b]/\Fm (AK b)/\RX true b.f) (az:x.s.length<=20000)
  (T: ∀acc,KK 50000 acc->acc.length<=20000->aO acc<=299->In k (.mk 15 0 oW [] [q.1,.mk z.1 z.2.1 z.2.2.1 z.2.2.2.1 z.2.2.2.2 []] acc)):
  ∀ (r p acc:LB) (m:Nat) (c:Int),x.s=p++r->r.length<m->KK 50000 acc->aO acc<=299->acc.length+r.length<=20000->
   E7 k I t z line q x m c acc (p.length:Int)=I (FA (DQ c (bE (ME t.r line r) fun l'=> .ok (.mk 15 0 oW [] [q.1,.mk z.1 z.2.1 z.2.2.1 z.2.2.2.1 z.2.2.2.2 []] (acc++l'))))):=by
 intro r
 induction r with
 |nil=>
  intro p acc m c h W hb hd A
  obtain ⟨m,rfl,J⟩:=pw W
  simp only [E7,Jp,xu h,n3,ag hk.fu,JM,ar]
  rw [Ry hk (T acc hb (by simpa using A) hd),ME,aD,xG]
  by_cases hc:c=0
  ·subst hc;exact s7 I
  ·rw [lb hc];exact JF hc I
 |cons b r ih=>
  intro p acc m c h W hb hd A
  obtain ⟨m,rfl,J⟩:=pw W
  obtain ⟨e1,e2,e3,e4⟩:=qF h (by omega)
  obtain ⟨Y,E,ad⟩:=hx b (by rw [h];simp)
  have hg:af b.c 0=some (AK b):=ED (n:=0) rfl (by rw [Y];rfl)
  have F:=o5 (b:=1) O.1
  rw [ue] at A
  have step: ∀ {nX:LC} {B:Tm} {M:Int},aq nX/\nX.length<1073741824->Sm 20000 B->am B<=200->nW (aw 1099511627776 acc.length [Br.mk b.f [xH nX B (AK b)]].length) (fun _=>E7 k I t z line q x m M (acc++[Br.mk b.f [xH nX B (AK b)]]) (((p++[b]).length:Nat):Int))=
    I (FA (DQ M (bE (ME t.r line r) fun l'=> .ok (.mk 15 0 oW [] [q.1,.mk z.1 z.2.1 z.2.2.1 z.2.2.2.1 z.2.2.2.2 []] (acc++[Br.mk b.f [xH nX B (AK b)]]++l'))))):=by
   intro nX B M L ao a6
   rw [J5 (by simp;omega)]
   have hs:=MD L ao E.sm (by omega) (by have:=E.dep;omega)
   refine ih (p++[b]) _ m M e4 J (Ju hb (G9 ad) (hs.mono (by omega))) ?_ (by rw [H4,List.length_singleton];omega)
   rw [zF,aO,Ey,aH,aH,aO]
   have:am (xH nX B (AK b))<=201:=by
    rw [am,aH,aH,aH,aO];have:=E.dep;omega
   omega
  simp only [E7,Jp,e1,ae,e2,p9,ag hk.fu,ar,v_ hk O.1.2 (G9 O).2 (show (0:Int)<=1/\(1:Int)<1000 by omega),hg,tO,wi,e3]
  rw [v6 hk (b:=1) (fun _=>hl.isIn hk) (by omega)]
  by_cases hc:c=0
  ·subst hc
   rw [if_pos rfl,oH,ME]
   by_cases h1:(tb t.r 0 1).2=0
   ·rw [h1,kR,jF h1,aD]
    have ax:pH 1 1 line=uC 0 1 0 1 line:=if_pos hl.2
    rw [ax]
    cases hh:uC 0 1 0 1 line with
    |error e=>
     have:=M0 line hh
     refine (step F f' (by unfold oe;rw [am,aH,aO];omega)).trans ?_
     rw [show (tE (.error e)).2=e from rfl,lb (by omega)];rfl
    |ok B=>
     have fl:=jr (by omega) hl hh
     refine (step F fl.sm fl.dep).trans ?_
     rw [show (tE (.ok B)).2=0 from rfl,oH,aD]
     cases ME t.r line r with
     |error e=>rfl
     |ok l'=>rw [aD,aD,aD,List.append_assoc];rfl
   ·rw [n9 h1]
    refine (step F f' (by unfold oe;rw [am,aH,aO];omega)).trans ?_
    rw [lb h1,iO h1];rfl
  ·rw [if_neg hc,n9 hc,lb hc]
   refine (step (nX:=[]) ⟨(fun c hc=>by cases hc),by simp⟩ f' (by unfold oe;rw [am,aH,aO];omega)).trans ?_
   rw [lb hc]
theorem E5 {t:Tm} (h:Fm t) {kd:Int} (hk:t.k=kd) {n:Nat} (hn:ct kd=n):t.c.length=n:=by
 have:=h.nk
 rw [hk,hn] at this;omega
theorem KQ {t a b:Tm} (h:t.c=[a,b]):af t.c 0=some a/\af t.c 1=some b:=by rw [h];exact ⟨rfl,rfl⟩
theorem ap4 {t:Tm} (h:Fm t):aq t.r/\t.r.length<1073741824:=by
 obtain ⟨z,A,B,q,x,E,F⟩:=h.ok.no
 exact ⟨q,x⟩
theorem nS {r:LC} (z:RX true r) {line x y w:Tm} (hl:line.c=[y]) (q:x.c=[w]) (fl:Fm line) (fx:Fm x):Sm 40010 (.mk 26 0 oW x.r [xH r y w] []):=by
 have fy:=fl.bV (x:=y) (by rw [hl];simp)
 have fw:=fx.bV (x:=w) (by rw [q];simp)
 have h:=MD (G9 z) fy.sm fw.sm (by have:=fy.dep;omega) (by have:=fw.dep;omega)
 have hd:am (xH r y w)<=201:=by rw [am,aH,aH,aH,aO];have:=fy.dep;have:=fw.dep;omega
 exact (Hn (kd:=26) (by omega) (ap4 fx) (ks:=[xH r y w]) (sys:=[]) (n:=40001) (m:=0) (fun x q=>by simp at q;subst q;exact ⟨h.ok,by omega⟩) (by simp) (by rw [ay,ay];have:=h.dP;omega) (by rw [ba];trivial) (by simp) (by rw [aO];omega) (by rw [aI];omega)).mono (by omega)
theorem aoX {r:LC} (A:RX true r) {e line a:Tm} (he:Sm 20000 e) (B:am e<=200) (fl:Fm line) (fa:Fm a) {acc:LB} (hb:KK 50000 acc) (q:acc.length<=20000) (hd:aO acc<=299):Sm 1000070000 (.mk 15 0 oW [] [e,xH r line a] acc):=by
 have h:=MD (G9 A) fl.sm fa.sm (by have:=fl.dep;omega) (by have:=fa.dep;omega)
 have E:am (xH r line a)<=201:=by rw [am,aH,aH,aH,aO];have:=fl.dep;have:=fa.dep;omega
 have F:aI acc<=1000000000:=bu hb.dP (bu (HV _ q) (by omega))
 exact (Hn (kd:=15) (by omega) (r:=[]) ⟨(fun c hc=>by cases hc),by simp⟩ (ks:=[e,xH r line a]) (sys:=acc) (n:=60001) (m:=1000000000) (fun x z=>by
  simp at z
  rcases z with rfl|rfl
  ·exact ⟨he.ok,by omega⟩
  ·exact ⟨h.ok,by omega⟩) (by simp) (by rw [ay,ay,ay];have:=h.dP;have:=he.dP;omega) hb.ok (by omega) hd F).mono (by omega)
theorem ap_ (hk:F3 k) {t:Tm} (T:In k t) (I:Tm×Bool×Int->OS S):JG k t I=I (h_ t):=by
 simp only [JG,SP,ag hk.fu,ar,zy T.1 T.2.1 T.dep]
 unfold h_
 by_cases h0:bw t=0
 case neg=>rw [dj h0,sQ,ae,if_pos h0];rfl
 rw [h0,show (!((0:Int)==0))=false from rfl,n3,if_neg (by simp)]
 have ft:Fm t:=⟨T.1,h0⟩
 by_cases A:t.k=14
 case neg=>rw [beq_false_of_ne A,sQ,ae,if_neg (fun h=>A h.1)];rfl
 rw [A,show (!((14:Int)==14))=false from rfl,n3]
 obtain ⟨line,x,E⟩:=I8 (E5 ft A (n:=2) rfl)
 obtain ⟨g0,g1⟩:=KQ E
 obtain ⟨d0,d1⟩:=EC E
 have fl:Fm line:=ft.bV (by rw [E];simp)
 have fx:Fm x:=ft.bV (by rw [E];simp)
 have hr:=ft.r14 A
 rw [d0,d1,g0,p9]
 by_cases F:line.k=23
 case neg=>rw [beq_false_of_ne F,sQ,ae,if_neg (fun h=>F h.2.1)];rfl
 rw [F,show (!((23:Int)==23))=false from rfl,n3,vU t T.1 _ T.2.1,g0,p9,g1,p9]
 obtain ⟨y,hy⟩:=jH (E5 fl F (n:=1) rfl)
 have fin: ∀ {z:Tm},In k z-> ∀g:Tm×Bool×Int->OS S,ly k z 0 (fun r=>g (r.1,r.2.1,r.2.2.1))=g (FA (.ok z)):=fun hz g=>by
  rw [Ry hk hz];exact s7 g
 by_cases L:x.k=24
 ·rw [L,show ((24:Int)==24)=true from rfl,ae,if_pos ⟨rfl,rfl,.inl rfl⟩,fin (fx.isIn hk)]
  unfold gh;rw [if_pos (.inl L)]
 rw [beq_false_of_ne L,n3]
 by_cases M:x.k=25
 ·rw [M,show ((25:Int)==25)=true from rfl,ae,if_pos ⟨rfl,rfl,.inr (.inl rfl)⟩,fin (fx.isIn hk)]
  unfold gh;rw [if_pos (.inr M)]
 rw [beq_false_of_ne M,n3]
 by_cases B:x.k=26
 ·obtain ⟨w,hw⟩:=jH (E5 fx B (n:=1) rfl)
  have e1:af line.c 0=some y:=by rw [hy];rfl
  have e2:af x.c 0=some w:=by rw [hw];rfl
  rw [B,show ((26:Int)==26)=true from rfl,ae,if_pos ⟨rfl,rfl,.inr (.inr (.inl rfl))⟩,e1,p9,e2,p9]
  simp only [tO]
  rw [fin ((nS hr hy hw fl fx).isIn hk (by omega))]
  unfold gh;rw [if_neg (by omega),if_pos B,hy,hw];rfl
 rw [beq_false_of_ne B,n3]
 by_cases J:x.k=15
 case neg=>rw [beq_false_of_ne J,n3,if_neg (fun h=>by omega)];rfl
 obtain ⟨u,a,O⟩:=I8 (E5 fx J (n:=2) rfl)
 obtain ⟨a6,ao⟩:=KQ O
 obtain ⟨a7,ax⟩:=EC O
 have fa:Fm a:=fx.bV (by rw [O];simp)
 obtain ⟨sy,W⟩:=fx.sy J
 rw [J,show ((15:Int)==15)=true from rfl,ae,if_pos ⟨rfl,rfl,.inr (.inr (.inr rfl))⟩,vZ hk (fun _=>fl.isIn hk),ao,p9]
 simp only [tO,kR]
 have az:wv 0 [⟨0,0⟩] line=Ab 0 [⟨0,0⟩] line:=if_pos fl.2
 rw [az]
 have Y:Sm 20000 (tE (Ab 0 [⟨0,0⟩] line)).1/\am (tE (Ab 0 [⟨0,0⟩] line)).1<=200:=by
  cases hh:Ab 0 [⟨0,0⟩] line with
  |error e=>exact ⟨f',by show am oe<=200;unfold oe;rw [am,aH,aO];omega⟩
  |ok e=>
   obtain ⟨q1,q2,q3⟩:=mu fl hh
   exact ⟨⟨q1,q3,(show am e<=300 by omega)⟩,q2⟩
 have:=apN hk I (t:=t) (line:=line) (x:=x) (z:=(14,0,oW,t.r,[line,a])) (q:=tE (Ab 0 [⟨0,0⟩] line)) hr fl sy W (fun acc hb ad hd=>(aoX hr Y.1 Y.2 fl fa hb ad hd).isIn hk (by omega)) x.s [] [] k (tE (Ab 0 [⟨0,0⟩] line)).2 rfl (by have:4294968296<=k:=hk;omega) (Dp _) (by rw [aO];omega) (by simpa using W)
 refine o0 this ?_
 unfold gh
 rw [if_neg (by omega),if_neg B,ax]
 cases hh:Ab 0 [⟨0,0⟩] line with
 |error e=>
  have:=fP hh
  rw [show (tE (.error e)).2=e from rfl,lb (by omega)];rfl
 |ok e=>rfl


section
variable {hd:Tm->Int->Tm->Int->Int->(Tm->OS S)->OS S} {t u:Tm} {n v d:Int}
end

theorem aeW (hk:Fu k) (I:Tm×Int->OS S) {c0 c2:Int} {c1:Tm} {ns:List Int} (hl:ns.length<1000) (hn: ∀x∈ns,0<=x):
  ∀ (r p:List Int) (m:Nat),ns=p++r->r.length<m->nD k I c0 c1 c2 ns m (p.length:Int)=yY k c0 c1 c2 fun q=>pr.elim q (fun q=>I (q,0)) fun B=>I (oe,B):=by
 intro r
 induction r with
 |nil=>
  intro p m h z
  obtain ⟨m,rfl,A⟩:=pw z
  simp only [nD,xb,xu h,n3,ag hk,ar];rfl
 |cons x r E=>
  intro p m h z
  obtain ⟨m,rfl,A⟩:=pw z
  obtain ⟨F,J,L,M⟩:=qF h (by omega)
  have O:=hn x (by grind)
  grind [nD,xb,aY]
theorem ajk (hk:F3 k) {t:Tm} (q:Fm t) {f b:Int} (hf:0<=f/\f<=1000000) (hb:0<=b/\b<=1000000) (I:Tm×Int->OS S):G0 k t f b I=I (tE (uC b 0 f 0 t)):=by
 have x:oa .i64 (1000000-b)=1000000-b:=vc (by omega) (by omega)
 have hl:=aeW hk.fu I (c0:=b) (c2:=f) (c1:=t) (ns:=[f,b,1000000-b]) (by simp) (by grind) [f,b,1000000-b] [] k rfl (by grind)
 have hl:nD k I b t f [f,b,1000000-b] k 0=_:=hl
 simp only [G0,ag hk.fu,ar,x,q5,BR,zy q.ok (q.fd hk) (show am t<1099511627776 by have:=q.dep;omega),q.2,hl,yY]
 rw [show ((0:Int)==0)=true from rfl,uX,n3,if_neg (by omega),dt (by omega) (by unfold aG;omega) t q.ok q.rows _ (q.fd hk) (q.vp (by omega) (by omega)),ij,Jl _ I]
 rfl
def oK (f b:Int) (t:Tm):Except Int Tm:=sh t (uC b 0 f 0 t)
theorem ai0 (hk:F3 k) {t:Tm} (q:In k t) {f b:Int} (hf:0<=f/\f<=1000000) (hb:0<=b/\b<=1000000) (I:Tm×Int->OS S):G0 k t f b I=I (tE (oK f b t)):=by
 unfold oK sh
 by_cases h:bw t=0
 ·rw [if_pos h];exact ajk hk ⟨q.1,h⟩ hf hb I
 ·rw [if_neg h]
  simp only [G0,ag hk.fu,ar,q5,BR,zy q.1 q.2.1 q.dep,dj h,sQ,ae];rfl
theorem aJg {a b:Int} {t:Tm}: ∀e,oK a b t= .error e->0<e/\e<=1000:=fun e h=>z7 (fun e h=>M0 t h) h
theorem ahE {n:Int} {t u:Tm}: ∀e,ri n t u= .error e->0<e/\e<=1000:=fun e h=>z7 (fun e h=>z7 (fun e h=>AL h) h) h
theorem Hf (hk:F4 k) {t u:Tm} {c:Int} (q:c=0->In k t/\In k u) (I:Tm×Int->OS S):za k t u c I=I (mM c (ri 0 t u)):=by
 simp only [za,ag hk.f3.fu,dG,ar,rJ]
 exact Az c (fun h g=>ajv hk (q h).1 (q h).2 (by omega) g) (FP ahE) I
theorem ajm (hk:F3 k) {t a:Tm} {sys:LB} {c:Int} (q:c=0->In k t/\In k a/\In k (J4 sys)) (x: ∀e,c6 [t,a,J4 sys] (FB t a sys)= .error e->e≠0) (I:Tm×Int->OS S):y_ k t a sys c I=I (mM c (c6 [t,a,J4 sys] (FB t a sys))):=by
 simp only [y_,ag hk.fu,dG,ar,rJ]
 exact Az c (fun h g=>aiO hk (q h).1 (q h).2.1 (q h).2.2 g) x I
theorem Rx (hk:F3 k) {line a:Tm} {sys:LB} {c:Int} (q:c=0->In k line/\In k a/\In k (J4 sys)) (x: ∀e,c6 [line,a,J4 sys] (dF line a sys)= .error e->e≠0) (I:Tm×Int->OS S):y9 k line a sys c I=I (mM c (c6 [line,a,J4 sys] (dF line a sys))):=by
 simp only [y9,ag hk.fu,dG,ar,rJ]
 exact Az c (fun h g=>aiI hk (q h).1 (q h).2.1 (q h).2.2 g) x I
theorem ZS {m:Tm} (fm:Fm m):(bE (oK 1 0 m) fun y=>pH 0 1 y)=J6 0 1 m:=by
 have hd:=fm.dep
 have h1:oK 1 0 m=uC 0 0 0 0 m:=by
  unfold oK sh
  rw [if_pos fm.2]
  exact agi m (by omega) (by omega)
 rw [h1]
 unfold J6
 cases q:uC 0 0 0 0 m with
 |error e=>rfl
 |ok y=>
  rw [aD,aD]
  have fy:=jr (by omega) fm q
  unfold pH sh
  rw [if_pos fy.2]
theorem Rv (hk:F3 k) {m:Tm} {c:Int} (x:c=0->Fm m) (I:Tm×Int->OS S):Sf k m 0 1 c I=I (mM c (J6 0 1 m)):=by
 simp only [Sf,ag hk.fu,dG,ar,rJ]
 by_cases hc:c=0
 case neg=>rw [dj hc,sQ,ae,n9 hc];rfl
 have fm:=x hc
 subst hc
 rw [show (!((0:Int)==0))=false from rfl,n3,kR,<-ZS fm,ai0 hk (fm.isIn hk) (by omega) (by omega)]
 have hv:oK 1 0 m=uC 0 0 1 0 m:=by unfold oK sh;rw [if_pos fm.2]
 rw [if_pos rfl,hv]
 cases q:uC 0 0 1 0 m with
 |error e=>
  have he:=M0 m q
  rw [show (tE (.error e)).2=e from rfl,if_neg (show e≠0 by omega)]
  dsimp only
  rw [dj (show e≠0 by omega),sQ,ae];rfl
 |ok y=>
  have fy:=jr (by omega) fm q
  rw [show (tE (.ok y)).2=0 from rfl,show (tE (.ok y)).1=y from rfl,if_pos rfl]
  dsimp only
  rw [show (!((0:Int)==0))=false from rfl,n3,ek hk (fy.isIn hk) (by omega) (by omega),aD]
  have:=Lw (pH 0 1 y) (FP aak) 0
  rw [kR] at this
  rw [this]
def FJ:LT->Except Int (LT)
 |[]=> .ok []
 |y::l=>bE (J6 0 1 y) fun q=>bE (FJ l) fun x=> .ok (q::x)
abbrev ig (kd:Int) (p:Tm) (l:LT) (a:Tm):Tm:= .mk kd 0 oW [] (p::l++[a]) []
def M4 (kd:Int) (b:Tm) (q:LT):LB->Except Int (LB)
 |[]=> .ok []
 |y::l=>bE (FJ q) fun m=>bE (M4 kd b q l) fun x=> .ok (.mk y.f [ig kd b m (AK y)]::x)
def RP (kd:Int) (p:Tm) (q:LT) (x:Tm):Except Int Tm:=
 bE (c6 [x.c.getD 0 oe,x.c.getD 1 oe,J4 x.s] (FB (x.c.getD 0 oe) (x.c.getD 1 oe) x.s)) fun f=>
 bE (J6 0 1 p) fun b=>bE (K7 0 b f) fun line=>bE (M4 kd b q x.s) fun l=>
 c6 [line,ig kd p q (x.c.getD 1 oe),J4 l] (dF line (ig kd p q (x.c.getD 1 oe)) l)
def xQ (t:Tm):Tm:=t.c.getD (t.c.length-1) oe
def ya (t:Tm):LT:=(t.c.take (t.c.length-1)).drop 1
def pP (t:Tm):Tm×Bool×Int:=
 if bw t≠0 then (oe,false,bw t) else
 if (t.k=22\/t.k=27)/\(xQ t).k=15 then FA (RP t.k (t.c.getD 0 oe) (ya t) (xQ t)) else (oe,false,0)
theorem Ue: ∀ {l:LT} {e:Int},FJ l= .error e->0<e/\e<=1000:=by
 intro l
 induction l with
 |nil=>intro e h;cases h
 |cons y l q=>
  intro e h
  rw [FJ] at h
  rcases be h with h|⟨_,_,h⟩
  ·exact xJ h
  rcases be h with h|⟨_,_,h⟩
  ·exact q h
  ·cases h
theorem aeM (I:Int×Int×BA×LT×Int->OS S) (hk:F3 k) {c0 a:Tm} {c1 e:Int} {x:LT} (A:List.drop (zm 1) (List.take (zm c1) c0.c)=x) (hl:x.length<1073741823):
  ∀ (r p acc:LT) (m:Nat),x=p++r->r.length<m->acc.length+r.length<1073741824->
   Nd k I c0 c1 a 0 m e acc (p.length:Int)=I (c0.k,0,oW,acc++r++[a],e):=by
 intro r
 induction r with
 |nil=>
  intro p acc m h z ha
  obtain ⟨m,rfl,q⟩:=pw z
  simp only [Nd,jd,A,xu h,n3,ar,ag hk.fu,zc,xG]
  rw [J5 (by simp;simp at ha;omega)]
 |cons y r B=>
  intro p acc m h z ha
  obtain ⟨m,rfl,q⟩:=pw z
  obtain ⟨E,F,J,L⟩:=qF h (by omega)
  rw [ue] at ha
  simp only [Nd,jd,A,E,ae,F,p9,ar,J]
  rw [show decide ((0:Int)>0)=false from rfl,n3,J5 (by simp;omega)]
  refine (B (p++[y]) (acc++[y]) m L q (by rw [H4,List.length_singleton];omega)).trans ?_
  simp
theorem aeN (I:Int×Int×BA×LT×Int->OS S) (hk:F3 k) {c0 a:Tm} {c1:Int} {x:LT} (J:List.drop (zm 1) (List.take (zm c1) c0.c)=x) (hl:x.length<1073741823) (hf: ∀y∈x,Fm y):
  ∀ (r p acc:LT) (m:Nat) (c:Int),x=p++r->r.length<m->acc.length+r.length<1073741824->
   ∃l,Nd k I c0 c1 a 1 m c acc (p.length:Int)=I (c0.k,0,oW,acc++l++[a],match DQ c (FJ r) with| .ok _=>0| .error e=>e)/\ ∀l',DQ c (FJ r)= .ok l'->l=l':=by
 intro r
 induction r with
 |nil=>
  intro p acc m c h A ha
  obtain ⟨m,rfl,z⟩:=pw A
  refine ⟨[], ?_,fun l' h=> ?_⟩
  ·simp only [Nd,jd,J,xu h,n3,ar,ag hk.fu,zc,xG]
   rw [J5 (by simp;simp at ha;omega)]
   by_cases hc:c=0
   ·subst hc;rfl
   ·rw [lb hc]
  ·by_cases hc:c=0
   ·subst hc;rw [oH,FJ] at h;injection h
   ·rw [lb hc] at h;cases h
 |cons y r L=>
  intro p acc m c h A ha
  obtain ⟨m,rfl,z⟩:=pw A
  obtain ⟨M,O,T,W⟩:=qF h (by omega)
  rw [ue] at ha
  have fy:Fm y:=hf y (by rw [h];simp)
  have F:wA 0 1 y=J6 0 1 y:=if_pos fy.2
  obtain ⟨l,h1,h2⟩:=L (p++[y]) (acc++[(mM c (J6 0 1 y)).1]) m (mM c (J6 0 1 y)).2 W z (by rw [H4,List.length_singleton];omega)
  have E:DQ c (FJ (y::r))=bE (DQ c (J6 0 1 y)) fun B=>bE (DQ (mM c (J6 0 1 y)).2 (FJ r)) fun l'=> .ok (B::l'):=by
   by_cases hc:c=0
   ·subst hc
    rw [oH,oH,FJ,kR]
    cases J6 0 1 y with
    |error e=>rfl
    |ok B=>rfl
   ·rw [lb hc,lb hc];rfl
  refine ⟨(mM c (J6 0 1 y)).1::l, ?_,fun l' q=> ?_⟩
  ·simp only [Nd,jd,J,M,ae,O,p9,ar,T,ag hk.fu]
   rw [show decide ((1:Int)>0)=true from rfl,ae,E8 hk (fun _=>fy.isIn hk) (by omega) (by omega),F,J5 (by simp;omega)]
   refine h1.trans ?_
   rw [E]
   have hE:(match DQ (mM c (J6 0 1 y)).2 (FJ r) with| .ok _=>(0:Int)| .error e=>e)=match bE (DQ c (J6 0 1 y)) fun B=>bE (DQ (mM c (J6 0 1 y)).2 (FJ r)) fun l'=> .ok (B::l') with| .ok _=>(0:Int)| .error e=>e:=by
    by_cases hc:c=0
    ·subst hc
     rw [oH,kR]
     cases Y:J6 0 1 y with
     |error e=>
      have he:=xJ Y
      rw [show (tE (.error e)).2=e from rfl,lb (show e≠0 by omega)];rfl
     |ok B=>
      rw [show (tE (.ok B)).2=0 from rfl,oH,aD]
      cases FJ r<;>rfl
    ·rw [n9 hc,lb hc,lb hc];rfl
   rw [hE]
   simp<;>rfl
  ·rw [E] at q
   obtain ⟨B,g1,q⟩:=i8 q
   obtain ⟨l2,g2,q⟩:=i8 q
   injection q with q
   subst q
   have hc:c=0:=by
    by_cases hc:c=0
    ·exact hc
    ·rw [lb hc] at g1;cases g1
   subst hc
   rw [oH] at g1
   rw [h2 l2 g2,kR,g1];rfl
theorem ao8 {n:Nat} {l:LB} (h:KK n l) {f:LC} (hf:aq f/\f.length<1073741824) {t:Tm} (q:Sm n t):KK n (⟨f,[t]⟩::l):=by
 refine ⟨?_, ?_, ?_⟩
 ·rw [ba,Fa,aZ,aZ];exact ⟨⟨⟨hf.1,hf.2,by simp⟩,q.ok,trivial⟩,h.ok⟩
 ·rw [aI,Fs,ay,ay,ue,Nat.succ_mul]
  have:=h.dP;have:=q.dP;omega
 ·rw [aO,Ey,aH,aH]
  have:=h.dep;have:=q.dep;omega
theorem apc {r:LC} (F:RX true r) {line:Tm} (fl:Fm line): ∀ {l l':LB},(∀b∈l,b.c=[AK b]/\Fm (AK b)/\RX true b.f)->ME r line l= .ok l'->KK 50000 l'/\l'.length=l.length/\aO l'<=299:=by
 intro l
 induction l with
 |nil=>intro l' _ h;cases h;exact ⟨Dp _,rfl,by rw [aO];omega⟩
 |cons b l I=>
  intro l' hl h
  rw [ME] at h
  cases h1:eW (tb r 0 1) with
  |error e=>rw [h1] at h;cases h
  |ok nX=>
  rw [h1,aD] at h
  cases h2:uC 0 1 0 1 line with
  |error e=>rw [h2] at h;cases h
  |ok J=>
  rw [h2,aD] at h
  cases A:ME r line l with
  |error e=>rw [A] at h;cases h
  |ok O=>
  rw [A,aD] at h
  injection h with h
  subst h
  obtain ⟨i1,i2,i3⟩:=I (fun x L=>hl x (by simp [L])) A
  obtain ⟨T,B,M⟩:=hl b (by simp)
  have q:=jr (by omega) fl h2
  have z:aq nX/\nX.length<1073741824:=by
   have E:=o5 (b:=1) F.1
   unfold eW at h1
   split at h1
   ·injection h1 with h1;subst h1;exact E
   ·cases h1
  have hs:=MD z q.sm B.sm (by have:=q.dep;omega) (by have:=B.dep;omega)
  refine ⟨ao8 i1 (G9 M) (hs.mono (by omega)),by rw [ue,ue,i2], ?_⟩
  rw [aO,Ey,aH,aH]
  have:am (xH nX J (AK b))<=201:=by
   rw [am,aH,aH,aH,aO];have:=B.dep;have:=q.dep;omega
  omega
theorem nR (hk:F3 k) {t:Tm} (ft:Fm t) (z:t.k=14) (A:(t.c.getD 0 oe).k=23) (M:(t.c.getD 1 oe).k=24\/(t.c.getD 1 oe).k=25\/(t.c.getD 1 oe).k=26\/(t.c.getD 1 oe).k=15) {y:Tm} (h:gh t.r (t.c.getD 0 oe) (t.c.getD 1 oe)= .ok y):In k y/\0<y.k:=by
 obtain ⟨line,x,q⟩:=I8 (E5 ft z (n:=2) rfl)
 obtain ⟨d0,d1⟩:=EC q
 have fl:Fm line:=ft.bV (by rw [q];simp)
 have fx:Fm x:=ft.bV (by rw [q];simp)
 have I:=ft.r14 z
 rw [d0] at A
 rw [d0,d1] at h
 rw [d1] at M
 unfold gh at h
 split at h
 case isTrue hc=>injection h with h;subst h;exact ⟨fx.isIn hk,by omega⟩
 rename_i hc
 split at h
 case isTrue B=>
  injection h with h;subst h
  obtain ⟨u,hu⟩:=jH (E5 fl A (n:=1) rfl)
  obtain ⟨w,L⟩:=jH (E5 fx B (n:=1) rfl)
  have:=nS I hu L fl fx
  rw [hu,L]
  exact ⟨this.isIn hk (by omega),show (0:Int)<26 by decide⟩
 rename_i B
 have E:x.k=15:=by omega
 obtain ⟨u,a,F⟩:=I8 (E5 fx E (n:=2) rfl)
 obtain ⟨O,J⟩:=EC F
 have fa:Fm a:=fx.bV (by rw [F];simp)
 obtain ⟨sy,T⟩:=fx.sy E
 cases h1:Ab 0 [⟨0,0⟩] line with
 |error e=>rw [h1] at h;cases h
 |ok e=>
 rw [h1,aD] at h
 cases h2:ME t.r line x.s with
 |error e=>rw [h2] at h;cases h
 |ok l=>
 rw [h2,aD,J] at h
 injection h with h
 subst h
 obtain ⟨W,q2,Y⟩:=mu fl h1
 obtain ⟨b1,b2,b3⟩:=apc I fl sy h2
 exact ⟨(aoX I ⟨W,Y,(show am e<=300 by omega)⟩ q2 fl fa b1 (by omega) b3).isIn hk (by omega),show (0:Int)<15 by decide⟩
theorem apb (hk:F3 k) {t:Tm} (x:In k t):In k (h_ t).1:=by
 unfold h_
 by_cases q:bw t=0
 case neg=>rw [if_pos q];exact gQ hk
 rw [if_neg (by simp [q])]
 have ft:Fm t:=⟨x.1,q⟩
 split
 case isTrue hc=>
  cases z:gh t.r (t.c.getD 0 oe) (t.c.getD 1 oe) with
  |error e=>exact gQ hk
  |ok y=>
   have:=nR hk ft hc.1 hc.2.1 hc.2.2 z
   show In k (if bw y=0 then (y,true,(0:Int)) else (oe,false,bw y)).1
   split
   ·exact this.1
   ·exact gQ hk
 case isFalse hc=>exact gQ hk
end
section
def uY (q:Nat->Prop) (f:LC):Prop:= ∀c∈f,∀j,hp c j\/hn c j->q j
theorem RO {q x:Nat->Prop} {f:LC} (h:uY q f) (z: ∀j,q j->x j):uY x f:=fun c hc j hj=>z j (h c hc j hj)
theorem Jx (q:Nat->Prop):uY q []:=fun c hc=>by cases hc
theorem azw {q:Nat->Prop} {f g:LC} (h:uY q f) (hs: ∀c∈g,c∈f):uY q g:=fun c hc=>h c (hs c hc)
theorem uZ {q:Nat->Prop} {f g:LC} (h:uY q f) (h':uY q g):uY q (f++g):=fun c hc=>(xO.1 hc).elim (h c) (h' c)
theorem jy {q:Nat->Prop} {f:LC} (h:uY q f):uY q (bp f).1:=by
 unfold bp
 split
 ·split
  ·exact Jx _
  ·exact azw h fun c hc=>(ta.1 hc).1
 ·exact Jx _
theorem aoG {q:Nat->Prop} {f g:LC} (h:uY q f) (h':uY q g):uY q (meets f g):=fun c hc j hj=>by
 unfold meets at hc
 obtain ⟨a,ha,hc⟩:=List.mem_flatMap.1 hc
 obtain ⟨b,hb,rfl⟩:=wD.1 hc
 rw [apD,apA] at hj
 rcases hj with (hj|hj)|(hj|hj)
 ·exact h a ha j (.inl hj)
 ·exact h' b hb j (.inl hj)
 ·exact h a ha j (.inr hj)
 ·exact h' b hb j (.inr hj)
theorem Ia {q:Nat->Prop} {c:Cl}:uY q [c]↔ ∀j,hp c j\/hn c j->q j:=⟨fun h=>h c (by simp),fun h d hd=>by simp at hd;subst hd;exact h⟩
theorem J0 {q:Nat->Prop} {f g:LC} (h:uY q f) (h':uY q g):uY q (IC f g).1:=jy (uZ h h')
theorem aou {q:Nat->Prop} {f g:LC} (h:uY q f) (h':uY q g):uY q (IB f g).1:=jy (aoG h h')
theorem aos {q:Nat->Prop} {f:LC} (h:uY q f):uY q (gN f).1:=jy (azw h fun c hc=>(Ds hc).1)
theorem ks {q:Nat->Prop} {step:LC->Cl->LC×Int}: ∀ {l h:LC},(∀c∈l,∀h,uY q h->uY q (step h c).1)->uY q h->uY q (xK step h l).1:=by
 intro l
 induction l with
 |nil=>intro h _ x;exact x
 |cons c l z=>
  intro h hs x
  unfold xK
  split
  ·exact z (fun d hd=>hs d (by simp [hd])) (hs c (by simp) h x)
  ·first|exact Jx _|exact hs c (by simp) h x
theorem aSs {z:Nat->Prop} {c:Cl} (hc:RC c) (h: ∀j,hp c j\/hn c j->z j):uY z (oj c).1:=by
 refine jy fun d hd j hj=> ?_
 have hl: ∀ {s:Int} {x:Int},x∈Iz s-> ∃n:Nat,n<24/\s.toNat.testBit n=true/\x=n:=by
  intro s x q
  unfold Iz ints at q
  obtain ⟨n,hn,rfl⟩:=wD.1 q
  have:=sP.1 hn
  exact ⟨n,this.1,this.2,rfl⟩
 unfold jI at hd
 rcases xO.1 hd with hd|hd
 ·obtain ⟨x,q,rfl⟩:=wD.1 hd
  obtain ⟨n,h1,h2,rfl⟩:=hl q
  rcases hj with hj|hj
  ·exact absurd hj (apE n h1 j)
  ·rw [(apB n h1 j).1 hj];exact h n (.inl h2)
 ·obtain ⟨x,q,rfl⟩:=wD.1 hd
  obtain ⟨n,h1,h2,rfl⟩:=hl q
  rcases hj with hj|hj
  ·rw [(apF n h1 j).1 hj];exact h n (.inr h2)
  ·exact absurd hj (apC n h1 j)
theorem aSr {q:Nat->Prop} {f:LC} (hf:RF f) (h:uY q f):uY q (FI f).1:=
 ks (fun c hc g x=>aou x (aSs (hf.rc hc) (h c hc))) (Ia.2 fun j hj=>by rcases hj with hj|hj<;>simp [hp,hn] at hj)
theorem apz {c:Cl} {n:Nat} (q:n<24) {j:Nat} (h:hp (Fq n c) j\/hn (Fq n c) j):(hp c j\/hn c j)/\j≠n:=by
 unfold hp hn Fq at h
 rw [ao3 q,ao3 q] at h
 simp only [pX,Bool.not_eq_true',decide_eq_false_iff_not] at h
 exact h.elim (fun h=>⟨.inl h.1.1,h.2⟩) fun h=>⟨.inr h.1.1,h.2⟩
theorem u7 {fa:Bool} {x:Nat->Prop} {n:Nat} (z:n<24) {f r:LC} (I:RF r) (h:uY (fun j=>j≠n->x j) f) (h':uY x r):uY x (j1 fa f n r).1:=by
 have A: ∀c∈f,uY x [Fq n c]:=fun c hc=>Ia.2 fun j hj=>by
  obtain ⟨h1,h2⟩:=apz z hj
  exact h c hc j h1 h2
 have E:uY x (FI r).1:=aSr I h'
 unfold j1
 cases fa
 ·show uY x (iH f n r).1
  unfold iH
  split
  ·refine ks (fun c hc g B=> ?_) (Jx _)
   have hA:uY x (d_ n r c).1:=by
    unfold d_
    split
    ·exact aou (A c hc) h'
    ·exact A c hc
   have hB:uY x (MG n r c (d_ n r c).1).1:=by
    unfold MG
    split
    ·split
     ·exact aou hA E
     ·exact Jx _
    ·exact hA
   unfold dY
   split
   ·split
    ·exact J0 B hB
    ·exact Jx _
   ·exact Jx _
  ·exact Jx _
 ·show uY x (iG f n r).1
  unfold iG
  split
  ·refine ks (fun c hc g B=> ?_) (Jx _)
   have F: ∀ {q:LC×Int},uY x q.1->uY x (LX n c g q).1:=fun J=>by
    unfold LX
    split
    ·split
     ·exact J0 B (aos (aoG (A c hc) J))
     ·exact Jx _
    ·exact Jx _
   unfold ID
   split
   ·refine F ?_
    unfold sa
    split
    ·exact aos h'
    ·exact Jx _
   ·split
    ·refine F ?_
     unfold sg
     split
     ·split
      ·exact aos E
      ·exact Jx _
     ·exact Jx _
    ·exact J0 B (A c hc)
  ·exact Jx _
theorem u4 {A:Nat->Prop} {f:LC} (hf:RF f) {n:Nat} (q:n<24) (h:uY (fun x=>x≠n->A (iy n x)) f):uY A (ub n f):=by
 unfold ub
 refine jy fun c hc j hj=> ?_
 obtain ⟨d,hd,rfl⟩:=wD.1 hc
 rcases hj with hj|hj
 ·obtain ⟨x,z,he,rfl⟩:=(ma q (hf.rc hd).1 j).1 hj
  exact h d hd x (.inl z) he
 ·obtain ⟨x,z,he,rfl⟩:=(ma q (hf.rc hd).2 j).1 hj
  exact h d hd x (.inr z) he
theorem aot {A:Nat->Prop} {f:LC} (hf:RF f) {n b:Nat} (q:(tb f n b).2=0) (h:uY (fun x=>A (eU n b x)) f):uY A (tb f n b).1:=by
 unfold tb at q ⊢
 rw [if_pos hf.right] at q ⊢
 split at q
 case isFalse h1=>exact absurd q h1
 rename_i h1
 rw [if_pos h1]
 obtain ⟨B,E⟩:=apw h1
 refine jy ?_
 rw [B,zg]
 intro c hc j hj
 obtain ⟨d,hd,rfl⟩:=wD.1 hc
 obtain ⟨F,q2,I⟩:=apV (E d hd)
 rw [I] at hj
 rcases hj with hj|hj
 ·obtain ⟨x,z,rfl⟩:=(aoF (hf.rc hd).1 F j).1 hj
  exact h d hd x (.inl z)
 ·obtain ⟨x,z,rfl⟩:=(aoF (hf.rc hd).2 q2 j).1 hj
  exact h d hd x (.inr z)
theorem gv {f:LC} (hf:RF f) {d:Int}:dg f d=true↔uY (fun j=>(j:Int)<d) f:=by
 unfold dg
 rw [decide_eq_true_eq]
 have: ∀i:Nat,i∈bW (fS f)↔i<24/\ ∃c∈f,hp c i\/hn c i:=fun i=>by
  rw [sP,D7]
  unfold jJ hp hn
  simp only [pX,List.any_eq_true,Bool.or_eq_true,decide_eq_true_eq]
  exact ⟨fun h=>⟨h.1,h.2.1⟩,fun h=>⟨h.1,h.2,h.1⟩⟩
 constructor
 ·intro h c hc j hj
  exact h j ((this j).2 ⟨hj.elim (b1 (hf.rc hc)) (aoL (hf.rc hc)),c,hc,hj⟩)
 ·intro h i q
  obtain ⟨_,c,hc,hj⟩:=(this i).1 q
  exact h c hc i hj
theorem W0 {f:LC} {d e:Int} (hf:RF f) (h:dg f d=true) (q:d<=e):dg f e=true:=by
 rw [gv hf] at h ⊢
 exact RO h fun j hj=>by omega
theorem aBB {fa:Bool} {r f g:LC} {n D:Int} (hf:RF f) (O:RF r) (hn:0<=n) (T:n<=D) (hl:dg f (D+1)=true) (B:uY (fun j=>j≠0/\(j:Int)<D-n+1) r) (h:eB 0 r fa n f= .ok g):dg g D=true:=by
 obtain ⟨n,rfl⟩:=aoh hn
 rw [uz] at h
 obtain ⟨m,h1,h⟩:=i8 h
 injection h with h;subst h
 have z:=rB hf h1
 rw [Int.zero_add]
 by_cases q:n<24
 ·have E:uY (fun j=>j≠n->((j:Int)<D+1)) m/\(kk f n->m=f)/\(¬kk f n->uY (fun j=>j≠n/\(j:Int)<D+1) m):=by
   rw [gv hf] at hl
   unfold s9 at h1
   rw [Int.zero_add] at h1
   split at h1
   ·rename_i F
    obtain ⟨s,es,h1⟩:=i8 h1
    obtain ⟨M,rfl⟩:=rR es
    obtain ⟨h2,rfl⟩:=rR h1
    have I:uY (fun j=>j≠n/\(j:Int)<D+1) (tb r 0 n).1:=aot (n:=0) O M (RO B fun j hj=>by unfold eU;rw [if_neg (by omega)];omega)
    have:=u7 (fa:=fa) (f:=f) q (kQ M) (RO hl fun j hj (J:j≠n)=>⟨J,hj⟩) I
    exact ⟨RO this fun j hj _=>hj.2,fun h=>absurd h (DR.1 F).2,fun _=>this⟩
   ·rename_i F
    injection h1 with h1;subst h1
    exact ⟨RO hl fun j hj _=>hj,fun _=>rfl,fun h=>absurd (DR.2 ⟨q,h⟩) F⟩
  rw [gv (aad z.len)]
  refine u4 z q ?_
  by_cases hk:kk f n
  ·have e:=E.2.1 hk
   subst e
   refine RO E.1 fun x A L=> ?_
   have:=A L
   unfold iy;split<;>omega
  ·refine RO (E.2.2 hk) fun x A _=> ?_
   have:=A.1;have:=A.2
   unfold iy;split<;>omega
 ·rw [nT z (by omega)]
  have:m=f:=by
   unfold s9 at h1
   rw [Int.zero_add,if_neg (fun h=>q (DR.1 h).1)] at h1
   injection h1 with h1;exact h1.symm
  subst this
  rw [gv z] at hl ⊢
  refine fun c hc j hj=> ?_
  have:j<24:=hj.elim (b1 (z.rc hc)) (aoL (z.rc hc))
  omega
abbrev ScT (V D:Int) (t:Tm):Prop:=rf true V D t=true
section
variable {bd:Bool} {vb db kd:Int}
end
theorem apg {fa:Bool} {f:LC} (hf:RX fa f) {n:Int} (hn:0<=n):RX fa (ub n f):=by
 obtain ⟨n,rfl⟩:=aoh hn
 by_cases q:n<24
 ·refine ⟨aad hf.1.len,fun e c hc=> ?_⟩
  have z:c∈f.map (jU n):=by
   rw [(As (DC (j:=n) hf.1.len)).1] at hc
   exact (ta.1 hc).1
  obtain ⟨d,hd,rfl⟩:=wD.1 z
  refine Ap.2 fun j hj=> ?_
  obtain ⟨x,A,B,h1⟩:=(ma q (hf.1.rc hd).1 j).1 hj.1
  obtain ⟨y,E,F,h2⟩:=(ma q (hf.1.rc hd).2 j).1 hj.2
  have:x=y:=by unfold iy at h1 h2;split at h1<;>split at h2<;>omega
  subst this
  exact Ap.1 (hf.2 e d hd) x ⟨A,E⟩
 ·rw [nT hf.1 (by omega)];exact hf
theorem aoA {fa:Bool} {r f g:LC} {n:Int} (hf:RX fa f) (x:RF r) (hn:0<=n) (h:eB 0 r fa n f= .ok g):RX fa g:=by
 rw [uz] at h
 obtain ⟨m,h1,h⟩:=i8 h
 injection h with h;subst h
 rw [Int.zero_add]
 refine apg ?_ hn
 unfold s9 at h1
 split at h1
 ·obtain ⟨s,es,h1⟩:=i8 h1
  obtain ⟨q,rfl⟩:=rR es
  obtain ⟨h2,rfl⟩:=rR h1
  exact ap2 hf.1.2 (kQ q).2 h2
 ·injection h1 with h1;subst h1;exact hf
theorem aoo {r f g:LC} {fa:Bool} {n:Int} (hf:f.length=0) (h:eB 0 r fa n f= .ok g):g.length=0:=by
 rw [Iy.1 hf] at h
 rw [apv h];rfl
abbrev lh (bd:Bool) (r:LC) (c:Int) (x:Tm):Prop:= ∀ {n V D:Int} {t':Tm},0<=n->n<=D->D-n=c->pf x->q7 x->rf bd V (D+1) x=true->tZ (eB 0 r false) (eB 0 r true) n x= .ok t'->rf bd V D t'=true
section
variable {bd:Bool} {r:LC} {c kd:Int}
theorem aqk: ∀ {l l':LT} {i:Nat} {n V D:Int},(∀x∈l,lh bd r c x)->0<=n->n<=D->D-n=c->aZ l->dQ l->bO bd V (D+1) kd i l=true->aig (eB 0 r false) (eB 0 r true) n kd i l= .ok l'->bO bd V D kd i l'=true/\l'.length=l.length:=by
 intro l
 induction l with
 |nil=>intro l' i n V D _ _ _ _ _ _ _ h;rw [aig] at h;injection h with h;subst h;exact ⟨by rw [bO],rfl⟩
 |cons t l z=>
  intro l' i n V D h hn A hc ho q ha hl
  rw [aig] at hl
  obtain ⟨t',B,hl⟩:=i8 hl
  obtain ⟨m,E,hl⟩:=i8 hl
  injection hl with hl;subst hl
  rw [aZ] at ho
  rw [dQ] at q
  rw [bO,pX] at ha ⊢
  have:=gr kd i
  obtain ⟨F,q2⟩:=z (fun x I=>h x (by simp [I])) hn A hc ho.2 q.2 ha.2 E
  refine ⟨⟨h t (by simp) (n:=n+bJ kd i) (D:=D+bJ kd i) (by omega) (by omega) (by omega) ho.1 q.1 ?_ B,F⟩,by rw [ue,ue,q2]⟩
  rw [show D+bJ kd i+1=D+1+bJ kd i by omega];exact ha.1
theorem aql: ∀ {l l':LT} {n V D:Int},(∀x∈l,lh bd r c x)->0<=n->n<=D->D-n=c->aZ l->dQ l->ca bd V (D+1) kd l=true->xy (eB 0 r false) (eB 0 r true) n kd l= .ok l'->ca bd V D kd l'=true/\l'.length=l.length:=by
 intro l
 induction l with
 |nil=>intro l' n V D _ _ _ _ _ _ _ h;rw [xy] at h;injection h with h;subst h;exact ⟨by rw [ca],rfl⟩
 |cons t l z=>
  intro l' n V D h hn A hc ho q ha hl
  rw [xy] at hl
  obtain ⟨t',B,hl⟩:=i8 hl
  obtain ⟨m,E,hl⟩:=i8 hl
  injection hl with hl;subst hl
  rw [aZ] at ho
  rw [dQ] at q
  rw [ca,pX] at ha ⊢
  have:=KZ kd
  obtain ⟨F,q2⟩:=z (fun x I=>h x (by simp [I])) hn A hc ho.2 q.2 ha.2 E
  refine ⟨⟨h t (by simp) (n:=n+av kd) (D:=D+av kd) (by omega) (by omega) (by omega) ho.1 q.1 ?_ B,F⟩,by rw [ue,ue,q2]⟩
  rw [show D+av kd+1=D+1+av kd by omega];exact ha.1
theorem aqm (J:RF r) (E:uY (fun j=>j≠0/\(j:Int)<c+1) r): ∀ {l l':LB} {n V D:Int},(∀b∈l,∀x∈b.c,lh bd r c x)->0<=n->n<=D->D-n=c->ba l->eA l->ck bd V (D+1) kd l=true->uD (eB 0 r false) (eB 0 r true) n kd l= .ok l'->
  ck bd V D kd l'=true/\(l.length=0->l'.length=0)/\(l.all (bX kd (D+1))=true->l'.all (bX kd D)=true):=by
 intro l
 induction l with
 |nil=>intro l' n V D _ _ _ _ _ _ _ h;rw [uD] at h;injection h with h;subst h;exact ⟨by rw [ck],fun h=>h,fun _=>rfl⟩
 |cons b l W=>
  intro l' n V D h hn F hc ho z ha hl
  rw [uD] at hl
  obtain ⟨o,q,hl⟩:=i8 hl
  obtain ⟨m,Y,hl⟩:=i8 hl
  injection hl with hl;subst hl
  obtain ⟨f,ks⟩:=b
  rw [ba,Fa] at ho
  rw [eA,mZ] at z
  rw [ck,jT,pX] at ha
  obtain ⟨L,q2,M⟩:=W (fun b hb=>h b (by simp [hb])) hn F hc ho.2 z.2 ha.2 Y
  rw [Jn] at q
  obtain ⟨O,T,q⟩:=i8 q
  split at q
  ·injection q with q;subst q
   exact ⟨L,(fun h=>by cases h),fun h=>by rw [List.all_cons,pX] at h;exact M h.2⟩
  ·obtain ⟨A,e4,q⟩:=i8 q
   injection q with q;subst q
   obtain ⟨q4,q5⟩:=aql (kd:=kd) (h ⟨f,ks⟩ (by simp)) hn F hc ho.1.2 z.1.2 ha.1 e4
   refine ⟨?_,(fun h=>by cases h),fun h=> ?_⟩
   ·show ck bd V D kd (⟨O,A⟩::m)=true
    rw [ck,jT,pX];exact ⟨q4,L⟩
   ·show (Br.mk O A::m).all (bX kd D)=true
    rw [List.all_cons,pX] at h ⊢
    refine ⟨?_,M h.2⟩
    have h1:=h.1
    unfold bX at h1 ⊢
    simp only [pX,decide_eq_true_eq] at h1 ⊢
    have I:=(oB ho.1.1.1).1 h1.2.1
    have B:=aoA (fa:=true) ⟨I.1,fun _=>I.2⟩ J hn T
    exact ⟨by rw [q5];exact h1.1,zp.right ⟨B.1,B.2 rfl⟩,aBB I.1 J hn F h1.2.2 (by rw [show D-n+1=c+1 by omega];exact E) T⟩
theorem aoV (I:RF r) (E:uY (fun j=>j≠0/\(j:Int)<c+1) r) (t:Tm):lh bd r c t:=by
 induction t using gq with
 |h kd k nm O ks sys J L=>
  intro n V D t' hn M hc F q ha h
  have Y:=q
  rw [q7] at q
  rw [tZ] at h
  obtain ⟨r1,z,h⟩:=i8 h
  obtain ⟨ad,e2,h⟩:=i8 h
  obtain ⟨T,e3,h⟩:=i8 h
  injection h with h;subst h
  rw [rf] at ha ⊢
  obtain ⟨o1,o2,o3,o4,o5,o6,o7⟩:=F.node
  have x:=F
  rw [pf] at x
  simp only [pX] at ha ⊢
  obtain ⟨q1,q2,q3,q4⟩:=ha
  obtain ⟨k1,k2⟩:=aqk J hn M hc x.2.1 q.2.1 q3 e2
  obtain ⟨s1,s2,s3⟩:=aqm I E L hn M hc x.2.2 q.2.2 q4 e3
  refine ⟨?_, ?_,k1,s1⟩
  ·cases bd with
   |false=>rfl
   |true=>
    have: ¬D+1>24:=by simpa using q1
    rw [decide_eq_false (by omega)];rfl
  unfold cL at q2 ⊢
  simp only [pX,decide_eq_true_eq] at q2 ⊢
  obtain ⟨⟨a1,a2,a3,a4⟩,a5⟩:=q2
  refine ⟨⟨by rw [k2];exact a1,a2,a3,fun h=>s2 (a4 h)⟩, ?_⟩
  have B: ∀ {fa:Bool},dg O (D+1)=true->eB 0 r fa n O= .ok r1->dg r1 D=true:=fun hl he=>aBB q.1.1 I hn M hl (by rw [show D-n+1=c+1 by omega];exact E) he
  by_cases c4:kd=14
  ·subst c4
   rw [if_neg (by decide),if_neg (by decide),if_neg (by decide),if_pos rfl,pX] at a5 ⊢
   rw [if_pos rfl] at z
   have W:=(oB o4).1 a5.1
   have A:=aoA (fa:=true) ⟨W.1,fun _=>W.2⟩ I hn z
   exact ⟨zp.right ⟨A.1,A.2 rfl⟩,B a5.2 z⟩
  ·rw [if_neg c4] at z
   rw [if_neg c4] at a5 ⊢
   by_cases c1:kd=1
   ·rw [if_pos c1] at a5 ⊢
    simp only [pX,decide_eq_true_eq] at a5 ⊢
    exact ⟨aoo a5.1 z,a5.2⟩
   ·rw [if_neg c1] at a5 ⊢
    by_cases c2:kd=2
    ·rw [if_pos c2] at a5 ⊢
     simp only [pX,decide_eq_true_eq] at a5 ⊢
     exact ⟨aoo a5.1 z,a5.2⟩
    ·rw [if_neg c2] at a5 ⊢
     by_cases c3:kd=13\/kd=21\/kd=26
     ·rw [if_pos c3,pX] at a5 ⊢
      have A:=aoA (fa:=false) ⟨q.1.1,fun h=>by cases h⟩ I hn z
      exact ⟨A.1.right,B a5.2 z⟩
     ·rw [if_neg c3] at a5 ⊢
      simp only [pX,decide_eq_true_eq] at a5 ⊢
      exact ⟨s3 a5.1,aoo a5.2 z⟩
end
section
variable {vb db kd:Int}
end
variable {S:Type} {k:Nat}

end
section
theorem aoS {V D:Int} {t:Tm} (h:ScT V D t):D<=24:=by
 cases t
 unfold ScT at h
 rw [rf] at h
 simp only [Bool.true_and,pX,Bool.not_eq_true',decide_eq_false_iff_not] at h
 omega
theorem an0 (V:Int):cQ V 0=V:=by unfold cQ;split<;>omega
variable {S:Type} {k:Nat}
def MZ (t:Tm) (V D:Int):Int:=if V<0\/D<0\/D>24 then 2 else if am t>200 then 62 else if au t>20000 then 221 else if rf true V D t then 0 else 100
theorem nK {t:Tm} (q:In k t) (hk:F3 k) {V D:Int} (hV:V<9223372036854775808) (E:D<1000000) (I:Int->OS S):k2 k t V D I=I (MZ t V D):=by
 simp only [k2,ag hk.fu,ar,aY]
 unfold MZ
 by_cases h1:V<0
 ·rw [if_pos h1,if_pos (.inl h1)]
 rw [if_neg h1]
 by_cases h2:D<0
 ·rw [if_pos h2,if_pos (.inr (.inl h2))]
 rw [if_neg h2]
 by_cases A:D>24
 ·rw [if_pos A,if_pos (.inr (.inr A))]
 have B:=q.dep
 rw [if_neg A,if_neg (by omega),ajZ q.1 q.2.1]
 by_cases x:am t>200
 ·rw [if_pos x,if_pos x];rfl
 rw [if_neg x,if_neg x]
 by_cases z:au t>20000
 ·rw [if_pos z,if_pos z];rfl
 rw [if_neg z,if_neg z,show (!((0:Int)==0))=false from rfl,n3,aC5 t q.1 _ q.2.1 ⟨by omega,by omega,by omega,by omega⟩]
 cases rf true V D t<;>rfl
theorem aoN {t:Tm} {V D:Int} (h:MZ t V D=0):0<=V/\0<=D/\ScT V D t:=by
 unfold MZ at h
 split at h
 ·cases h
 split at h
 ·cases h
 split at h
 ·cases h
 split at h
 ·exact ⟨by omega,by omega,by assumption⟩
 ·cases h
theorem BI {l:LT} {x:Except Int Tm} {t:Tm} (h:c6 l x= .ok t):xv l=0/\bw t=0/\x= .ok t:=by
 unfold c6 at h
 split at h
 case isFalse=>cases h
 rename_i h1
 unfold FC at h
 obtain ⟨t',q,h⟩:=i8 h
 split at h
 case isFalse=>cases h
 rename_i z
 injection h with h;subst h
 exact ⟨h1,z,q⟩
theorem R3 {l:LT} {x:Except Int Tm} {e:Int} (z: ∀e,x= .error e->e≠0) (h:c6 l x= .error e):e≠0:=by
 unfold c6 at h
 split at h
 ·unfold FC at h
  rcases be h with h|⟨t,_,h⟩
  ·exact z e h
  ·split at h
   ·cases h
   ·rename_i q;injection h with h;exact h▸q
 ·rename_i q;injection h with h;exact h▸q
theorem aET {line a:Tm} {nX r:LC} {en:Cl} {e:Int} (h:FG line nX a en r= .error e):e≠0:=by
 unfold FG at h
 split at h
 ·split at h
  ·unfold FC at h
   rcases be h with h|⟨t,_,h⟩
   ·have:=aES h;omega
   ·split at h
    ·cases h
    ·rename_i q;injection h with h;exact h▸q
  ·injection h with h;omega
 ·rename_i q;injection h with h;exact h▸q
def ut {α:Type} (x:Except Int α):Int:=match x with
 | .ok _=>0
 | .error e=>e
theorem NG {t:Tm} {n:Int} (hn:n=(t.c.length:Int)-1):List.drop (zm 1) (List.take (zm n) t.c)=ya t:=by
 have:zm n=t.c.length-1:=by omega
 rw [this];rfl
theorem aJ9 (t:Tm):(ya t).length<=t.c.length:=by unfold ya;rw [List.length_drop,List.length_take];omega
theorem zt {t x:Tm} (h:x∈ya t):x∈t.c:=List.mem_of_mem_take (List.mem_of_mem_drop h)
theorem By (hk:F3 k) {t p a:Tm} {c n:Int} (hn:n=(t.c.length:Int)-1) (h1:2<=t.c.length) (hl:t.c.length<1073741000) (I:Int×Int×BA×LT×Int->OS S):
  nc k p 0 a t n c I=I (t.k,0,oW,p::ya t++[a],c):=by
 have q:4294968296<=k:=hk
 have x:=aJ9 t
 have:=aeM I hk (c0:=t) (a:=a) (e:=c) (NG hn) (by omega) (ya t) [] [p] k rfl (by omega) (by simp;omega)
 simp only [nc,BP,ar]
 rw [fN _ (by omega)]
 exact this
theorem Rm (hk:F3 k) {t p a:Tm} {c n:Int} (ft:Fm t) (hn:n=(t.c.length:Int)-1) (h1:2<=t.c.length) (I:Int×Int×BA×LT×Int->OS S):
  ∃l,nc k p 1 a t n c I=I (t.k,0,oW,p::l++[a],ut (DQ c (FJ (ya t))))/\ ∀l',DQ c (FJ (ya t))= .ok l'->l=l':=by
 have q:4294968296<=k:=hk
 have z:=aJ9 t
 have A:=ft.ok.no.2.2.2.2.2.1
 have B:t.c.length<=20000:=by
  have h:=ft.dP
  have B:=rM t
  have: ∀l:LT,l.length<=ay l:=by
   intro l
   induction l with
   |nil=>simp
   |cons x l J=>rw [ay,ue];have:=mB x;omega
  have:=this t.c
  omega
 obtain ⟨l,h2,E⟩:=aeN I hk (c0:=t) (a:=a) (NG hn) (by omega) (fun y F=>ft.bV (zt F)) (ya t) [] [p] k c rfl (by omega) (by simp;omega)
 refine ⟨l, ?_,E⟩
 simp only [nc,BP,ar]
 rw [fN _ (by omega)]
 refine h2.trans ?_
 unfold ut
 cases DQ c (FJ (ya t))<;>rfl
theorem aBz (hk:F3 k) (I:Tm×Bool×Int->OS S) {r9 An:Tm×Int} {r13:Int×Int×BA×LT×Int} {t x:Tm} (ft:Fm t) (h1:2<=t.c.length) (E: ∀b∈x.s,b.c=[AK b]) (F:x.s.length<=20000) {c:Int} (hc:c≠0):
  ∀ (r p acc:LB) (m:Nat),x.s=p++r->r.length<m->acc.length+r.length<=20000->fX k I t r9 An r13 t x m c acc (p.length:Int)=I (oe,false,c):=by
 have J:4294968296<=k:=hk
 have L:oa .i64 ((t.c.length:Int)-1)=(t.c.length:Int)-1:=vc (by omega) (by have:=ft.ok.no.2.2.2.2.2.1;omega)
 intro r
 induction r with
 |nil=>
  intro p acc m h B ha
  obtain ⟨m,rfl,z⟩:=pw B
  simp only [fX,oR,xu h,n3,ag hk.fu,ar]
  rw [Rx hk (fun h=>absurd h hc) (fun e h=>R3 (fun e h=>by have:=o_ h;omega) h),n9 hc,Ry hk (gQ hk)]
  exact JF hc I
 |cons b r M=>
  intro p acc m h B ha
  obtain ⟨m,rfl,z⟩:=pw B
  obtain ⟨O,T,W,Y⟩:=qF h (by omega)
  have hg:af b.c 0=some (AK b):=ED (n:=0) rfl (by rw [E b (by rw [h];simp)];rfl)
  rw [ue] at ha
  simp only [fX,oR,O,ae,T,p9,hg,ag hk.fu,ar,L,W]
  obtain ⟨l,h2,_⟩:=Rm (p:=r9.1) (a:=AK b) (c:=c) hk ft rfl h1 fun q=>wi k b.f [(Tm.mk q.1 q.2.1 q.2.2.1 [] q.2.2.2.1 [])] fun A=>nW (aw 1099511627776 acc.length [A].length) fun ad=>fX k I t r9 An r13 t x m q.2.2.2.2 (acc++[A]) (((p++[b]).length:Nat):Int)
  refine h2.trans ?_
  rw [lb hc]
  simp only [wi,ut]
  rw [J5 (by simp;omega)]
  exact M (p++[b]) _ m Y z (by rw [H4,List.length_singleton];omega)
theorem I_: ∀ {l l':LT},(∀y∈l,Fm y)->FJ l= .ok l'->(∀y∈l',Fm y)/\l'.length=l.length:=by
 intro l
 induction l with
 |nil=>intro l' _ h;rw [FJ] at h;injection h with h;subst h;exact ⟨fun y q=>(by cases q),rfl⟩
 |cons x l A=>
  intro l' hf h
  rw [FJ] at h
  obtain ⟨y,h1,h⟩:=i8 h
  obtain ⟨m,h2,h⟩:=i8 h
  injection h with h;subst h
  obtain ⟨i1,i2⟩:=A (fun y q=>hf y (by simp [q])) h2
  have fy:=mD (by omega) (hf x (by simp)) h1
  refine ⟨fun z hz=> ?_,by simp [i2]⟩
  rcases xB.1 hz with rfl|hz
  ·exact fy
  ·exact i1 z hz
theorem aka {n:Nat}: ∀ {l:LT},(∀x∈l,au x<=n)->ay l<=l.length*n:=by
 intro l
 induction l with
 |nil=>intro _;rw [ay];simp
 |cons x l q=>
  intro h
  rw [ay,ue,Nat.succ_mul]
  have:=q fun y z=>h y (by simp [z])
  have:=h x (by simp)
  omega
theorem aag {n:Nat}: ∀ {l:LT},(∀x∈l,am x<=n)->aH l<=n:=by
 intro l
 induction l with
 |nil=>intro _;rw [aH];omega
 |cons x l q=>intro h;rw [aH];have:=q fun y z=>h y (by simp [z]);have:=h x (by simp);omega
theorem pO {kd:Int} (z:kd=22\/kd=27) {p a:Tm} {l:LT} (fp:Fm p) (fa:Fm a) (fl: ∀y∈l,Fm y) (hl:l.length<=3):Sm 100001 (ig kd p l a)/\am (ig kd p l a)<=201:=by
 have q: ∀x∈p::l++[a],Fm x:=fun x hx=>by
  rcases xO.1 hx with hx|hx
  ·rcases xB.1 hx with rfl|hx
   ·exact fp
   ·exact fl x hx
  ·rw [List.mem_singleton] at hx;subst hx;exact fa
 have hlen:(p::l++[a]).length<=5:=by simp;omega
 have A:ay (p::l++[a])<=100000:=bu (aka fun x hx=>(q x hx).dP) (bu (HV _ hlen) (by omega))
 have hd:aH (p::l++[a])<=200:=aag fun x hx=>(q x hx).dep
 refine ⟨(Hn (kd:=kd) (by omega) (r:=[]) ⟨(fun c hc=>by cases hc),by simp⟩ (ks:=p::l++[a]) (sys:=[]) (n:=100000) (m:=0) (fun x hx=>⟨(q x hx).ok,by have:=(q x hx).dep;omega⟩) (by omega) A (by rw [ba];trivial) (by simp) (by rw [aO];omega) (by rw [aI];omega)).mono (by omega), ?_⟩
 rw [am,aO];omega
theorem Jb (hk:F3 k) {n:Nat} (hn:n<=50000000) {l:LB} (h:KK n l) (hl:l.length<=20000) (hd:aO l<=299):In k (J4 l):=by
 have z:aI l<=1000000000000:=bu h.dP (bu (Nat.mul_le_mul hl hn) (by omega))
 have hs:au oe<=1:=by unfold oe;rw [au,ay,aI];omega
 have A:am oe<=1:=by unfold oe;rw [am,aH,aO];omega
 refine (show Sm (10+1000000000000+1) (J4 l) from ?_).isIn hk (by omega)
 unfold J4
 exact Hn (kd:=15) (by omega) (r:=[]) ⟨(fun c hc=>by cases hc),by simp⟩ (fun x q=>by
  simp at q
  subst q
  refine ⟨?_, ?_⟩
  ·rw [pf,aZ,ba];exact ⟨⟨by unfold aG;omega,by unfold aG;omega,by decide,(fun c hc=>by cases hc),by simp,by simp,by simp⟩,trivial,trivial⟩
  ·rw [am,aH,aO];omega) (by simp) (by rw [ay,ay,ay,au,ay,aI];simp) h.ok (by omega) hd z
theorem Jc (hk:F3 k) {x:Tm} (fx:Fm x):In k (J4 x.s):=by
 obtain ⟨A,B,E,F,I,J,L⟩:=fx.ok.no
 have hs:ba x.s:=by have:=fx.ok;cases x;rw [pf] at this;exact this.2.2
 have hd:aO x.s<=299:=by have:=fx.dep;cases x;rw [am] at this;show aO _<=299;simp only [Tm.s];omega
 have z:aI x.s<=20000:=by have:=fx.dP;cases x;rw [au] at this;show aI _<=20000;simp only [Tm.s];omega
 unfold J4
 exact (Hn (kd:=15) (by omega) (r:=[]) ⟨(fun c hc=>by cases hc),by simp⟩ (n:=10) (fun y q=>by
  simp at q
  subst q
  refine ⟨?_, ?_⟩
  ·rw [pf,aZ,ba];exact ⟨⟨by unfold aG;omega,by unfold aG;omega,by decide,(fun c hc=>by cases hc),by simp,by simp,by simp⟩,trivial,trivial⟩
  ·rw [am,aH,aO];omega) (by simp) (by rw [ay,ay,ay,au,ay,aI];simp) hs (by omega) hd z).isIn hk (by omega)
theorem BJ {l:LT} {x:Except Int Tm} {e:Int} (q: ∀e,x= .error e->0<e/\e<=1000) (h:c6 l x= .error e):e≠0:=R3 (fun e h=>by have:=q e h;omega) h
theorem wg {a b c:Tm} (ha:pf a) (hb:pf b) (hc:pf c) (h:xv [a,b,c]=0):Fm a/\Fm b/\Fm c:=by
 have:=Sq (l:=[a,b,c]) (fun x q=>by
  simp at q
  rcases q with rfl|rfl|rfl
  ·exact ha
  ·exact hb
  ·exact hc) h
 exact ⟨this a (by simp),this b (by simp),this c (by simp)⟩
theorem aeY (hk:F3 k) (I:Tm×Bool×Int->OS S) {r9 An:Tm×Int} {r13:Int×Int×BA×LT×Int} {t x:Tm} (ft:Fm t) (J:t.k=22\/t.k=27) (h1:2<=t.c.length/\t.c.length<=5) (fb:Fm r9.1) (hx: ∀b∈x.s,b.c=[AK b]/\Fm (AK b)/\RX true b.f) (L:x.s.length<=20000)
  (hl:In k An.1) (ha:In k (.mk r13.1 r13.2.1 r13.2.2.1 [] r13.2.2.2.1 [])):
  ∀ (r p acc:LB) (m:Nat),x.s=p++r->r.length<m->KK 110000 acc->aO acc<=299->acc.length+r.length<=20000->
   fX k I t r9 An r13 t x m 0 acc (p.length:Int)=I (FA (bE (M4 t.k r9.1 (ya t) r) fun l=>c6 [An.1,.mk r13.1 r13.2.1 r13.2.2.1 [] r13.2.2.2.1 [],J4 (acc++l)] (dF An.1 (.mk r13.1 r13.2.1 r13.2.2.1 [] r13.2.2.2.1 []) (acc++l)))):=by
 have ax:4294968296<=k:=hk
 have hw:oa .i64 ((t.c.length:Int)-1)=(t.c.length:Int)-1:=vc (by omega) (by omega)
 intro r
 induction r with
 |nil=>
  intro p acc m h M hb hd q
  obtain ⟨m,rfl,B⟩:=pw M
  have A:=Jb hk (by omega) hb (by simpa using q) hd
  simp only [fX,oR,xu h,n3,ag hk.fu,ar]
  rw [Rx hk (fun _=>⟨hl,ha,A⟩) (fun e h=>BJ (fun e h=>o_ h) h),kR,M4,aD,xG]
  have O:=akc hk (l:=[An.1,.mk r13.1 r13.2.1 r13.2.2.1 [] r13.2.2.2.1 [],J4 acc]) (x:=dF An.1 (.mk r13.1 r13.2.1 r13.2.2.1 [] r13.2.2.2.1 []) acc) fun T y W=>by
   obtain ⟨f1,f2,f3⟩:=wg hl.1 ha.1 A.1 T
   exact (yu hk f1 f2 (iQ f3) W).1
  rw [Ry hk O]
  cases E:c6 [An.1,.mk r13.1 r13.2.1 r13.2.2.1 [] r13.2.2.2.1 [],J4 acc] (dF An.1 (.mk r13.1 r13.2.1 r13.2.2.1 [] r13.2.2.2.1 []) acc) with
  |error e=>exact JF (BJ (fun e h=>o_ h) E) I
  |ok y=>exact s7 I
 |cons b r ih=>
  intro p acc m h M hb hd q
  obtain ⟨m,rfl,B⟩:=pw M
  obtain ⟨e1,e2,e3,e4⟩:=qF h (by omega)
  obtain ⟨Y,ad,ao⟩:=hx b (by rw [h];simp)
  have hg:af b.c 0=some (AK b):=ED (n:=0) rfl (by rw [Y];rfl)
  rw [ue] at q
  simp only [fX,oR,e1,ae,e2,p9,hg,ag hk.fu,ar,hw,e3]
  obtain ⟨l,h2,h3⟩:=Rm (p:=r9.1) (a:=AK b) (c:=0) hk ft rfl h1.1 fun z=>wi k b.f [(Tm.mk z.1 z.2.1 z.2.2.1 [] z.2.2.2.1 [])] fun F=>nW (aw 1099511627776 acc.length [F].length) fun az=>fX k I t r9 An r13 t x m z.2.2.2.2 (acc++[F]) (((p++[b]).length:Nat):Int)
  refine h2.trans ?_
  rw [oH] at h3 ⊢
  simp only [wi]
  rw [J5 (by simp;omega),M4]
  cases E:FJ (ya t) with
  |error e=>
   have he:=Ue E
   rw [lk,lk,show ut (.error e:Except Int (LT))=e from rfl]
   exact aBz hk I ft h1.1 (fun b hb=>(hx b hb).1) L (by omega) r (p++[b]) _ m e4 B (by rw [H4,List.length_singleton];omega)
  |ok ms=>
   have hle:=h3 ms E
   subst hle
   obtain ⟨fm,a6⟩:=I_ (fun y W=>ft.bV (zt W)) E
   have a7:(ya t).length<=3:=by unfold ya;rw [List.length_drop,List.length_take];omega
   obtain ⟨q1,q2⟩:=pO J fb ad fm (by omega)
   rw [aD,show ut (.ok l:Except Int (LT))=0 from rfl]
   refine (ih (p++[b]) (acc++[⟨b.f,[ig t.k r9.1 l (AK b)]⟩]) m e4 B (Ju hb (G9 ao) (q1.mono (by omega))) (by rw [zF,aO,Ey,aH,aH,aO];omega) (by rw [H4,List.length_singleton];omega)).trans ?_
   congr 2
   cases M4 t.k r9.1 (ya t) r with
   |error e=>rfl
   |ok l'=>rw [aD,aD,aD,List.append_assoc];rfl
theorem KP {l:LT} (h:1<=l.length):af l 0=some (l.getD 0 oe):=by
 cases l with
 |nil=>simp at h
 |cons a l=>rfl
theorem nw {t:Tm} (h:2<=t.c.length):af t.c ((t.c.length:Int)-1)=some (xQ t)/\xQ t∈t.c:=by
 have e:((t.c.length:Int)-1)=((t.c.length-1:Nat):Int):=by omega
 have hl:t.c.length-1<t.c.length:=by omega
 have h2:t.c[t.c.length-1]? =some (t.c[t.c.length-1]):=zk hl
 have q:xQ t=t.c[t.c.length-1]:=by unfold xQ;rw [List.getD_eq_getElem?_getD,h2];rfl
 rw [e,pU,q]
 exact ⟨h2,List.getElem_mem hl⟩
theorem aeX (x:F4 k) {t:Tm} (ft:Fm t) (B:t.k=22\/t.k=27) (E:(xQ t).k=15) (I:Tm×Bool×Int->OS S):l6 k I t k=I (FA (RP t.k (t.c.getD 0 oe) (ya t) (xQ t))):=by
 have hk:=x.f3
 have ao:4294968296<=k:=hk
 have hlen:2<=t.c.length/\t.c.length<=5:=by
  have:=ft.nk
  rcases B with h|h<;>rw [h] at this
  ·have e:ct 22=4:=rfl
   omega
  ·have e:ct 27=5:=rfl
   omega
 obtain ⟨gl,ml⟩:=nw hlen.1
 have fx:=ft.bV ml
 obtain ⟨u,a,z⟩:=I8 (E5 fx E (n:=2) rfl)
 obtain ⟨J,L⟩:=KQ z
 obtain ⟨M,O⟩:=EC z
 have fu:Fm u:=fx.bV (by rw [z];simp)
 have fa:Fm a:=fx.bV (by rw [z];simp)
 obtain ⟨sy,A⟩:=fx.sy E
 have g0:=KP (show 1<=t.c.length by omega)
 have fp:Fm (t.c.getD 0 oe):=ft.bV (by
  match h:t.c,hlen.1 with
  |a::l,_=>simp)
 have hw:oa .i64 ((t.c.length:Int)-1)=(t.c.length:Int)-1:=vc (by omega) (by omega)
 have F:=Jc hk fx
 have hC: ∀ {c:Int} (hc:c≠0) (r9 An:Tm×Int) (r13:Int×Int×BA×LT×Int),fX k I t r9 An r13 t (xQ t) k c [] 0=I (oe,false,c):=fun hc r9 An r13=>aBz hk I ft hlen.1 (fun b hb=>(sy b hb).1) A hc (xQ t).s [] [] k rfl (by omega) (by simpa using A)
 obtain ⟨q,hq⟩: ∃q,k=q+1:=⟨k-1,by omega⟩
 have main: ∀j,j=q+1->l6 k I t j=I (FA (RP t.k (t.c.getD 0 oe) (ya t) (xQ t))):=by
  rintro j rfl
  simp only [l6,w_,ag hk.fu,ar,hw]
  rw [vU t ft.1 _ (ft.isIn hk).2.1]
  simp only [gl,p9,J,L,g0]
  rw [ajm hk (fun _=>⟨fu.isIn hk,fa.isIn hk,F⟩) (fun e h=>BJ (fun e h=>uw h) h),kR]
  unfold RP
  rw [M,O]
  cases hf:c6 [u,a,J4 (xQ t).s] (FB u a (xQ t).s) with
  |error e=>
   have he:=BJ (fun e h=>uw h) hf
   rw [show (tE (.error e)).2=e from rfl,Rv hk (fun h=>absurd h he),n9 he]
   rw [Hf x (fun h=>absurd h he),n9 he,By hk rfl hlen.1 (by omega)]
   exact hC he _ _ _
  |ok f=>
   obtain ⟨so,ff,T⟩:=BI hf
   have W:Fm f:=⟨(ux hk fu fa (iQ (wg fu.ok fa.ok F.1 so).2.2) T).1.1,ff⟩
   rw [show (tE (.ok f)).2=0 from rfl,show (tE (.ok f)).1=f from rfl,Rv hk (fun _=>fp),kR,aD]
   cases hb:J6 0 1 (t.c.getD 0 oe) with
   |error e=>
    have he:e≠0:=by have:=xJ hb;omega
    rw [show (tE (.error e)).2=e from rfl,Hf x (fun h=>absurd h he),n9 he,By hk rfl hlen.1 (by omega)]
    exact hC he _ _ _
   |ok b=>
    have fb:=mD (by omega) fp hb
    have Y:ri 0 b f=K7 0 b f:=by unfold ri sh;rw [if_pos fb.2,if_pos W.2]
    rw [show (tE (.ok b)).2=0 from rfl,show (tE (.ok b)).1=b from rfl,Hf x (fun _=>⟨fb.isIn hk,W.isIn hk⟩),kR,aD,Y]
    cases hp:K7 0 b f with
    |error e=>
     have he:e≠0:=by have:=AL hp;omega
     rw [show (tE (.error e)).2=e from rfl,By hk rfl hlen.1 (by omega)]
     exact hC he _ _ _
    |ok line=>
     have fl:=CP (by omega) fb W hp
     rw [show (tE (.ok line)).2=0 from rfl,By hk rfl hlen.1 (by omega),aD]
     have fm: ∀y∈ya t,Fm y:=fun y hy=>ft.bV (zt hy)
     have ad:(ya t).length<=3:=by unfold ya;rw [List.length_drop,List.length_take];omega
     obtain ⟨q1,q2⟩:=pO B fp fa fm ad
     exact aeY hk I (r9:=(b,0)) (An:=(line,0)) (r13:=(t.k,0,oW,t.c.getD 0 oe::ya t++[a],0)) ft B hlen fb sy A (fl.isIn hk) (q1.isIn hk (by omega)) (xQ t).s [] [] k rfl (by omega) (Dp _) (by rw [aO];omega) (by simpa using A)
 exact main k hq
theorem ajh (B:F4 k) {t:Tm} (E:In k t) (I:Tm×Bool×Int->OS S):tL k t I=I (pP t):=by
 have hk:=B.f3
 simp only [tL,HU,ag hk.fu,ar,zy E.1 E.2.1 E.dep]
 unfold pP
 by_cases F:bw t=0
 case neg=>rw [dj F,sQ,ae,if_pos F];rfl
 rw [F,show (!((0:Int)==0))=false from rfl,n3,if_neg (by simp)]
 have ft:Fm t:=⟨E.1,F⟩
 have hlen:(t.k=22\/t.k=27)->2<=t.c.length:=fun h=>by
  have:=ft.nk
  rcases h with h|h<;>rw [h] at this
  ·have e:ct 22=4:=rfl
   omega
  ·have e:ct 27=5:=rfl
   omega
 have J:oa .i64 ((t.c.length:Int)-1)=(t.c.length:Int)-1:=vc (by omega) (by have:=ft.ok.no.2.2.2.2.2.1;omega)
 have main:(t.k=22\/t.k=27)-> ∀g:Tm->OS S,g (xQ t)=ab (!((xQ t).k==15)) (I (oe,false,0)) (l6 k I t k)->g (xQ t)=I (if (t.k=22\/t.k=27)/\(xQ t).k=15 then FA (RP t.k (t.c.getD 0 oe) (ya t) (xQ t)) else (oe,false,0)):=fun h g L=>by
  rw [L]
  by_cases q:(xQ t).k=15
  case neg=>rw [beq_false_of_ne q,sQ,ae,if_neg (fun h=>q h.2)]
  rw [if_pos ⟨h,q⟩,q,show (!((15:Int)==15))=false from rfl,n3]
  exact aeX B ft h q I
 by_cases z:t.k=22
 ·rw [show (!(t.k==22))=false from by simpa using z,n3,J,(nw (hlen (.inl z))).1,p9]
  exact main (.inl z) (fun x=>ab (!(x.k==15)) (I (oe,false,0)) (l6 k I t k)) rfl
 rw [show (!(t.k==22))=true from by simpa using z,ae]
 by_cases A:t.k=27
 case neg=>rw [show (!(t.k==27))=true from by simpa using A,ae,if_neg (fun h=>by omega)];rfl
 rw [show (!(t.k==27))=false from by simpa using A,n3,J,(nw (hlen (.inr A))).1,p9]
 exact main (.inr A) (fun x=>ab (!(x.k==15)) (I (oe,false,0)) (l6 k I t k)) rfl
theorem BH {l:LT} {x:Except Int Tm} {e:Int} (z: ∀e,x= .error e->0<e/\e<=1000) (h:c6 l x= .error e):0<e/\e<=1000:=by
 unfold c6 at h
 have hs:=aki l
 split at h
 ·unfold FC at h
  rcases be h with h|⟨t,_,h⟩
  ·exact z e h
  ·have:=Et t
   split at h
   ·cases h
   ·rename_i q;injection h with h;subst h;omega
 ·rename_i q;injection h with h;subst h;omega
def k1 (b:Br Tm):Tm:=b.c.getD 1 oe
theorem Fm.gl {t:Tm} (h:Fm t) (hk:t.k=16):(∀b∈t.s,b.c=[AK b,k1 b]/\Fm (AK b)/\Fm (k1 b)/\RX true b.f)/\t.s.length<=20000/\ ∃a,t.c=[a]/\Fm a:=by
 have ho:=h.own
 have q: ∀b∈t.s,b.c.length=2:=fun b hb=>by
  obtain ⟨kd,n,nm,r,x,sys⟩:=t
  have hk:kd=16:=hk
  subst hk
  have ho:(_&&(sys.all (bX 16 24)&&_))=true:=ho
  simp only [pX] at ho
  have:=xm.1 ho.2.1 b hb
  grind [bX,xU]
 refine ⟨fun b hb=> ?_, ?_, ?_⟩
 ·have hl:=q b hb
  obtain ⟨f,x⟩:=b
  match x,hl with
  |[a,c],_=>exact ⟨rfl,h.brk hb (by simp [AK]),h.brk hb (by simp [k1]),h.f hb⟩
 ·have h1:=h.dP
  have h2:=Hl t
  have: ∀ {l:LB},(∀b∈l,b.c.length=2)->l.length<=aI l:=by
   intro l
   induction l with
   |nil=>simp
   |cons b l z=>
    intro hl
    have:=z fun b hb=>hl b (by simp [hb])
    have hb:=hl b (by simp)
    obtain ⟨f,x⟩:=b
    match x,hb with
    |a::x,_=>grind [aI,Fs,ay,mB]
  grind
 ·have hn:=h.nk
  rw [hk] at hn
  have e:ct 16=1:=rfl
  obtain ⟨a,ha⟩:=jH (t:=t) (by omega)
  exact ⟨a,ha,h.bV (by grind)⟩
def eh (g:Tm):LB:=g.s.map fun x=>⟨x.f,[k1 x]⟩
abbrev Di (a:Tm) (es:LB):Tm:= .mk 18 0 oW [] [a] es
abbrev zo:Tm:= .mk 3 0 oW [] [] []
abbrev awc (u:Tm) (ks:LT):Tm:= .mk u.k u.n u.name u.r ks u.s
def fi (es:LB):LB->Except Int (LB)
 |[]=> .ok []
 |x::l=>bE (J6 0 1 (Di zo es)) fun u=>bE (fi es l) fun q=> .ok (⟨x.f,[awc u [AK x]]⟩::q)
def fW (b:Tm) (sys:LB):LB->Except Int (LB)
 |[]=> .ok []
 |x::l=>bE (J6 0 1 (k1 x)) fun f=>bE (c6 [AK x,b,J4 sys] (FB (AK x) b sys)) fun w=>bE (fW b sys l) fun q=> .ok (⟨x.f,[dS 6 [dS 9 [f],w]]⟩::q)
def sG (b:Tm) (sys:LB) (l:LB):LB:=l.map fun x=>⟨x.f,[.mk 15 0 oW [] [AK x,b] sys]⟩
def iw (g b:Tm) (sys q x:LB):Tm:= .mk 17 0 oW [] [.mk 15 0 oW [] [g.c.getD 0 oe,Di b (eh g)] (q++x)] (sG b sys g.s)
def y0 (t:Tm):Except Int Tm:=
 bE (fi (eh (t.c.getD 0 oe)) t.s) fun q=>bE (fW (t.c.getD 1 oe) t.s (t.c.getD 0 oe).s) fun x=> .ok (iw (t.c.getD 0 oe) (t.c.getD 1 oe) t.s q x)
def ox (t:Tm):Tm×Bool×Int:=
 if bw t≠0 then (oe,false,bw t) else
 if t.k=15/\(t.c.getD 0 oe).k=16 then FA (y0 t) else (oe,false,0)
theorem aGa {es:LB}: ∀ {l:LB} {e:Int},fi es l= .error e->0<e/\e<=1000:=by
 intro l
 induction l<;>grind [fi,be,xJ]
theorem aGc {b:Tm} {sys:LB}: ∀ {l:LB} {e:Int},fW b sys l= .error e->0<e/\e<=1000:=by
 intro l
 induction l<;>grind [fW,be,xJ,BH,uw]
def sk (n:Nat) (l:LB):Prop:= ∀x∈l,∃t,x.c=[t]/\Sm n t/\am t<=299/\aq x.f/\x.f.length<1073741824
theorem Mc (n:Nat):sk n []:=fun x q=>by cases q
theorem My {n:Nat} {l:LB} {f:LC} {t:Tm} (hf:aq f/\f.length<1073741824) (q:Sm n t) (hd:am t<=299) (h:sk n l):sk n (⟨f,[t]⟩::l):=fun x hx=>by
 rcases xB.1 hx with rfl|hx
 ·grind
 ·exact h x hx
theorem SK {n:Nat} {a b:LB} (ha:sk n a) (hb:sk n b):sk n (a++b):=fun x q=>(xO.1 q).elim (ha x) (hb x)
def FN (x:Tm):Prop:=Fm x\/x=oe
theorem FN.sm {x:Tm} (h:FN x):Sm 20000 x/\am x<=200:=by
 rcases h with h|rfl
 ·exact ⟨h.sm,h.dep⟩
 grind [f',oe,am,aH,aO]
theorem Bw {c:Int} {x:Except Int Tm} (h: ∀t,x= .ok t->Fm t):FN (mM c x).1:=by
 unfold mM
 split
 ·cases x with
  |error e=>exact .inr rfl
  |ok t=>exact .inl (h t rfl)
 ·exact .inr rfl
theorem r6 {u a:Tm} (hu:FN u) (ha:Fm a):Sm 50000 (awc u [a])/\am (awc u [a])<=299:=by
 obtain ⟨h1,h2⟩:=hu.sm
 obtain ⟨q,x,z,A,B,F,E⟩:=h1.ok.no
 have hs:ba u.s:=by have:=h1.ok;cases u;rw [pf] at this;exact this.2.2
 have hd:aO u.s+1<=am u:=by cases u<;>grind [am,Tm.s]
 have I:aI u.s+1<=au u:=by cases u<;>grind [au,Tm.s]
 have:=h1.dP;have:=ha.dP;have:=ha.dep
 refine ⟨⟨?_, ?_, ?_⟩, ?_⟩
 ·rw [pf,aZ,aZ];exact ⟨⟨q,x,z,A,B,by simp,E⟩,⟨ha.ok,trivial⟩,hs⟩
 all_goals grind [au,ay,am,aH]
theorem Mz {kd:Int} (z:0<=kd/\kd<=28) {n:Nat} {ks:LT} (h: ∀x∈ks,Sm n x/\am x<=290) (hl:ks.length<=4):Sm (4*n+1) (dS kd ks)/\am (dS kd ks)<=291:=by
 have hd:aH ks<=290:=aag fun x q=>(h x q).2
 have A:ay ks<=4*n:=bu (aka fun x q=>(h x q).1.dP) (HV _ hl)
 unfold dS
 refine ⟨(Hn (kd:=kd) z (r:=[]) ⟨(fun c hc=>by cases hc),by simp⟩ (ks:=ks) (sys:=[]) (n:=4*n) (m:=0) (fun x q=>⟨(h x q).1.ok,by grind⟩) (by omega) A (by rw [ba];trivial) (by simp) (by rw [aO];omega) (by rw [aI];omega)).mono (by omega), ?_⟩
 rw [am,aO];omega
theorem zv {n:Nat} {l:LB} (h:sk n l):KK n l/\aO l<=299:=by
 induction l with
 |nil=>grind [Dp,aO]
 |cons x l q=>
  obtain ⟨i1,i2⟩:=q fun x z=>h x (by simp [z])
  obtain ⟨t,e,h1,h2,A,B⟩:=h x (by simp)
  obtain ⟨f,E⟩:=x
  have e:E=[t]:=e
  subst e
  refine ⟨?_, ?_⟩
  ·refine ⟨?_, ?_, ?_⟩
   ·rw [ba,Fa,aZ,aZ];exact ⟨⟨⟨A,B,by simp⟩,h1.ok,trivial⟩,i1.ok⟩
   ·rw [aI,Fs,ay,ay,ue,Nat.succ_mul];have:=i1.dP;have:=h1.dP;omega
   grind [aO,Ey,aH]
  grind [aO,Ey,aH]
theorem hx {g:Tm} (F:Fm g) (I:g.k=16):ba (eh g)/\aO (eh g)<=aO g.s/\aI (eh g)<=aI g.s/\(eh g).length=g.s.length/\ck false (-1) 24 18 (eh g)=true/\(eh g).all (bX 18 24)=true:=by
 obtain ⟨z,hl,_⟩:=F.gl I
 unfold eh
 generalize g.s=l at z
 clear hl
 induction l with
 |nil=>grind [ba,ck]
 |cons x l J=>
  obtain ⟨i1,i2,i3,i4,i5,i6⟩:=J fun b hb=>z b (by simp [hb])
  obtain ⟨B,q2,E,q⟩:=z x (by simp)
  obtain ⟨f,A⟩:=x
  have B:A=[AK ⟨f,A⟩,k1 ⟨f,A⟩]:=B
  have r1:=G9 q
  rw [Fy]
  refine ⟨?_, ?_, ?_,by simp, ?_, ?_⟩
  ·rw [ba,Fa,aZ,aZ];exact ⟨⟨⟨r1.1,r1.2,by simp⟩,E.ok,trivial⟩,i1⟩
  ·grind [aO,Ey,aH]
  ·grind [aI,Fs,ay]
  ·rw [ck,jT,ca,ca,Bool.and_true,pX]
   exact ⟨(Ie E.2).2.2,i5⟩
  ·rw [List.all_cons,pX]
   refine ⟨?_,i6⟩
   unfold bX
   rw [pX,pX]
   refine ⟨rfl,zp.right ⟨q.1,q.2 rfl⟩, ?_⟩
   rw [gv q.1]
   exact fun c hc j hj=>by
    have:j<24:=hj.elim (b1 (q.1.rc hc)) (aoL (q.1.rc hc))
    omega
theorem Mn:pf zo/\au zo=1/\am zo=1:=by
 refine ⟨?_, ?_, ?_⟩
 ·rw [pf,aZ,ba];exact ⟨⟨by unfold aG;omega,by unfold aG;omega,by decide,(fun c hc=>by cases hc),by simp,by simp,by simp⟩,trivial,trivial⟩
 all_goals rfl
theorem aJc {g a:Tm} (q:Fm g) (x:g.k=16) (fa:Fm a) (J:au a+aI g.s+1<=20000) (hd:am a+1<=200):Fm (Di a (eh g)):=by
 obtain ⟨z,L,M,O,A,T⟩:=hx q x
 obtain ⟨_,hl,_⟩:=q.gl x
 have B:aO g.s+1<=am g:=by cases g<;>grind [am,Tm.s]
 have E:=q.dep
 have ho:pf (Di a (eh g)):=by
  rw [pf,aZ,aZ]
  exact ⟨⟨by unfold aG;omega,by unfold aG;omega,by decide,(fun c hc=>by cases hc),by simp,by simp,by omega⟩,⟨fa.ok,trivial⟩,z⟩
 refine ⟨ho,pS ?_ ?_ ?_⟩
 ·grind [am,aH]
 ·grind [au,ay]
 ·rw [rf,A,bO,bO]
  have F:Am 18 ((0:Nat):Int)=0:=rfl
  have I:bJ 18 ((0:Nat):Int)=0:=rfl
  rw [F,I,an0,Int.add_zero,(Ie fa.2).2.2]
  have:cL (-1) 24 (Di a (eh g))=true:=by
   show (true&&((eh g).all (bX 18 24)&&true))=true
   grind
  grind
theorem aJd:Fm zo:=⟨Mn.1,by kernel_rfl⟩
theorem azf {g:Tm} (q:Fm g) (x:g.k=16):Fm (Di zo (eh g)):=by
 obtain ⟨_,_,a,ha,fa⟩:=q.gl x
 have A:=q.dP
 have h2:au g=1+(au a+0)+aI g.s:=by
  obtain ⟨kd,n,nm,r,z,sys⟩:=g
  have ha:z=[a]:=ha
  subst ha
  rfl
 grind [mB,aJc,aJd,Mn]
section
variable {g:Tm}
theorem aIg (hk:F3 k) (B:Fm g) (E:g.k=16) {x:Br Tm} (F:x.c=[AK x]) (c:Int) (I:Br Tm×Int->OS S):
  w1 k x (eh g) c I=I (⟨x.f,[awc (mM c (J6 0 1 (Di zo (eh g)))).1 [AK x]]⟩,(mM c (J6 0 1 (Di zo (eh g)))).2):=by
 have A:=azf B E
 have q:af x.c 0=some (AK x):=ED (n:=0) rfl (by grind)
 have z:wA 0 1 (Di zo (eh g))=J6 0 1 (Di zo (eh g)):=if_pos A.2
 simp only [w1,ag hk.fu,ar,zc,Nn,JM,wi]
 rw [E8 hk (fun _=>A.isIn hk) (by omega) (by omega),z,q]
 rfl
theorem aGT (hk:F3 k) (F:Fm g) (J:g.k=16) (I:LB×Int->OS S) {l:LB} (L: ∀b∈l,b.c=[AK b]/\Fm (AK b)/\RX true b.f) (hl:l.length<=20000):
  ∀ (r p acc:LB) (m:Nat) (c:Int),l=p++r->r.length<m->acc.length+r.length<=20000->
   ∃l',qa k I (eh g) l m c (p.length:Int) acc=I (acc++l',ut (DQ c (fi (eh g) r)))/\l'.length=r.length/\sk 50000 l'/\ ∀z,DQ c (fi (eh g) r)= .ok z->l'=z:=by
 intro r
 induction r with
 |nil=>
  intro p acc m c h E ha
  obtain ⟨m,rfl,A⟩:=pw E
  refine ⟨[], ?_,rfl,Mc _,fun z h=> ?_⟩
  ·simp only [qa,Hd,xu h,n3,xG]
   by_cases hc:c=0
   ·subst hc;rfl
   ·rw [lb hc];rfl
  grind [oH,fi,lb]
 |cons x r M=>
  intro p acc m c h E ha
  obtain ⟨m,rfl,A⟩:=pw E
  obtain ⟨O,T,W,Y⟩:=qF h (by omega)
  rw [ue] at ha
  simp only [qa,Hd,O,ae,T,p9,ag hk.fu,W,aIg hk F J (L x (by grind)).1]
  rw [J5 (by grind)]
  obtain ⟨_,x2,x3⟩:=L x (by grind)
  have B:FN (mM c (J6 0 1 (Di zo (eh g)))).1:=Bw fun t h=>mD (by omega) (azf F J) h
  obtain ⟨l',h1,h2,hb,h3⟩:=M (p++[x]) (acc++[⟨x.f,[awc (mM c (J6 0 1 (Di zo (eh g)))).1 [AK x]]⟩]) m (mM c (J6 0 1 (Di zo (eh g)))).2 Y A (by grind)
  refine ⟨⟨x.f,[awc (mM c (J6 0 1 (Di zo (eh g)))).1 [AK x]]⟩::l', ?_,by grind,My (G9 x3) (r6 B x2).1 (r6 B x2).2 hb,fun z q=> ?_⟩
  ·refine h1.trans ?_
   rw [List.append_assoc,List.singleton_append]
   congr 2
   by_cases hc:c=0
   ·subst hc
    rw [kR,oH,fi]
    cases hh:J6 0 1 (Di zo (eh g)) with
    |error e=>
     have he:=xJ hh
     rw [show (tE (.error e)).2=e from rfl,lb (show e≠0 by omega)];rfl
    |ok u=>
     rw [show (tE (.ok u)).2=0 from rfl,oH,aD]
     cases fi (eh g) r<;>rfl
   grind [n9,lb]
  ·by_cases hc:c=0
   ·subst hc
    rw [oH,fi] at q
    obtain ⟨u,g1,q⟩:=i8 q
    obtain ⟨l2,g2,q⟩:=i8 q
    grind [kR,tE,oH]
   grind [lb]
theorem aIh (hk:F3 k) {x:Br Tm} (z:x.c=[AK x,k1 x]) (f0:Fm (AK x)) (f1:Fm (k1 x)) {b t:Tm} (fb:Fm b) (ft:Fm t) (c:Int) (I:Br Tm×Int->OS S):
  o' k x b t c I=I (⟨x.f,[dS 6 [dS 9 [(mM c (J6 0 1 (k1 x))).1],(mM (mM c (J6 0 1 (k1 x))).2 (c6 [AK x,b,J4 t.s] (FB (AK x) b t.s))).1]]⟩,(mM (mM c (J6 0 1 (k1 x))).2 (c6 [AK x,b,J4 t.s] (FB (AK x) b t.s))).2):=by
 have g0:af x.c 0=some (AK x):=ED (n:=0) rfl (by grind)
 have g1:af x.c 1=some (k1 x):=ED (n:=1) rfl (by grind)
 have q:wA 0 1 (k1 x)=J6 0 1 (k1 x):=if_pos f1.2
 simp only [o',ag hk.fu,ar,zc,No,wi,g0,g1,p9]
 rw [E8 hk (fun _=>f1.isIn hk) (by omega) (by omega),q,ajm hk (fun _=>⟨f0.isIn hk,fb.isIn hk,Jc hk ft⟩) (fun e h=>BJ (fun e h=>uw h) h)]
 rfl
theorem aGU (hk:F3 k) {b t:Tm} (fb:Fm b) (ft:Fm t) (I:LB×Int->OS S) {l:LB} (E: ∀b∈l,b.c=[AK b,k1 b]/\Fm (AK b)/\Fm (k1 b)/\RX true b.f) (hl:l.length<=20000):
  ∀ (r p acc:LB) (m:Nat) (c:Int),l=p++r->r.length<m->acc.length+r.length<=20000->
   ∃l',G1 k I b t l m c (p.length:Int) acc=I (acc++l',ut (DQ c (fW b t.s r)))/\l'.length=r.length/\sk 500000 l'/\ ∀z,DQ c (fW b t.s r)= .ok z->l'=z:=by
 intro r
 induction r with
 |nil=>
  intro p acc m c h M ha
  obtain ⟨m,rfl,J⟩:=pw M
  refine ⟨[], ?_,rfl,Mc _,fun z h=> ?_⟩
  ·simp only [G1,pz,xu h,n3,xG]
   by_cases hc:c=0
   ·subst hc;rfl
   ·rw [lb hc];rfl
  grind [oH,fW,lb]
 |cons x r T=>
  intro p acc m c h M ha
  obtain ⟨m,rfl,J⟩:=pw M
  obtain ⟨W,Y,e3,e4⟩:=qF h (by omega)
  rw [ue] at ha
  obtain ⟨x1,x2,x3,x4⟩:=E x (by grind)
  simp only [G1,pz,W,ae,Y,p9,ag hk.fu,ar,e3,aIh hk x1 x2 x3 fb ft]
  rw [J5 (by grind)]
  have L:FN (mM c (J6 0 1 (k1 x))).1:=Bw fun t h=>mD (by omega) x3 h
  have F: ∀c,FN (mM c (c6 [AK x,b,J4 t.s] (FB (AK x) b t.s))).1:=fun c=>Bw fun w h=>by
   obtain ⟨so,ff,O⟩:=BI h
   exact ⟨(ux hk x2 fb (iQ (wg x2.ok fb.ok (Jc hk ft).1 so).2.2) O).1.1,ff⟩
  have F:=F (mM c (J6 0 1 (k1 x))).2
  generalize hA:mM c (J6 0 1 (k1 x))=A at L F ⊢
  generalize hB:mM A.2 (c6 [AK x,b,J4 t.s] (FB (AK x) b t.s))=B at F ⊢
  have q9:=Mz (kd:=9) (by omega) (n:=20000) (ks:=[A.1]) (fun x E=>by simp at E;subst E;exact ⟨L.sm.1,by have:=L.sm.2;omega⟩) (by simp)
  have q6:=Mz (kd:=6) (by omega) (n:=80001) (ks:=[dS 9 [A.1],B.1]) (fun x E=>by
   simp at E
   rcases E with rfl|rfl
   ·refine ⟨q9.1, ?_⟩
    unfold dS;rw [am,aH,aH,aO];have:=L.sm.2;omega
   ·exact ⟨F.sm.1.mono (by omega),by have:=F.sm.2;omega⟩) (by simp)
  obtain ⟨l',h1,h2,hb,h3⟩:=T (p++[x]) (acc++[⟨x.f,[dS 6 [dS 9 [A.1],B.1]]⟩]) m B.2 e4 J (by grind)
  refine ⟨⟨x.f,[dS 6 [dS 9 [A.1],B.1]]⟩::l', ?_,by grind,My (G9 x4) (q6.1.mono (by omega)) (by omega) hb,fun z q=> ?_⟩
  ·refine h1.trans ?_
   rw [List.append_assoc,List.singleton_append]
   congr 2
   subst hB;subst hA
   by_cases hc:c=0
   ·subst hc
    rw [kR,oH,fW]
    cases hh:J6 0 1 (k1 x) with
    |error e=>
     have he:=xJ hh
     rw [show (tE (.error e)).2=e from rfl,n9 (show e≠0 by omega),lb (show e≠0 by omega)];rfl
    |ok u=>
     rw [show (tE (.ok u)).2=0 from rfl,kR,aD]
     cases hw:c6 [AK x,b,J4 t.s] (FB (AK x) b t.s) with
     |error e=>
      have he:=BJ (fun e h=>uw h) hw
      rw [show (tE (.error e)).2=e from rfl,lb he];rfl
     |ok w=>
      rw [show (tE (.ok w)).2=0 from rfl,oH,aD]
      cases fW b t.s r<;>rfl
   grind [n9,lb]
  ·by_cases hc:c=0
   ·subst hc
    rw [oH,fW] at q
    obtain ⟨u,g1,q⟩:=i8 q
    obtain ⟨w,g2,q⟩:=i8 q
    obtain ⟨l2,g3,q⟩:=i8 q
    grind [kR,tE,oH]
   grind [lb]
end
theorem azu (hk:F3 k) (I:LB->OS S) {l:LB} (F: ∀b∈l,b.c=[AK b,k1 b]) (hl:l.length<=20000):
  ∀ (r p acc:LB) (m:Nat),l=p++r->r.length<m->acc.length+r.length<=20000->
   qd k I l m (p.length:Int) acc=I (acc++r.map fun x=>⟨x.f,[k1 x]⟩):=by
 intro r
 induction r with
 |nil=>
  intro p acc m h q ha
  obtain ⟨m,rfl,z⟩:=pw q
  grind [qd,hz,n3]
 |cons x r J=>
  intro p acc m h q ha
  obtain ⟨m,rfl,z⟩:=pw q
  obtain ⟨A,B,E,L⟩:=qF h (by omega)
  rw [ue] at ha
  have g1:af x.c 1=some (k1 x):=ED (n:=1) rfl (by grind)
  simp only [qd,hz,A,ae,B,p9,ag hk.fu,E,r2,g1,ar,wi]
  grind [J5]
theorem aGV (hk:F3 k) (I:LB->OS S) {b t:Tm} {l:LB} (L: ∀b∈l,b.c=[AK b,k1 b]) (hl:l.length<=20000):
  ∀ (r p acc:LB) (m:Nat),l=p++r->r.length<m->acc.length+r.length<=20000->
   j9 k I t b l m (p.length:Int) acc=I (acc++sG b t.s r):=by
 intro r
 induction r with
 |nil=>
  intro p acc m h z ha
  obtain ⟨m,rfl,q⟩:=pw z
  grind [j9,J1,n3,sG]
 |cons x r A=>
  intro p acc m h z ha
  obtain ⟨m,rfl,q⟩:=pw z
  obtain ⟨B,E,F,J⟩:=qF h (by omega)
  rw [ue] at ha
  have g0:af x.c 0=some (AK x):=ED (n:=0) rfl (by grind)
  simp only [j9,J1,B,ae,E,p9,ag hk.fu,F,ay6,g0,ar,wi,JM]
  rw [J5 (by grind),A (p++[x]) _ m J q (by grind),List.append_assoc];rfl
theorem aIQ {t x b:Tm} (ft:Fm t) (fx:Fm x) (fb:Fm b):Sm 60001 (.mk 15 0 oW [] [x,b] t.s)/\am (.mk 15 0 oW [] [x,b] t.s)<=299:=by
 obtain ⟨A,B,E,F,I,J,z⟩:=ft.ok.no
 have hs:ba t.s:=by have:=ft.ok;cases t;rw [pf] at this;exact this.2.2
 have hd:aO t.s+1<=am t:=by cases t<;>grind [am,Tm.s]
 have L:aI t.s+1<=au t:=by cases t<;>grind [au,Tm.s]
 have:=ft.dP;have:=ft.dep;have:=fx.dP;have:=fx.dep;have:=fb.dP;have:=fb.dep
 refine ⟨(Hn (kd:=15) (by omega) (r:=[]) ⟨(fun c hc=>by cases hc),by simp⟩ (ks:=[x,b]) (sys:=t.s) (n:=40000) (m:=20000) (fun y q=>by
  simp at q
  rcases q with rfl|rfl
  ·exact ⟨fx.ok,by omega⟩
  ·exact ⟨fb.ok,by omega⟩) (by simp) (by grind [ay]) hs z (by omega) (by omega)), ?_⟩
 grind [am,aH]
theorem aGd {t b:Tm} (ft:Fm t) (fb:Fm b): ∀ {l:LB},(∀b∈l,Fm (AK b)/\RX true b.f)->sk 60001 (sG b t.s l):=by
 intro l
 induction l with
 |nil=>intro _;exact Mc _
 |cons x l z=>
  intro h
  obtain ⟨h1,h2⟩:=h x (by simp)
  have q:=aIQ ft h1 fb
  exact My (G9 h2) q.1 q.2 (z fun x A=>h x (by simp [A]))
theorem aCw (hk:F3 k) {t g b a:Tm} {q z:LB} (ft:Fm t) (F:Fm g) (J:g.k=16) (ha:g.c.getD 0 oe=a) (fa:Fm a) (fb:Fm b) (h1:sk 50000 q) (n1:q.length<=20000) (h2:sk 500000 z) (n2:z.length<=20000):In k (iw g b t.s q z):=by
 obtain ⟨I,hl,_⟩:=F.gl J
 obtain ⟨T,e2,e3,e4,_,_⟩:=hx F J
 have W:aO g.s+1<=am g:=by cases g<;>grind [am,Tm.s]
 have Y:aI g.s+1<=au g:=by cases g<;>grind [au,Tm.s]
 have:=F.dep;have:=F.dP
 have bd:=fb.dep;have bz:=fb.dP;have ad:=fa.dep;have az:=fa.dP
 have L:Sm 40001 (Di b (eh g))/\am (Di b (eh g))<=202:=by
  refine ⟨Hn (kd:=18) (by omega) (r:=[]) ⟨(fun c hc=>by cases hc),by simp⟩ (ks:=[b]) (sys:=eh g) (n:=20000) (m:=20000) (fun y A=>by simp at A;subst A;exact ⟨fb.ok,by omega⟩) (by simp) (by grind [ay]) T (by omega) (by omega) (by omega), ?_⟩
  grind [am,aH]
 obtain ⟨M,b2⟩:=zv (n:=500000) (SK (fun x I=>by obtain ⟨t,q1,q2,q3⟩:=h1 x I;exact ⟨t,q1,q2.mono (by omega),q3⟩) h2)
 have hz:aI (q++z)<=40000*500000:=bu M.dP (HV _ (by grind))
 have B:=Hn (kd:=15) (by omega) (r:=[]) ⟨(fun c hc=>by cases hc),by simp⟩ (ks:=[a,Di b (eh g)]) (sys:=q++z) (n:=60001) (m:=40000*500000) (fun y A=>by
  simp at A
  rcases A with rfl|rfl
  ·exact ⟨fa.ok,by omega⟩
  ·exact ⟨L.1.ok,by omega⟩) (by simp) (by rw [ay,ay,ay];have:=L.1.dP;omega) M.ok (by grind) b2 hz
 obtain ⟨c1,c2⟩:=zv (aGd ft fb (l:=g.s) fun x E=>⟨(I x E).2.1,(I x E).2.2.2⟩)
 have hlen:(sG b t.s g.s).length=g.s.length:=by grind [sG]
 have ao:aI (sG b t.s g.s)<=20000*60001:=bu c1.dP (HV _ (by omega))
 unfold iw
 rw [ha]
 have O:am (.mk 15 0 oW [] [a,Di b (eh g)] (q++z))<=300:=B.dep
 refine ⟨?_,hk.fd ?_, ?_⟩
 ·rw [pf,aZ,aZ]
  exact ⟨⟨by unfold aG;omega,by unfold aG;omega,by decide,(fun c hc=>by cases hc),by simp,by simp,by omega⟩,⟨B.ok,trivial⟩,c1.ok⟩
 all_goals grind [am,aH,au,ay]
theorem aIf (hk:F3 k) {t:Tm} (L:In k t) (I:Tm×Bool×Int->OS S):b5 k t I=I (ox t):=by
 have a6:4294968296<=k:=hk
 simp only [b5,ag hk.fu,ar,zy L.1 L.2.1 L.dep]
 unfold ox
 by_cases T:bw t=0
 case neg=>rw [dj T,sQ,ae,if_pos T];rfl
 rw [T,show (!((0:Int)==0))=false from rfl,n3,if_neg (by simp)]
 have ft:Fm t:=⟨L.1,T⟩
 by_cases E:t.k=15
 case neg=>rw [beq_false_of_ne E,sQ,ae,if_neg (fun h=>E h.1)];rfl
 rw [E,show (!((15:Int)==15))=false from rfl,n3]
 obtain ⟨g,b,O⟩:=I8 (E5 ft E (n:=2) rfl)
 obtain ⟨g0,g1⟩:=KQ O
 obtain ⟨d0,d1⟩:=EC O
 have W:Fm g:=ft.bV (by grind)
 have fb:Fm b:=ft.bV (by grind)
 obtain ⟨sy,Y⟩:=ft.sy E
 rw [g0,p9,d0]
 by_cases B:g.k=16
 case neg=>rw [beq_false_of_ne B,sQ,ae,if_neg (fun h=>B h.2)];rfl
 rw [B,show (!((16:Int)==16))=false from rfl,n3,vU t L.1 _ L.2.1,g0,p9,g1,p9,p9,if_pos ⟨rfl,rfl⟩]
 obtain ⟨hx,hl,a,a7,fa⟩:=W.gl B
 have ga:af g.c 0=some a:=ED (n:=0) rfl (by grind)
 have ad:g.c.getD 0 oe=a:=by grind
 have ao: ∀q:LB->OS S,SH k g q=q (eh g):=fun q=>by
  simp only [SH,ag hk.fu,dh,j']
  exact azu hk q (fun b hb=>(hx b hb).1) hl g.s [] [] k rfl (by omega) (by grind)
 rw [ao]
 obtain ⟨M,i1,i2,i3,i4⟩:=aGT hk W B (fun r8=>bc k g.s b t r8.2 fun F=>nW (aw 1099511627776 r8.1.length F.1.length) fun ax=>nW (af g.c 0) fun J=>Nn k b (eh g) fun x=>JM k 15 (r8.1++F.1) [J,(Tm.mk x.1 x.2.1 x.2.2.1 [] x.2.2.2.1 x.2.2.2.2)] fun r13=>D3 k g.s t b fun r14=>JM k 17 r14 [(Tm.mk r13.1 r13.2.1 r13.2.2.1 [] r13.2.2.2.1 r13.2.2.2.2)] fun z=>ly k (Tm.mk z.1 z.2.1 z.2.2.1 [] z.2.2.2.1 z.2.2.2.2) F.2 fun A=>I (A.1,A.2.1,A.2.2.1)) (l:=t.s) sy Y t.s [] [] k 0 rfl (by omega) (by grind)
 refine o0 (b:=_) ?_ (i1.trans ?_)
 ·rfl
 rw [zg,oH]
 rw [oH] at i4
 obtain ⟨l2,j1,j2,j3,j4⟩:=aGU hk fb ft (fun F=>nW (aw 1099511627776 M.length F.1.length) fun ax=>nW (af g.c 0) fun J=>Nn k b (eh g) fun x=>JM k 15 (M++F.1) [J,(Tm.mk x.1 x.2.1 x.2.2.1 [] x.2.2.2.1 x.2.2.2.2)] fun r13=>D3 k g.s t b fun r14=>JM k 17 r14 [(Tm.mk r13.1 r13.2.1 r13.2.2.1 [] r13.2.2.2.1 r13.2.2.2.2)] fun z=>ly k (Tm.mk z.1 z.2.1 z.2.2.1 [] z.2.2.2.1 z.2.2.2.2) F.2 fun A=>I (A.1,A.2.1,A.2.2.1)) (l:=g.s) hx hl g.s [] [] k (ut (fi (eh g) t.s)) rfl (by omega) (by grind)
 refine o0 (b:=_) ?_ (j1.trans ?_)
 ·rfl
 rw [zg]
 dsimp only
 rw [J5 (by omega),ga,p9]
 simp only [Nn,JM,ag hk.fu,ar,D3,aAb]
 have az:=aCw hk ft W B ad fa fb i3 (by omega) j3 (by omega)
 have h3:=fun q:LB->OS S=>aGV hk q (b:=b) (t:=t) (fun b hb=>(hx b hb).1) hl g.s [] [] k rfl (by omega) (by grind)
 refine (h3 _).trans ?_
 rw [zg]
 rw [show (Tm.mk 17 0 oW [] [Tm.mk 15 0 oW [] [a,Tm.mk 18 0 oW [] [b] (eh g)] (M++l2)] (sG b t.s g.s))=iw g b t.s M l2 from by grind [iw],Ry hk az]
 unfold y0
 rw [d0,d1]
 cases q1:fi (eh g) t.s with
 |error e=>
  have he:=aGa q1
  rw [show ut (.error e:Except Int (LB))=e from rfl,lb (show e≠0 by omega),lk]
  exact JF (show e≠0 by omega) I
 |ok m1=>
  have:=i4 m1 q1
  subst this
  rw [show ut (.ok M:Except Int (LB))=0 from rfl,oH,aD]
  rw [q1,show ut (.ok M:Except Int (LB))=0 from rfl,oH] at j4
  cases q2:fW b t.s g.s with
  |error e=>
   have he:=aGc q2
   rw [show ut (.error e:Except Int (LB))=e from rfl,lk]
   exact JF (show e≠0 by omega) I
  |ok m2=>
   simp_all [ut,aD,s7]
def Iu {α β:Type} (F:α->Except Int β):List α->Except Int (List β)
 |[]=> .ok []
 |x::l=>bE (F x) fun b=>bE (Iu F l) fun q=> .ok (b::q)
theorem aCv {α β:Type} {F:α->Except Int β}: ∀ {l:List α} {e:Int},(∀x∈l,∀e,F x= .error e->0<e/\e<=1000)->Iu F l= .error e->0<e/\e<=1000:=by
 intro l
 induction l<;>grind [Iu,be]
theorem aAX {l:LB} {L:Nat->Int->Int->LB->OS S} {I:LB×Int->OS S} {g:Int->Br Tm->Br Tm×Int} {F:Br Tm->Except Int (Br Tm)} {Q:Br Tm->Prop} (hl:l.length<=20000)
  (B: ∀ (m:Nat) (c:Int) (acc:LB),acc.length<=20000->L (m+1) c (l.length:Int) acc=I (acc,c))
  (A: ∀ (m:Nat) (c:Int) (x:Br Tm) (p r acc:LB),l=p++x::r->acc.length<20000->L (m+1) c (p.length:Int) acc=L m (g c x).2 (((p++[x]).length:Nat):Int) (acc++[(g c x).1]))
  (W: ∀x∈l,∀b,F x= .ok b->g 0 x=(b,0)) (h1: ∀x∈l,∀e,F x= .error e->e≠0/\(g 0 x).2=e) (h2: ∀x∈l,∀c,c≠0->(g c x).2=c) (hq: ∀x∈l,∀c,Q (g c x).1):
  ∀ (r p acc:LB) (m:Nat) (c:Int),l=p++r->r.length<m->acc.length+r.length<=20000->
   ∃l',L m c (p.length:Int) acc=I (acc++l',ut (DQ c (Iu F r)))/\l'.length=r.length/\(∀y∈l',Q y)/\ ∀z,DQ c (Iu F r)= .ok z->l'=z:=by
 intro r
 induction r with
 |nil=>
  intro p acc m c h J ha
  obtain ⟨m,rfl,E⟩:=pw J
  refine ⟨[], ?_,rfl,(fun y M=>by cases M),fun z h=> ?_⟩
  ·rw [xG] at h
   subst h
   rw [B m c acc (by omega),xG]
   by_cases hc:c=0
   ·subst hc;rfl
   ·rw [lb hc];rfl
  grind [oH,Iu,lb]
 |cons x r Y=>
  intro p acc m c h J ha
  obtain ⟨m,rfl,E⟩:=pw J
  rw [ue] at ha
  have O:x∈l:=by grind
  rw [A m c x p r acc h (by omega)]
  obtain ⟨l',i1,i2,i3,i4⟩:=Y (p++[x]) (acc++[(g c x).1]) m (g c x).2 (by grind) E (by grind)
  refine ⟨(g c x).1::l', ?_,by grind,fun y M=> ?_,fun z q=> ?_⟩
  ·rw [i1,List.append_assoc,List.singleton_append]
   congr 2
   by_cases hc:c=0
   ·subst hc
    rw [oH,Iu]
    cases T:F x with
    |error e=>
     obtain ⟨q1,q2⟩:=h1 x O e T
     rw [q2,lb q1];rfl
    |ok b=>
     rw [W x O b T,oH,aD]
     cases Iu F r<;>rfl
   grind [lb]
  ·grind
  ·by_cases hc:c=0
   ·subst hc
    rw [oH,Iu] at q
    obtain ⟨b,g1,q⟩:=i8 q
    obtain ⟨l2,g2,q⟩:=i8 q
    grind [oH]
   grind [lb]
def u5 (x:Br Tm):Except Int (Br Tm):=bE (J6 1 0 (AK x)) fun u=> .ok ⟨x.f,[dS 6 [u,vN 0]]⟩
def u6 (b a:Tm) (sys:LB):Except Int Tm:=bE (J6 1 0 a) fun a'=>bE (Iu u5 sys) fun l=> .ok (dS 5 [.mk 15 0 oW [] [b,dS 6 [a',vN 0]] l])
theorem aHe {b a:Tm} {sys:LB} {e:Int} (h:u6 b a sys= .error e):0<e/\e<=1000:=by
 unfold u6 at h
 rcases be h with h|⟨_,_,h⟩
 ·exact xJ h
 rcases be h with h|⟨_,_,h⟩
 ·refine aCv (fun x _ e h=> ?_) h
  unfold u5 at h
  rcases be h with h|⟨_,_,h⟩
  ·exact xJ h
  simp_all
 simp_all
section
variable {x1 x2:Int} {x3:BA} {x4:LC} {x5:LT} {x6 sys:LB}
theorem h6 (hk:F3 k) {t:Tm} (ft:Fm t) {a b c:Int} (ha:0<=a/\a<1000) (hb:0<=b/\b<1000) (I:Tm×Int->OS S):zb k t a b c I=I (mM c (J6 a b t)):=by
 rw [E8 hk (fun _=>ft.isIn hk) ha hb,show wA a b t=J6 a b t from if_pos ft.2]
theorem aIk (hk:F3 k) {u:Tm} (fu:Fm u) (c:Int) (I:LT×Int->OS S):h0 k u c x1 x2 x3 x4 x5 x6 sys I=I ([dS 6 [(mM c (J6 1 0 u)).1,vN 0]],(mM c (J6 1 0 u)).2):=by
 simp only [h0,ag hk.fu,ar,h6 hk fu (show (0:Int)<=1/\(1:Int)<1000 by omega) (show (0:Int)<=0/\(0:Int)<1000 by omega),Ns,zc]
 rfl
end
theorem IF:Sm 1 (vN 0)/\am (vN 0)=1:=by
 unfold vN
 refine ⟨⟨?_, ?_, ?_⟩, ?_⟩
 ·rw [pf,aZ,ba];exact ⟨⟨by unfold aG;omega,by unfold aG;omega,by decide,(fun c hc=>by cases hc),by simp,by simp,by simp⟩,trivial,trivial⟩
 all_goals grind [au,ay,aI,am,aH,aO]
theorem azX {a:Tm} (ha:FN a):Sm 80001 (dS 6 [a,vN 0])/\am (dS 6 [a,vN 0])<=201:=by
 have h:=Mz (kd:=6) (by omega) (n:=20000) (ks:=[a,vN 0]) (fun x q=>by
  simp at q
  rcases q with rfl|rfl
  ·exact ⟨ha.sm.1,by have:=ha.sm.2;omega⟩
  ·exact ⟨IF.1.mono (by omega),by rw [IF.2];omega⟩) (by simp)
 refine ⟨h.1, ?_⟩
 unfold dS;rw [am,aH,aH,aH,aO,IF.2];have:=ha.sm.2;omega
theorem cu {x y:Tm} {l:LB} {n m:Nat} (A:Sm n x) (B:Sm n y) (J:am x<=290) (L:am y<=290) (hn:n<=1000000) (hb:sk m l) (F:m<=1000000) (hl:l.length<=40000):Sm 50000000000 (.mk 15 0 oW [] [x,y] l):=by
 obtain ⟨E,I⟩:=zv hb
 have q:aI l<=40000*1000000:=bu E.dP (Nat.mul_le_mul hl F)
 exact (Hn (kd:=15) (by omega) (r:=[]) ⟨(fun c hc=>by cases hc),by simp⟩ (ks:=[x,y]) (sys:=l) (n:=2000000) (m:=40000*1000000) (fun z q=>by
  simp at q
  rcases q with rfl|rfl
  ·exact ⟨A.ok,by omega⟩
  ·exact ⟨B.ok,by omega⟩) (by simp) (by rw [ay,ay,ay];have:=A.dP;have:=B.dP;omega) E.ok (by omega) I q).mono (by omega)
theorem aBl (hk:F3 k) {kd:Int} (z:0<=kd/\kd<=28) {x:Tm} (q:Sm 50000000000 x):In k (dS kd [x]):=by
 have:=q.dep;have:=q.dP
 unfold dS
 refine ⟨?_,hk.fd ?_, ?_⟩
 ·rw [pf,aZ,aZ,ba]
  exact ⟨⟨by unfold aG;omega,by unfold aG;omega,by decide,(fun c hc=>by cases hc),by simp,by simp,by simp⟩,⟨q.ok,trivial⟩,trivial⟩
 all_goals grind [am,aH,aO,au,ay,aI]
theorem aAu {X:Except Int Tm} {y:Tm} {c:Int} (q: ∀t,X= .ok t->y=t/\c=0) (h1: ∀e,X= .error e->e≠0/\c=e) (g:Tm×Bool×Int->OS S):g ((dM c y).1,(dM c y).2==0,(dM c y).2)=g (FA X):=by
 cases x:X<;>simp_all [JF,s7]
section
variable {x1 x2:Int} {x3:BA} {x4:LC} {x5:LT} {x6 sys:LB}
def BrQ (n:Nat) (x:Br Tm):Prop:= ∃t,x.c=[t]/\Sm n t/\am t<=299/\aq x.f/\x.f.length<1073741824
theorem aC_ (hk:F3 k) {t p b:Tm} (B:t.c=[p,b]) (fb:Fm b) (fa:Fm (Tm.mk x1 x2 x3 x4 x5 x6)) (sy: ∀b∈sys,b.c=[AK b]/\Fm (AK b)/\RX true b.f) (E:sys.length<=20000) (I:Int×Int×BA×LT×Int->OS S):
  ∃y c,fc k t 0 x1 x2 x3 x4 x5 x6 sys I=I (5,0,oW,[y],c)/\In k (dS 5 [y])/\(∀z,u6 b (Tm.mk x1 x2 x3 x4 x5 x6) sys= .ok z->dS 5 [y]=z/\c=0)/\ ∀e,u6 b (Tm.mk x1 x2 x3 x4 x5 x6) sys= .error e->e≠0/\c=e:=by
 have T:4294968296<=k:=hk
 obtain ⟨g0,g1⟩:=KQ B
 have key:=fun RET=>aAX (S:=S) (l:=sys) (L:=fun m c i acc=>mv k RET x1 x2 x3 x4 x5 x6 sys m c i acc) (I:=RET) (g:=fun c x=>(⟨x.f,[dS 6 [(mM c (J6 1 0 (AK x))).1,vN 0]]⟩,(mM c (J6 1 0 (AK x))).2)) (F:=u5) (Q:=BrQ 80001) E
  (fun m c acc _=>by
   grind [mv,b4,n3])
  (fun m c x p r acc h ha=>by
   obtain ⟨W,Y,e3,_⟩:=qF h (by omega)
   obtain ⟨q1,q2,_⟩:=sy x (by grind)
   have hg:af x.c 0=some (AK x):=ED (n:=0) rfl (by grind)
   simp only [mv,b4,W,ae,Y,p9,hg,ag hk.fu,ar,aIk hk q2,wi,e3]
   grind [J5])
  (fun x q b h=>by
   unfold u5 at h
   obtain ⟨u,h1,h⟩:=i8 h
   injection h with h;subst h
   rw [kR,h1];rfl)
  (fun x q e h=>by
   unfold u5 at h
   rcases be h with h|⟨_,_,h⟩
   ·have:=xJ h;rw [kR,h];exact ⟨by omega,rfl⟩
   simp_all)
  (fun x q c hc=>by rw [n9 hc])
  (fun x q c=>by
   obtain ⟨q1,q2,q3⟩:=sy x q
   have:=azX (Bw (c:=c) (x:=J6 1 0 (AK x)) fun t h=>mD (by omega) q2 h)
   exact ⟨_,rfl,this.1,by omega,G9 q3⟩)
  sys [] [] k (mM 0 (J6 1 0 (Tm.mk x1 x2 x3 x4 x5 x6))).2 rfl (by omega) (by grind)
 obtain ⟨l',h1,h2,h3,J⟩:=key fun M=>I (5,0,oW,[.mk 15 0 oW [] [b,dS 6 [(mM 0 (J6 1 0 (Tm.mk x1 x2 x3 x4 x5 x6))).1,vN 0]] M.1],M.2)
 have fA:FN (mM 0 (J6 1 0 (Tm.mk x1 x2 x3 x4 x5 x6))).1:=Bw fun t h=>mD (by omega) fa h
 refine ⟨_,ut (DQ (mM 0 (J6 1 0 (Tm.mk x1 x2 x3 x4 x5 x6))).2 (Iu u5 sys)), ?_,aBl hk (by omega) (cu (n:=80001) (fb.sm.mono (by omega)) (azX fA).1 (by have:=fb.dep;omega) (by grind [azX]) (by omega) h3 (by omega) (by omega)), ?_⟩
 ·simp only [fc,ag hk.fu,ar,h6 hk fa (show (0:Int)<=1/\(1:Int)<1000 by omega) (show (0:Int)<=0/\(0:Int)<1000 by omega),Ns,zc,ts,aAf,g1,p9,JM]
  exact h1
 ·unfold u6
  rw [kR] at J ⊢
  cases ha:J6 1 0 (Tm.mk x1 x2 x3 x4 x5 x6) with
  |error e=>
   have he:=xJ ha
   rw [show (tE (.error e)).2=e from rfl,lb (show e≠0 by omega)]
   exact ⟨fun z h=>(by cases h),fun e' h=>by injection h with h;subst h;exact ⟨by omega,rfl⟩⟩
  |ok A=>
   rw [ha,show (tE (.ok A)).2=0 from rfl,oH] at J
   rw [show (tE (.ok A)).2=0 from rfl,oH,aD]
   cases O:Iu u5 sys with
   |error e=>
    refine ⟨fun z h=>(by cases h),fun e' h=> ?_⟩
    injection h with h;subst h
    have:=aHe (b:=b) (a:=Tm.mk x1 x2 x3 x4 x5 x6) (sys:=sys) (e:=e) (by unfold u6;rw [ha,O];rfl)
    exact ⟨by omega,rfl⟩
   |ok l=>
    have:=J l O
    subst this
    exact ⟨fun z h=>by injection h with h;subst h;exact ⟨rfl,rfl⟩,fun e h=>by cases h⟩
end
def parts (kd:Int) (sys:LB):LB:=sys.map fun x=>⟨x.f,[dS kd [AK x]]⟩
theorem Sk {kd:Int} (q:0<=kd/\kd<=28) {a:Tm} (fa:FN a):Sm 80001 (dS kd [a])/\am (dS kd [a])<=201:=by
 have h:=Mz (kd:=kd) q (n:=20000) (ks:=[a]) (fun x z=>by simp at z;subst z;exact ⟨fa.sm.1,by have:=fa.sm.2;omega⟩) (by simp)
 refine ⟨h.1, ?_⟩
 unfold dS;rw [am,aH,aH,aO];have:=fa.sm.2;omega
theorem aCD {kd:Int} (q:0<=kd/\kd<=28) {sys:LB} (sy: ∀b∈sys,b.c=[AK b]/\Fm (AK b)/\RX true b.f):sk 80001 (parts kd sys):=fun y z=>by
 obtain ⟨x,A,rfl⟩:=wD.1 z
 obtain ⟨_,q2,B⟩:=sy x A
 have:=Sk q (.inl q2)
 grind [G9]
theorem aCE (hk:F3 k) {kd:Int} (q:0<=kd/\kd<=28) {sys:LB} (sy: ∀b∈sys,b.c=[AK b]/\Fm (AK b)/\RX true b.f) (x:sys.length<=20000):In k (J4 (parts kd sys)):=by
 obtain ⟨z,A⟩:=zv (aCD q sy)
 exact Jb hk (by omega) z (by grind [parts]) A
def w3 (k0 k1 a:Tm) (sys:LB):Except Int Tm:=
 bE (c6 [k0,dS 9 [a],J4 (parts 9 sys)] (FB k0 (dS 9 [a]) (parts 9 sys))) fun f=>bE (J6 0 1 k1) fun b=>bE (K7 0 b f) fun line=>
 bE (c6 [line,dS 10 [a],J4 (parts 10 sys)] (dF line (dS 10 [a]) (parts 10 sys))) fun y=> .ok (dS 8 [.mk 15 0 oW [] [k0,dS 9 [a]] (parts 9 sys),y])
section
variable {x1 x2:Int} {x3:BA} {x4:LC} {x5:LT} {x6 sys:LB}
theorem aGX (hk:F3 k) (I:LB->OS S) {c kd:Int} (sy: ∀b∈sys,b.c=[AK b]) (A:sys.length<=20000):
  ∀ (r p acc:LB) (m:Nat),sys=p++r->r.length<m->acc.length+r.length<=20000->
   mf k I c x1 x2 x3 x4 x5 x6 sys kd m (p.length:Int) acc=I (acc++parts kd r):=by
 intro r
 induction r with
 |nil=>
  intro p acc m h z ha
  obtain ⟨m,rfl,q⟩:=pw z
  grind [mf,d',n3,parts]
 |cons x r B=>
  intro p acc m h z ha
  obtain ⟨m,rfl,q⟩:=pw z
  obtain ⟨E,F,J,L⟩:=qF h (by omega)
  rw [ue] at ha
  have g0:af x.c 0=some (AK x):=ED (n:=0) rfl (by grind)
  simp only [mf,d',E,ae,F,p9,ag hk.fu,J,aza,g0,ar,wi,zc]
  rw [J5 (by grind),B (p++[x]) _ m L q (by grind),List.append_assoc];rfl
theorem aIl (hk:F3 k) {c kd:Int} (sy: ∀b∈sys,b.c=[AK b]) (q:sys.length<=20000) (I:Int×Int×BA×LT×LB->OS S):
  hU k kd c x1 x2 x3 x4 x5 x6 sys I=I (kd,0,oW,[Tm.mk x1 x2 x3 x4 x5 x6],parts kd sys):=by
 have x:4294968296<=k:=hk
 simp only [hU,ag hk.fu,zc,z',aAh]
 refine (aGX hk _ sy q sys [] [] k rfl (by omega) (by grind)).trans ?_
 rw [zg]
theorem azg (hk:F3 k) {l a:Tm} {s:LB} (hl:In k l) (ha:In k a) (hs:In k (J4 s)) (c:Int):FN (mM c (c6 [l,a,J4 s] (dF l a s))).1:=Bw fun t h=>by
 obtain ⟨so,ff,q⟩:=BI h
 obtain ⟨f1,f2,f3⟩:=wg hl.1 ha.1 hs.1 so
 exact ⟨(yu hk f1 f2 (iQ f3) q).1.1,ff⟩
theorem aA8 (hk:F3 k) {l a:Tm} {s:LB} (hl:In k l) (ha:In k a) (hs:In k (J4 s)) {t:Tm} (h:c6 [l,a,J4 s] (FB l a s)= .ok t):Fm t:=by
 obtain ⟨so,ff,q⟩:=BI h
 obtain ⟨f1,f2,f3⟩:=wg hl.1 ha.1 hs.1 so
 exact ⟨(ux hk f1 f2 (iQ f3) q).1.1,ff⟩
theorem aGe (hk:F3 k) {kd:Int} (A:0<=kd/\kd<=28) {x y:Tm} (q:Sm 50000000000 x) (z:Sm 50000000000 y):In k (dS kd [x,y]):=by
 have:=q.dep;have:=q.dP;have:=z.dep;have:=z.dP
 unfold dS
 refine ⟨?_,hk.fd ?_, ?_⟩
 ·rw [pf,aZ,aZ,aZ,ba]
  exact ⟨⟨by unfold aG;omega,by unfold aG;omega,by decide,(fun c hc=>by cases hc),by simp,by simp,by simp⟩,⟨q.ok,z.ok,trivial⟩,trivial⟩
 all_goals grind [am,aH,aO,au,ay,aI]
theorem aDa (M:F4 k) {t k0 q:Tm} (O:t.c=[k0,q]) (f0:Fm k0) (f1:Fm q) (fa:Fm (Tm.mk x1 x2 x3 x4 x5 x6)) (sy: ∀b∈sys,b.c=[AK b]/\Fm (AK b)/\RX true b.f) (A:sys.length<=20000) (I:Int×Int×BA×LT×Int->OS S):
  ∃ks c,e1 k t 0 x1 x2 x3 x4 x5 x6 sys I=I (8,0,oW,ks,c)/\In k (dS 8 ks)/\(∀z,w3 k0 q (Tm.mk x1 x2 x3 x4 x5 x6) sys= .ok z->dS 8 ks=z/\c=0)/\ ∀e,w3 k0 q (Tm.mk x1 x2 x3 x4 x5 x6) sys= .error e->e≠0/\c=e:=by
 have hk:=M.f3
 obtain ⟨g0,g1⟩:=KQ O
 generalize ha:Tm.mk x1 x2 x3 x4 x5 x6=a at fa
 have T:=aCE hk (kd:=9) (by omega) sy A
 have W:=aCE hk (kd:=10) (by omega) sy A
 have a9:=Sk (kd:=9) (by omega) (.inl fa)
 have Y:=Sk (kd:=10) (by omega) (.inl fa)
 have i9:In k (dS 9 [a]):=a9.1.isIn hk (by omega)
 have i10:In k (dS 10 [a]):=Y.1.isIn hk (by omega)
 generalize E:mM 0 (c6 [k0,dS 9 [a],J4 (parts 9 sys)] (FB k0 (dS 9 [a]) (parts 9 sys)))=F
 generalize hB:mM F.2 (J6 0 1 q)=B
 generalize x:mM B.2 (ri 0 B.1 F.1)=L
 generalize hC:mM L.2 (c6 [L.1,dS 10 [a],J4 (parts 10 sys)] (dF L.1 (dS 10 [a]) (parts 10 sys)))=C
 have fF:FN F.1:=by rw [<-E];exact Bw fun t h=>aA8 hk (f0.isIn hk) i9 T h
 have fB:FN B.1:=by rw [<-hB];exact Bw fun t h=>mD (by omega) f1 h
 have fL:FN L.1:=by
  rw [<-x]
  refine Bw fun t h=> ?_
  unfold ri sh at h
  split at h
  case isFalse=>cases h
  rename_i J
  split at h
  case isFalse=>cases h
  rename_i q2
  exact CP (by omega) ⟨fB.sm.1.ok,J⟩ ⟨fF.sm.1.ok,q2⟩ h
 have iF:In k F.1:=fF.sm.1.isIn hk (by omega)
 have iB:In k B.1:=fB.sm.1.isIn hk (by omega)
 have iL:In k L.1:=fL.sm.1.isIn hk (by omega)
 have fC:FN C.1:=by grind [azg]
 have ad:=cu (n:=80001) (f0.sm.mono (by omega)) a9.1 (by have:=f0.dep;omega) (by omega) (by omega) (aCD (kd:=9) (by omega) sy) (by omega) (by grind [parts])
 refine ⟨[.mk 15 0 oW [] [k0,dS 9 [a]] (parts 9 sys),C.1],C.2, ?_,aGe hk (by omega) ad (fC.sm.1.mono (by omega)), ?_⟩
 ·simp only [e1,ag hk.fu,ar,aIl hk (fun b hb=>(sy b hb).1) A,g0,g1,p9,JM,zc,ha]
  have e9:Tm.mk 9 0 oW [] [a] []=dS 9 [a]:=rfl
  have ao:Tm.mk 10 0 oW [] [a] []=dS 10 [a]:=rfl
  rw [e9,ao,ajm hk (fun _=>⟨f0.isIn hk,i9,T⟩) (fun e h=>BJ (fun e h=>uw h) h),E,Rv hk (fun _=>f1),hB,Hf M (fun _=>⟨iB,iF⟩),x,Rx hk (fun _=>⟨iL,i10,W⟩) (fun e h=>BJ (fun e h=>o_ h) h),hC]
 ·unfold w3
  rw [kR] at E
  cases J:c6 [k0,dS 9 [a],J4 (parts 9 sys)] (FB k0 (dS 9 [a]) (parts 9 sys)) with
  |error e=>
   have he:=BH (fun e h=>uw h) J
   rw [J] at E;subst E
   rw [show (tE (.error e)).2=e from rfl,n9 (show e≠0 by omega)] at hB;subst hB
   dsimp only at x
   rw [n9 (show e≠0 by omega)] at x;subst x
   dsimp only at hC
   rw [n9 (show e≠0 by omega)] at hC;subst hC
   exact ⟨fun z h=>(by cases h),fun e' h=>by injection h with h;omega⟩
  |ok f=>
   have ff:=aA8 hk (f0.isIn hk) i9 T J
   rw [J] at E;subst E
   rw [show (tE (.ok f)).2=0 from rfl,kR] at hB
   rw [aD]
   cases q2:J6 0 1 q with
   |error e=>
    have he:=xJ q2
    rw [q2] at hB;subst hB
    rw [show (tE (.error e)).2=e from rfl,n9 (show e≠0 by omega)] at x;subst x
    dsimp only at hC
    rw [n9 (show e≠0 by omega)] at hC;subst hC
    exact ⟨fun z h=>(by cases h),fun e' h=>by injection h with h;omega⟩
   |ok b=>
    have fb:=mD (by omega) f1 q2
    rw [q2] at hB;subst hB
    rw [show (tE (.ok b)).2=0 from rfl,show (tE (.ok b)).1=b from rfl,show (tE (.ok f)).1=f from rfl,kR,show ri 0 b f=K7 0 b f from by unfold ri sh;rw [if_pos fb.2,if_pos ff.2]] at x
    rw [aD]
    cases q3:K7 0 b f with
    |error e=>
     have he:=AL q3
     rw [q3] at x;subst x
     rw [show (tE (.error e)).2=e from rfl,n9 (show e≠0 by omega)] at hC;subst hC
     exact ⟨fun z h=>(by cases h),fun e' h=>by injection h with h;omega⟩
    |ok line=>
     rw [q3] at x;subst x
     rw [show (tE (.ok line)).2=0 from rfl,show (tE (.ok line)).1=line from rfl,kR] at hC
     rw [aD]
     cases q4:c6 [line,dS 10 [a],J4 (parts 10 sys)] (dF line (dS 10 [a]) (parts 10 sys)) with
     |error e=>
      have he:=BH (fun e h=>o_ h) q4
      rw [q4] at hC;subst hC
      exact ⟨fun z h=>(by cases h),fun e' h=>by injection h with h;subst h;exact ⟨by omega,rfl⟩⟩
     |ok y=>
      rw [q4] at hC;subst hC
      exact ⟨fun z h=>by injection h with h;subst h;exact ⟨rfl,rfl⟩,fun e h=>by cases h⟩
end
abbrev fG (r:LC) (u lo q:Tm):Tm:= .mk 13 0 oW r [u,lo,q] []
def MU (l r:Tm) (x:Br Tm):Except Int (Br Tm):=
 bE (eW (tb x.f 0 1)) fun f=>bE (uC 0 1 0 1 (AK x)) fun u=>bE (J6 0 2 l) fun q=>bE (J6 0 2 r) fun z=> .ok ⟨f,[fG [⟨2,0⟩] u q z]⟩
def c9 (k0 l r a:Tm) (sys:LB):Except Int Tm:=
 bE (J6 0 1 a) fun p=>bE (J6 0 1 l) fun q=>bE (J6 0 1 r) fun x=>bE (Iu (MU l r) sys) fun bs=>bE (J6 0 2 l) fun z=>bE (J6 0 2 r) fun A=>
 .ok (dS 12 [.mk 15 0 oW [] [k0,fG [⟨1,0⟩] p q x] (bs++[⟨[⟨0,1⟩],[z]⟩]++[⟨[⟨1,0⟩],[A]⟩])])
theorem aCF {l r:Tm} {x:Br Tm} {e:Int} (h:MU l r x= .error e):0<e/\e<=1000:=by
 unfold MU at h
 rcases be h with h|⟨_,_,h⟩
 ·exact T2 (q_ _ _ _) h
 rcases be h with h|⟨_,_,h⟩
 ·exact M0 _ h
 rcases be h with h|⟨_,_,h⟩
 ·exact xJ h
 rcases be h with h|⟨_,_,h⟩
 ·exact xJ h
 simp_all
theorem MB {a b:Int} (ha:0<=a/\a<4294967296) (hb:0<=b/\b<4294967296):aq [⟨a,b⟩]/\[(⟨a,b⟩:Cl)].length<1073741824:=⟨fun c hc=>by rw [List.mem_singleton] at hc;subst hc;exact ⟨ha,hb⟩,by simp⟩
theorem hN {r:LC} (A:aq r/\r.length<1073741824) {u lo q:Tm} (f1:FN u) (f2:FN lo) (f3:FN q):Sm 60001 (fG r u lo q)/\am (fG r u lo q)<=201:=by
 have a1:=f1.sm;have a2:=f2.sm;have a3:=f3.sm
 refine ⟨(Hn (kd:=13) (by omega) A (ks:=[u,lo,q]) (sys:=[]) (n:=60000) (m:=0) (fun x z=>by
  simp at z
  rcases z with rfl|rfl|rfl
  ·exact ⟨a1.1.ok,by omega⟩
  ·exact ⟨a2.1.ok,by omega⟩
  ·exact ⟨a3.1.ok,by omega⟩) (by simp) (by rw [ay,ay,ay,ay];have:=a1.1.dP;have:=a2.1.dP;have:=a3.1.dP;omega) (by rw [ba];trivial) (by simp) (by rw [aO];omega) (by rw [aI];omega)).mono (by omega), ?_⟩
 grind [am,aH,aO]
section
variable {x1 x2:Int} {x3:BA} {x4:LC} {x5:LT} {x6 sys:LB}
def Rz (l r:Tm) (c:Int) (x:Br Tm):Br Tm×Int:=
 let R:=if c=0 then tb x.f 0 1 else ([],c)
 let U:=mM R.2 (uC 0 1 0 1 (AK x))
 let A:=mM U.2 (J6 0 2 l)
 let B:=mM A.2 (J6 0 2 r)
 (⟨R.1,[fG [⟨2,0⟩] U.1 A.1 B.1]⟩,B.2)
theorem aHa {l r:Tm} {x:Br Tm} {b:Br Tm} (h:MU l r x= .ok b):Rz l r 0 x=(b,0):=by
 unfold MU at h
 obtain ⟨f,h1,h⟩:=i8 h
 obtain ⟨u,h2,h⟩:=i8 h
 obtain ⟨B,q,h⟩:=i8 h
 obtain ⟨E,z,h⟩:=i8 h
 injection h with h;subst h
 obtain ⟨A,rfl⟩:=rR h1
 unfold Rz
 simp only [if_pos,A,kR,h2,q,z]
 rfl
theorem aHb {l r:Tm} {x:Br Tm} {e:Int} (h:MU l r x= .error e):e≠0/\(Rz l r 0 x).2=e:=by
 have he:=aCF h
 refine ⟨by omega, ?_⟩
 have z:e≠0:=by omega
 unfold MU at h
 unfold Rz
 simp only [if_pos]
 by_cases q:(tb x.f 0 1).2=0
 ·rw [jF q,aD] at h
  rw [q,kR]
  cases q2:uC 0 1 0 1 (AK x) with
  |error e'=>
   grind [lk,tE,n9]
  |ok u=>
   rw [q2,aD] at h
   rw [show (tE (.ok u)).2=0 from rfl,kR]
   cases A:J6 0 2 l with
   |error e'=>
    grind [lk,tE,n9]
   |ok B=>
    rw [A,aD] at h
    rw [show (tE (.ok B)).2=0 from rfl,kR]
    cases E:J6 0 2 r with
    |error e'=>rw [E,lk] at h;injection h with h
    |ok F=>grind [aD]
 grind [iO,lk,n9]
theorem aHc {l r:Tm} {x:Br Tm} {c:Int} (hc:c≠0):(Rz l r c x).2=c:=by
 grind [Rz,n9]
theorem aC9 (hk:F3 k) {t k0 l r:Tm} (a8:t.c=[k0,l,r]) (f0:Fm k0) (f1:Fm l) (f2:Fm r) (fa:Fm (Tm.mk x1 x2 x3 x4 x5 x6)) (sy: ∀b∈sys,b.c=[AK b]/\Fm (AK b)/\RX true b.f) (bc:sys.length<=20000) (I:Int×Int×BA×LT×Int->OS S):
  ∃y c,r' k t 0 x1 x2 x3 x4 x5 x6 sys I=I (12,0,oW,[y],c)/\In k (dS 12 [y])/\(∀z,c9 k0 l r (Tm.mk x1 x2 x3 x4 x5 x6) sys= .ok z->dS 12 [y]=z/\c=0)/\ ∀e,c9 k0 l r (Tm.mk x1 x2 x3 x4 x5 x6) sys= .error e->e≠0/\c=e:=by
 have bf:4294968296<=k:=hk
 have g0:af t.c 0=some k0:=ED (n:=0) rfl (by grind)
 have g1:af t.c 1=some l:=ED (n:=1) rfl (by grind)
 have g2:af t.c 2=some r:=ED (n:=2) rfl (by grind)
 generalize ha:Tm.mk x1 x2 x3 x4 x5 x6=a at fa
 have Y: ∀ {t:Tm} (ft:Fm t) (c:Int) (g:Tm×Int->OS S),zb k t 0 1 c g=g (mM c (J6 0 1 t)):=fun ft c g=>h6 hk ft (by omega) (by omega) g
 have T: ∀ {t:Tm} (ft:Fm t) (c:Int) (g:Tm×Int->OS S),zb k t 0 2 c g=g (mM c (J6 0 2 t)):=fun ft c g=>h6 hk ft (by omega) (by omega) g
 generalize hP:mM 0 (J6 0 1 a)=P
 generalize O:mM P.2 (J6 0 1 l)=Lo
 generalize M:mM Lo.2 (J6 0 1 r)=Hi
 have fP:FN P.1:=by rw [<-hP];exact Bw fun t h=>mD (by omega) fa h
 have ax:FN Lo.1:=by rw [<-O];exact Bw fun t h=>mD (by omega) f1 h
 have az:FN Hi.1:=by rw [<-M];exact Bw fun t h=>mD (by omega) f2 h
 have key:=fun RET=>aAX (S:=S) (l:=sys) (L:=fun m c i acc=>jc k I x1 x2 x3 x4 x5 x6 sys t l r (13,0,oW,[⟨1,0⟩],[P.1,Lo.1,Hi.1]) m c acc i) (I:=RET) (g:=Rz l r) (F:=MU l r) (Q:=BrQ 60001) (by omega)
 obtain ⟨l',h1,h2,h3,h4⟩:=key (fun q=>I (12,0,oW,[.mk 15 0 oW [] [k0,fG [⟨1,0⟩] P.1 Lo.1 Hi.1] (q.1++[⟨[⟨0,1⟩],[(mM q.2 (J6 0 2 l)).1]⟩]++[⟨[⟨1,0⟩],[(mM (mM q.2 (J6 0 2 l)).2 (J6 0 2 r)).1]⟩])],(mM (mM q.2 (J6 0 2 l)).2 (J6 0 2 r)).2))
  (fun m c acc ao=>by
   have:=xu (l:=sys) (p:=sys) (by simp)
   simp only [jc,s8,this,n3,ag hk.fu,ar,T f1,T f2,wi,JM,zc]
   grind [J5])
  (fun m c x p q acc h ao=>by
   obtain ⟨e1,e2,e3,_⟩:=qF h (by omega)
   obtain ⟨q1,q2,W⟩:=sy x (by grind)
   have hg:af x.c 0=some (AK x):=ED (n:=0) rfl (by grind)
   have a6:pH 1 1 (AK x)=uC 0 1 0 1 (AK x):=if_pos q2.2
   simp only [jc,s8,e1,ae,e2,p9,hg,ag hk.fu,ar,T f1,T f2,wi,tO,e3]
   rw [v_ hk W.1.2 (G9 W).2 (by omega),v6 hk (b:=1) (fun _=>q2.isIn hk) (by omega),a6,J5 (by grind)]
   rfl)
  (fun x hx b h=>aHa h) (fun x hx e h=>aHb h) (fun x hx c hc=>aHc hc)
  (fun x hx c=>by
   obtain ⟨q1,q2,W⟩:=sy x hx
   unfold Rz
   have fU: ∀c,FN (mM c (uC 0 1 0 1 (AK x))).1:=fun c=>Bw fun t h=>jr (by omega) q2 h
   have fA: ∀c,FN (mM c (J6 0 2 l)).1:=fun c=>Bw fun t h=>mD (by omega) f1 h
   have fB: ∀c,FN (mM c (J6 0 2 r)).1:=fun c=>Bw fun t h=>mD (by omega) f2 h
   have ad:=hN (MB (a:=2) (b:=0) (by omega) (by omega)) (fU (if c=0 then tb x.f 0 1 else ([],c)).2) (fA (mM (if c=0 then tb x.f 0 1 else ([],c)).2 (uC 0 1 0 1 (AK x))).2) (fB (mM (mM (if c=0 then tb x.f 0 1 else ([],c)).2 (uC 0 1 0 1 (AK x))).2 (J6 0 2 l)).2)
   refine ⟨_,rfl,ad.1,by omega, ?_⟩
   show aq (if c=0 then tb x.f 0 1 else ([],c)).1/\_
   split
   ·exact o5 W.1
   ·exact ⟨fun c hc=>(by cases hc),by simp⟩)
  sys [] [] k Hi.2 rfl (by omega) (by grind)
 generalize hE:ut (DQ Hi.2 (Iu (MU l r) sys))=E at h1
 generalize hA:mM E (J6 0 2 l)=A at h1
 generalize hB:mM A.2 (J6 0 2 r)=B at h1
 have fA:FN A.1:=by rw [<-hA];exact Bw fun t h=>mD (by omega) f1 h
 have fB:FN B.1:=by rw [<-hB];exact Bw fun t h=>mD (by omega) f2 h
 have ad:=hN (MB (a:=1) (b:=0) (by omega) (by omega)) fP ax az
 have a7:sk 60001 (l'++[⟨[⟨0,1⟩],[A.1]⟩]++[⟨[⟨1,0⟩],[B.1]⟩]):=SK (SK h3 (My (MB (by omega) (by omega)) (fA.sm.1.mono (by omega)) (by have:=fA.sm.2;omega) (Mc _))) (My (MB (by omega) (by omega)) (fB.sm.1.mono (by omega)) (by have:=fB.sm.2;omega) (Mc _))
 refine ⟨_,B.2, ?_,aBl hk (by omega) (cu (n:=60001) (x:=k0) (y:=fG [⟨1,0⟩] P.1 Lo.1 Hi.1) (f0.sm.mono (by omega)) ad.1 (by have:=f0.dep;omega) (by omega) (by omega) a7 (by omega) (by simp;omega)), ?_⟩
 ·simp only [r',aAe,ag hk.fu,ar,g1,g2,p9,ha,Y fa,Y f1,Y f2,tO,hP,O,M]
  exact h1
 ·unfold c9
  rw [kR] at hP
  cases q1:J6 0 1 a with
  |error e=>
   have he:=xJ q1
   have J:e≠0:=by omega
   rw [q1] at hP;subst hP
   rw [show (tE (.error e)).2=e from rfl,n9 J] at O;subst O
   dsimp only at M
   rw [n9 J] at M;subst M
   rw [lb J] at hE
   have hE:e=E:=hE
   subst hE
   rw [n9 J] at hA;subst hA
   dsimp only at hB
   rw [n9 J] at hB;subst hB
   exact ⟨fun z h=>(by cases h),fun e' h=>by injection h with h;omega⟩
  |ok p=>
   rw [q1] at hP;subst hP
   rw [show (tE (.ok p)).2=0 from rfl,kR] at O
   rw [aD]
   cases q2:J6 0 1 l with
   |error e=>
    have he:=xJ q2
    have J:e≠0:=by omega
    rw [q2] at O;subst O
    rw [show (tE (.error e)).2=e from rfl,n9 J] at M;subst M
    rw [lb J] at hE
    have hE:e=E:=hE
    subst hE
    rw [n9 J] at hA;subst hA
    dsimp only at hB
    rw [n9 J] at hB;subst hB
    exact ⟨fun z h=>(by cases h),fun e' h=>by injection h with h;omega⟩
   |ok lo=>
    rw [q2] at O;subst O
    rw [show (tE (.ok lo)).2=0 from rfl,kR] at M
    rw [aD]
    cases W:J6 0 1 r with
    |error e=>
     have he:=xJ W
     have J:e≠0:=by omega
     rw [W] at M;subst M
     rw [show (tE (.error e)).2=e from rfl,lb J] at hE
     have hE:e=E:=hE
     subst hE
     rw [n9 J] at hA;subst hA
     dsimp only at hB
     rw [n9 J] at hB;subst hB
     exact ⟨fun z h=>(by cases h),fun e' h=>by injection h with h;omega⟩
    |ok hi=>
     rw [W] at M;subst M
     rw [show (tE (.ok hi)).2=0 from rfl,oH] at hE h4
     rw [aD]
     cases q4:Iu (MU l r) sys with
     |error e=>
      have he:=aCv (fun x _ e h=>aCF h) q4
      have J:e≠0:=by omega
      rw [q4] at hE
      have hE:e=E:=hE
      subst hE
      rw [n9 J] at hA;subst hA
      dsimp only at hB
      rw [n9 J] at hB;subst hB
      exact ⟨fun z h=>(by cases h),fun e' h=>by injection h with h;omega⟩
     |ok bs=>
      have:=h4 bs q4
      subst this
      rw [q4] at hE
      have hE:0=E:=hE
      subst hE
      rw [kR] at hA
      rw [aD]
      cases q5:J6 0 2 l with
      |error e=>
       have he:=xJ q5
       have J:e≠0:=by omega
       rw [q5] at hA;subst hA
       rw [show (tE (.error e)).2=e from rfl,n9 J] at hB;subst hB
       exact ⟨fun z h=>(by cases h),fun e' h=>by injection h with h;omega⟩
      |ok l2=>
       rw [q5] at hA;subst hA
       rw [show (tE (.ok l2)).2=0 from rfl,kR] at hB
       rw [aD]
       cases q6:J6 0 2 r with
       |error e=>
        have he:=xJ q6
        rw [q6] at hB;subst hB
        exact ⟨fun z h=>(by cases h),fun e' h=>by injection h with h;subst h;exact ⟨by omega,rfl⟩⟩
       |ok r2=>
        rw [q6] at hB;subst hB
        exact ⟨fun z h=>by injection h with h;subst h;exact ⟨rfl,rfl⟩,fun e h=>by cases h⟩
end
def idT:Tm:=dS 8 w5
def aJe (a:Tm) (x:Br Tm):Except Int (Br Tm):=
 bE (Ab 0 [⟨0,0⟩] (AK x)) fun e=>bE (J6 0 1 a) fun a'=>bE (c6 [AK x,a'] (aFL (AK x) a')) fun l=> .ok ⟨x.f,[e,dS 14 [l,idT]]⟩
def aJf (a:Tm) (sys:LB):Except Int Tm:=bE (Iu (aJe a) sys) fun bs=> .ok (.mk 16 0 oW [] [a] bs)
theorem Q3:Fm idT:=⟨by
 have:=(show pf (dS 8 w5) from by
  unfold w5 azL vN dS
  repeat' first|rw [pf]|rw [aZ]|rw [ba]|refine ⟨?_, ?_⟩|refine ⟨⟨by unfold aG;omega,by unfold aG;omega,by decide, ?_,by simp,by simp,by simp⟩, ?_, ?_⟩|trivial|exact (MB (by omega) (by omega)).1|exact (fun c hc=>by cases hc))
 exact this,aFR⟩
section
variable {x1 x2:Int} {x3:BA} {x4:LC} {x5:LT} {x6 sys:LB}
def D1 (x:Br Tm):Prop:= ∃t u,x.c=[t,u]/\Sm 20000 t/\Sm 80001 u/\am t<=200/\am u<=201/\aq x.f/\x.f.length<1073741824
theorem aAN {l:LB} (h: ∀x∈l,D1 x):ba l/\aI l<=l.length*100001/\aO l<=201:=by
 induction l with
 |nil=>grind [ba,aI,aO]
 |cons x l q=>
  obtain ⟨i1,i2,i3⟩:=q fun x z=>h x (by simp [z])
  obtain ⟨t,u,e,h1,h2,d1,d2,A,B⟩:=h x (by simp)
  obtain ⟨f,E⟩:=x
  have e:E=[t,u]:=e
  subst e
  refine ⟨?_, ?_, ?_⟩
  ·rw [ba,Fa,aZ,aZ,aZ];exact ⟨⟨⟨A,B,by simp⟩,h1.ok,h2.ok,trivial⟩,i1⟩
  ·rw [aI,Fs,ay,ay,ay,ue,Nat.succ_mul];have:=h1.dP;have:=h2.dP;omega
  grind [aO,Ey,aH]
end
def ov (t:Tm):Except Int Tm:=
 let k0:=t.c.getD 0 oe
 let a:=t.c.getD 1 oe
 if k0.k=4 then u6 (k0.c.getD 1 oe) a t.s
 else if k0.k=7 then w3 (k0.c.getD 0 oe) (k0.c.getD 1 oe) a t.s
 else if k0.k=11 then c9 (k0.c.getD 0 oe) (k0.c.getD 1 oe) (k0.c.getD 2 oe) a t.s
 else if k0.k=3 then aJf a t.s
 else y0 t
def Q7 (t:Tm):Tm×Bool×Int:=
 if bw t≠0 then (oe,false,bw t) else
 if t.k=15/\((t.c.getD 0 oe).k=4\/(t.c.getD 0 oe).k=7\/(t.c.getD 0 oe).k=11\/(t.c.getD 0 oe).k=3\/(t.c.getD 0 oe).k=16) then FA (ov t) else (oe,false,0)
def SA (v d:Int) (m:Tm):Except Int Tm:=bE (oK 1 v m) fun y=>pH 0 d y
theorem aDt {f b:Int} (hb:0<=b/\b<=1000000) {m y:Tm} (q:pf m) (h:oK f b m= .ok y):Fm y:=by
 unfold oK sh at h
 split at h
 case isFalse=>cases h
 rename_i x
 exact jr (by omega) ⟨q,x⟩ h
theorem l' {f b:Int} (hb:0<=b/\b<=1000) {m y:Tm} (q:pf m) (h:pH f b m= .ok y):Fm y:=by
 unfold pH sh at h
 split at h
 case isFalse=>cases h
 rename_i x
 exact jr (by omega) ⟨q,x⟩ h
theorem aEZ {v d:Int} (hv:0<=v/\v<=1000) (hd:0<=d/\d<=1000) {m y:Tm} (q:pf m) (h:SA v d m= .ok y):Fm y:=by
 unfold SA at h
 obtain ⟨x,h1,h2⟩:=i8 h
 exact l' hd (aDt (by omega) q h1).ok h2
theorem aIu (hk:F3 k) {m:Tm} {v d c:Int} (hv:0<=v/\v<=1000) (hd:0<=d/\d<=1000) (z:c=0->In k m) (I:Tm×Int->OS S):Sf k m v d c I=I (mM c (SA v d m)):=by
 simp only [Sf,ag hk.fu,dG,ar,rJ]
 by_cases hc:c=0
 case neg=>rw [dj hc,sQ,ae,n9 hc];rfl
 have q:=z hc
 subst hc
 rw [show (!((0:Int)==0))=false from rfl,n3,kR,ai0 hk q (by omega) (by omega),if_pos rfl]
 unfold SA
 cases x:oK 1 v m with
 |error e=>
  have he:=aJg e x
  rw [show (tE (.error e)).2=e from rfl,if_neg (show e≠0 by omega)]
  dsimp only
  rw [dj (show e≠0 by omega),sQ,ae];rfl
 |ok y=>
  have fy:=aDt (by omega) q.1 x
  rw [show (tE (.ok y)).2=0 from rfl,show (tE (.ok y)).1=y from rfl,if_pos rfl]
  dsimp only
  rw [show (!((0:Int)==0))=false from rfl,n3,ek hk (fy.isIn hk) (by omega) (by omega),aD]
  have:=Lw (pH 0 d y) (FP aak) 0
  grind [kR]
theorem aER (hk:F3 k) {line a y:Tm} {nX r:LC} {en:Cl} (hl:pf line) (ha:pf a) (hp:RF nX) (he:aX en) (q:RF r) (h:FG line nX a en r= .ok y):Fm y:=by
 unfold FG at h
 split at h
 case isFalse=>cases h
 rename_i so
 split at h
 case isFalse=>cases h
 unfold FC at h
 obtain ⟨z,h1,h⟩:=i8 h
 split at h
 case isFalse=>cases h
 rename_i f0
 injection h with h;subst h
 have:=Sq (l:=[line,a]) (fun x A=>by
  grind) so
 exact ⟨(aAH hk (this line (by simp)) (this a (by simp)) hp he h1).1.1,f0⟩
theorem aAG {line a:Tm} {nX r:LC} {en:Cl} {e:Int} (h:FG line nX a en r= .error e):e≠0:=aET h
section
variable {nX:LC} {x1 x2:Int} {x3:BA} {x4:LC} {x5:LT} {x6:LB}
theorem aIC (hk:F3 k) {l a:Tm} {c:Int} (hl:In k l) (ha:In k a) (hp:aq nX/\nX.length<1073741824) (I:Tm×Int->OS S):k4 k l nX a c I=I (mM c (FG l nX a ⟨1,0⟩ [⟨0,1⟩,⟨2,0⟩])):=by
 simp only [k4,ag hk.fu,dG,ar,rJ]
 exact Az c (fun h g=>aHR hk hl ha hp.1 hp.2 g) (fun e h=>aAG h) I
theorem aDh (hk:F3 k) {l a:Tm} {c:Int} (hl:In k l) (ha:In k a) (hp:aq nX/\nX.length<1073741824) (I:Tm×Int->OS S):j2 k l nX a c I=I (mM c (FG l nX a ⟨0,1⟩ [⟨3,0⟩])):=by
 simp only [j2,ag hk.fu,dG,ar,rJ]
 exact Az c (fun h g=>aHV hk hl ha hp.1 hp.2 g) (fun e h=>aAG h) I
end
theorem aHO:RF [⟨2,0⟩]:=gS ⟨⟨by decide,by decide⟩,by decide,by decide⟩
def Ip (t:Tm):Except Int Tm:=bE (uC 0 1 0 2 t) fun y=>Ab 0 [⟨2,0⟩] y
def Sp (t:Tm):Except Int Tm:=sh t (Ip t)
theorem aIF (hk:F3 k) {t:Tm} (x:In k t) (I:Tm×Int->OS S):c5 k t I=I (tE (Sp t)):=by
 simp only [c5,ag hk.fu,ar,ek hk x (f:=2) (b:=1) (by decide) (by omega)]
 unfold Sp pH sh
 by_cases q:bw t=0
 case neg=>rw [if_neg q,if_neg q,show (tE (.error (bw t):Except Int Tm)).2=bw t from rfl,dj q,sQ,ae];rfl
 rw [if_pos q,if_pos q]
 have ft:Fm t:=⟨x.1,q⟩
 unfold Ip
 cases hl:uC 0 1 0 2 t with
 |error e=>
  have he:=M0 t hl
  rw [show (tE (.error e)).2=e from rfl,dj (show e≠0 by omega),sQ,ae];rfl
 |ok y=>
  have fy:=jr (by omega) ft hl
  rw [show (tE (.ok y)).2=0 from rfl,show (tE (.ok y)).1=y from rfl,show (!((0:Int)==0))=false from rfl,n3,ap8 hk (fy.isIn hk) (i:=0) (by decide) aHO,aD,show wv 0 [⟨2,0⟩] y=Ab 0 [⟨2,0⟩] y from if_pos fy.2]
def Q2 (x:Tm):Prop:=Sm 20000 x/\am x<=200
theorem Q2.isIn {x:Tm} (h:Q2 x) (hk:F3 k):In k x:=h.1.isIn hk (by omega)
theorem Fm.q2 {x:Tm} (h:Fm x):Q2 x:=⟨h.sm,h.dep⟩
theorem KO:Q2 oe:=(FN.sm (.inr rfl))
theorem LR {c:Int} {x:Except Int Tm} (h: ∀t,x= .ok t->Q2 t):Q2 (mM c x).1:=by
 unfold mM
 split
 ·cases x with
  |error e=>exact KO
  |ok t=>exact h t rfl
 ·exact KO
theorem RE {t y:Tm} {x:Except Int Tm} (h:sh t x= .ok y):bw t=0/\x= .ok y:=by
 unfold sh at h
 split at h
 ·rename_i q;exact ⟨q,h⟩
 ·cases h
theorem IH {a b:Int} {t y:Tm} (q:pf t) (h:wA a b t= .ok y):Fm t/\J6 a b t= .ok y:=⟨⟨q,(RE h).1⟩,(RE h).2⟩
theorem Si {i:Int} {r:LC} {t y:Tm} (q:pf t) (h:wv i r t= .ok y):Fm t/\Ab i r t= .ok y:=⟨⟨q,(RE h).1⟩,(RE h).2⟩
theorem aHg {n:Int} {t u y:Tm} (q:pf t) (hu:pf u) (h:ri n t u= .ok y):Fm t/\Fm u/\K7 n t u= .ok y:=by
 obtain ⟨h1,h2⟩:=RE h
 obtain ⟨x,z⟩:=RE h2
 exact ⟨⟨q,h1⟩,⟨hu,x⟩,z⟩
theorem aIV {t y:Tm} (q:pf t) (h:Sp t= .ok y):Fm t/\Ip t= .ok y:=⟨⟨q,(RE h).1⟩,(RE h).2⟩
theorem aDs {a b:Int} (ha:0<=a/\a<=1000) (hb:0<=b/\b<=1000) {t y:Tm} (q:pf t) (h:wA a b t= .ok y):Q2 y:=(mD (by omega) (IH q h).1 (IH q h).2).q2
theorem Sn {r:LC} {t y:Tm} (q:pf t) (h:wv 0 r t= .ok y):Q2 y:=by
 obtain ⟨h1,h2⟩:=Si q h
 obtain ⟨x,q2,z⟩:=mu h1 h2
 exact ⟨⟨x,z,by omega⟩,q2⟩
theorem azK {t u y:Tm} (q:pf t) (hu:pf u) (h:ri 0 t u= .ok y):Q2 y:=by
 obtain ⟨h1,h2,x⟩:=aHg q hu h
 exact (CP (by omega) h1 h2 x).q2
theorem aIW {t y:Tm} (q:pf t) (h:Sp t= .ok y):Q2 y:=by
 obtain ⟨h1,h2⟩:=aIV q h
 unfold Ip at h2
 obtain ⟨z,x,A⟩:=i8 h2
 obtain ⟨B,q2,E⟩:=mu (jr (by omega) h1 x) A
 exact ⟨⟨B,E,by omega⟩,q2⟩
theorem aE0 {v d:Int} (hv:0<=v/\v<=1000) (hd:0<=d/\d<=1000) {m y:Tm} (q:pf m) (h:SA v d m= .ok y):Q2 y:=(aEZ hv hd q h).q2
theorem ayY (hk:F3 k) {line a y:Tm} {nX r:LC} {en:Cl} (hl:pf line) (ha:pf a) (hp:RF nX) (he:aX en) (q:RF r) (h:FG line nX a en r= .ok y):Q2 y:=(aER hk hl ha hp he q h).q2
theorem ea:RF []:=rA
section
variable {nX:LC} {x1 x2:Int} {x3:BA} {x4:LC} {x5:LT} {x6:LB}
def tPi (nX:LC) (k0 k1 a:Tm):Tm×Int:=
 let U:=mM 0 (wA 1 0 k0)
 let W:=mM U.2 (FG U.1 nX (vN 0) ⟨1,0⟩ [⟨0,1⟩,⟨2,0⟩])
 let B0:=mM W.2 (SA 1 0 k1)
 let B:=mM B0.2 (ri 0 B0.1 W.1)
 let F:=mM B.2 (wA 1 0 a)
 let T:=mM F.2 (wv 0 [] W.1)
 (dS 5 [xH nX B.1 (dS 6 [F.1,T.1])],T.2)
def az6 (nX:LC) (k0 k1 a:Tm):Tm×Int:=
 let R:=mM 0 (FG k0 nX (dS 9 [a]) ⟨0,1⟩ [⟨3,0⟩])
 let B:=mM R.2 (ri 0 k1 R.1)
 (dS 8 [xH nX k0 (dS 9 [a]),xH nX B.1 (dS 10 [a])],B.2)
end
theorem Mi {n:Int} (hn:0<=n/\n<=1000):Q2 (vN n):=by
 unfold vN
 refine ⟨⟨?_, ?_, ?_⟩, ?_⟩
 ·rw [pf,aZ,ba];exact ⟨⟨by unfold aG;omega,by unfold aG;omega,by decide,(fun c hc=>by cases hc),by simp,by simp,by simp⟩,trivial,trivial⟩
 ·rw [au,ay,aI];omega
 ·rw [am,aH,aO];omega
 ·rw [am,aH,aO];omega
theorem aG8:aX ⟨1,0⟩:=⟨⟨by decide,by decide⟩,⟨by decide,by decide⟩⟩
theorem aCx:aX ⟨0,1⟩:=⟨⟨by decide,by decide⟩,⟨by decide,by decide⟩⟩
section
variable {nX:LC} {x1 x2:Int} {x3:BA} {x4:LC} {x5:LT} {x6:LB}
theorem aDg (q:F4 k) {l k0 k1:Tm} (L:l.c=[k0,k1]) (f0:Fm k0) (f1:Fm k1) (fa:Fm (Tm.mk x1 x2 x3 x4 x5 x6)) (hp:RX true nX) (I:Int×Int×BA×LT×Int->OS S):
  ∃ks c,rv k l 0 nX x1 x2 x3 x4 x5 x6 I=I (5,0,oW,ks,c)/\(dS 5 ks,c)=tPi nX k0 k1 (Tm.mk x1 x2 x3 x4 x5 x6)/\In k (dS 5 ks):=by
 have hk:=q.f3
 obtain ⟨g0,g1⟩:=KQ L
 generalize ha:Tm.mk x1 x2 x3 x4 x5 x6=a at fa
 unfold tPi
 dsimp only
 generalize hU:mM 0 (wA 1 0 k0)=U
 generalize hW:mM U.2 (FG U.1 nX (vN 0) ⟨1,0⟩ [⟨0,1⟩,⟨2,0⟩])=W
 generalize z:mM W.2 (SA 1 0 k1)=B0
 generalize hB:mM B0.2 (ri 0 B0.1 W.1)=B
 generalize hF:mM B.2 (wA 1 0 a)=F
 generalize hT:mM F.2 (wv 0 [] W.1)=T
 have qU:Q2 U.1:=by rw [<-hU];exact LR fun t h=>aDs (by omega) (by omega) f0.ok h
 have J:Q2 W.1:=by rw [<-hW];exact LR fun t h=>ayY hk qU.1.ok (Mi (by omega)).1.ok hp.1 aG8 aC4 h
 have A:Q2 B0.1:=by rw [<-z];exact LR fun t h=>aE0 (by omega) (by omega) f1.ok h
 have M:Q2 B.1:=by rw [<-hB];exact LR fun t h=>azK A.1.ok J.1.ok h
 have O:Q2 F.1:=by rw [<-hF];exact LR fun t h=>aDs (by omega) (by omega) fa.ok h
 have Y:Q2 T.1:=by rw [<-hT];exact LR fun t h=>Sn J.1.ok h
 have h6:=Mz (kd:=6) (by omega) (n:=20000) (ks:=[F.1,T.1]) (fun x E=>by
  simp at E
  rcases E with rfl|rfl
  ·exact ⟨O.1,by have:=O.2;omega⟩
  ·exact ⟨Y.1,by have:=Y.2;omega⟩) (by simp)
 have d6:am (dS 6 [F.1,T.1])<=201:=by unfold dS;rw [am,aH,aH,aH,aO];have:=O.2;have:=Y.2;omega
 have ad:=MD (G9 hp) M.1 h6.1 (by have:=M.2;omega) (by omega)
 have d14:am (xH nX B.1 (dS 6 [F.1,T.1]))<=202:=by unfold xH;rw [am,aH,aH,aH,aO];have:=M.2;omega
 have h5:=Mz (kd:=5) (by omega) (ks:=[xH nX B.1 (dS 6 [F.1,T.1])]) (fun x E=>by
  simp at E;subst E;exact ⟨ad,by omega⟩) (by simp)
 refine ⟨_,T.2, ?_,rfl,h5.1.isIn hk (by omega)⟩
 simp only [rv,ag hk.fu,ar,g0,g1,p9,Ns,zc,Nk,tO,ha]
 have e0:Tm.mk 1 0 oW [] [] []=vN 0:=rfl
 have i0:=(Mi (n:=0) (by omega)).isIn hk
 rw [E8 hk (fun _=>f0.isIn hk) (by omega) (by omega),hU]
 rw [e0,aIC hk (qU.isIn hk) i0 (G9 hp),hW,aIu hk (by omega) (by omega) (fun _=>f1.isIn hk),z,Hf q (fun _=>⟨A.isIn hk,J.isIn hk⟩),hB,E8 hk (fun _=>fa.isIn hk) (by omega) (by omega),hF,SN hk (fun _=>J.isIn hk) ea,hT]
 rfl
theorem aDi (z:F4 k) {l k0 k1:Tm} (E:l.c=[k0,k1]) (f0:Fm k0) (f1:Fm k1) (fa:Fm (Tm.mk x1 x2 x3 x4 x5 x6)) (hp:RX true nX) (I:Int×Int×BA×LT×Int->OS S):
  ∃ks c,xo k l 0 nX x1 x2 x3 x4 x5 x6 I=I (8,0,oW,ks,c)/\(dS 8 ks,c)=az6 nX k0 k1 (Tm.mk x1 x2 x3 x4 x5 x6)/\In k (dS 8 ks):=by
 have hk:=z.f3
 obtain ⟨g0,g1⟩:=KQ E
 generalize ha:Tm.mk x1 x2 x3 x4 x5 x6=a at fa
 unfold az6
 dsimp only
 have a9:=Sk (kd:=9) (by omega) (.inl fa)
 have q:=Sk (kd:=10) (by omega) (.inl fa)
 have i9:In k (dS 9 [a]):=a9.1.isIn hk (by omega)
 generalize L:mM 0 (FG k0 nX (dS 9 [a]) ⟨0,1⟩ [⟨3,0⟩])=R
 generalize hB:mM R.2 (ri 0 k1 R.1)=B
 have M:Q2 R.1:=by rw [<-L];exact LR fun t h=>ayY hk f0.ok a9.1.ok hp.1 aCx QD h
 have F:Q2 B.1:=by rw [<-hB];exact LR fun t h=>azK f1.ok M.1.ok h
 have J:=MD (G9 hp) f0.sm a9.1 (by have:=f0.dep;omega) (by have:=a9.2;omega)
 have A:=MD (G9 hp) F.1 q.1 (by have:=F.2;omega) (by have:=q.2;omega)
 have d14:am (xH nX k0 (dS 9 [a]))<=202:=by unfold xH;rw [am,aH,aH,aH,aO];have:=f0.dep;have:=a9.2;omega
 have O:am (xH nX B.1 (dS 10 [a]))<=202:=by unfold xH;rw [am,aH,aH,aH,aO];have:=F.2;have:=q.2;omega
 have W:=Mz (kd:=8) (by omega) (n:=100002) (ks:=[xH nX k0 (dS 9 [a]),xH nX B.1 (dS 10 [a])]) (fun x T=>by
  simp at T
  rcases T with rfl|rfl
  ·exact ⟨J.mono (by omega),by omega⟩
  ·exact ⟨A.mono (by omega),by omega⟩) (by simp)
 refine ⟨_,B.2, ?_,rfl,W.1.isIn hk (by omega)⟩
 simp only [xo,ag hk.fu,ar,g0,g1,p9,zc,Nk,tO,ha]
 have Y:Tm.mk 9 0 oW [] [a] []=dS 9 [a]:=rfl
 rw [Y,aDh hk (f0.isIn hk) i9 (G9 hp),L,Hf z (fun _=>⟨f1.isIn hk,M.isIn hk⟩),hB]
 rfl
end
def Nr (c:Int) (f:LC):LC×Int:=if c=0 then tb f 0 1 else ([],c)
def sc (b:Int) (r:LC) (a u v:Tm) (c:Int):Tm×Int:=
 let P:=mM c (wA 0 b a)
 let X:=mM P.2 (wA 0 b u)
 let Y:=mM X.2 (wA 0 b v)
 (fG r P.1 X.1 Y.1,Y.2)
def az2 (nX:LC) (a u v:Tm) (c:Int):LB×Int:=
 if nX.length=0 then ([],c) else
  let f:=Nr c nX
  let q:=sc 2 [⟨2,0⟩] a u v f.2
  ([⟨f.1,[q.1]⟩],q.2)
def az4 (nX:LC) (k0 l r a:Tm):Tm×Int:=
 let u:=mM 0 (wv 0 [] l)
 let v:=mM u.2 (wv 0 [] r)
 let L:=mM v.2 (Sp k0)
 let b:=sc 1 [⟨1,0⟩] a u.1 v.1 L.2
 let s:=az2 nX a u.1 v.1 b.2
 let q:=mM s.2 (pH 1 1 l)
 let r1:=mM q.2 (pH 1 1 r)
 let sys:=s.1++[⟨[⟨0,1⟩],[q.1]⟩]++[⟨[⟨1,0⟩],[r1.1]⟩]
 let C:=mM r1.2 (c6 [L.1,b.1,J4 sys] (dF L.1 b.1 sys))
 (dS 12 [C.1],C.2)
section
variable {nX:LC} {x1 x2:Int} {x3:BA} {x4:LC} {x5:LT} {x6:LB}
theorem aAI {b:Int} (hb:0<=b/\b<=1000) {r:LC} {a u v:Tm} {c:Int} (x:pf a) (z:pf u) (A:pf v) (B:aq r/\r.length<1073741824):Sm 60001 (sc b r a u v c).1/\am (sc b r a u v c).1<=201:=by
 have f: ∀ {t:Tm} (q:pf t) (c:Int),FN (mM c (wA 0 b t)).1:=fun q c=>Bw fun t h=>mD (by omega) (IH q h).1 (IH q h).2
 exact hN B (f x _) (f z _) (f A _)
theorem aDe (hk:F3 k) {b c:Int} (hb:0<=b/\b<1000) {r:Cl} {u v:Tm} (q:In k (Tm.mk x1 x2 x3 x4 x5 x6)) (x:In k u) (z:In k v) (I:Int×Int×BA×LC×LT×Int->OS S):
  ∃ks,p3 k b r u v c nX x1 x2 x3 x4 x5 x6 I=I (13,0,oW,[r],ks,(sc b [r] (Tm.mk x1 x2 x3 x4 x5 x6) u v c).2)/\Tm.mk 13 0 oW [r] ks []=(sc b [r] (Tm.mk x1 x2 x3 x4 x5 x6) u v c).1:=by
 refine ⟨_, ?_,rfl⟩
 simp only [p3,ag hk.fu,ar,tO]
 rw [E8 hk (fun _=>q) (by omega) hb,E8 hk (fun _=>x) (by omega) hb,E8 hk (fun _=>z) (by omega) hb]
 rfl
theorem aH4 (hk:F3 k) {t:Tm} {c:Int} (q:In k t) (I:Tm×Int->OS S):K' k t c nX x1 x2 x3 x4 x5 x6 I=I (mM c (Sp t)):=by
 simp only [K',ag hk.fu,ar,aIF hk q]
 by_cases hc:c=0
 ·subst hc;rw [show (!((0:Int)==0))=false from rfl,n3,kR]
 ·rw [dj hc,sQ,ae,n9 hc];rfl
theorem aHP {c:Int} {f:LC} (h:RF f):aq (Nr c f).1/\(Nr c f).1.length<1073741824:=by
 unfold Nr
 split
 ·exact o5 h
 ·exact ⟨fun c hc=>(by cases hc),by simp⟩
theorem aDf (hk:F3 k) {t k0 l r:Tm} (E:t.c=[k0,l,r]) (f0:Fm k0) (f1:Fm l) (f2:Fm r) (fa:Fm (Tm.mk x1 x2 x3 x4 x5 x6)) (hp:RX true nX) (I:Int×Int×BA×LT×Int->OS S):
  ∃ks c,h7 k t 0 nX x1 x2 x3 x4 x5 x6 I=I (12,0,oW,ks,c)/\(dS 12 ks,c)=az4 nX k0 l r (Tm.mk x1 x2 x3 x4 x5 x6)/\In k (dS 12 ks):=by
 have g0:af t.c 0=some k0:=ED (n:=0) rfl (by rw [E];rfl)
 have g1:af t.c 1=some l:=ED (n:=1) rfl (by rw [E];rfl)
 have g2:af t.c 2=some r:=ED (n:=2) rfl (by rw [E];rfl)
 have ia:=fa.isIn hk
 unfold az4
 dsimp only
 generalize hu:mM 0 (wv 0 [] l)=u
 generalize hv:mM u.2 (wv 0 [] r)=v
 generalize hL:mM v.2 (Sp k0)=L
 have Y:Q2 u.1:=by rw [<-hu];exact LR fun t h=>Sn f1.ok h
 have qv:Q2 v.1:=by rw [<-hv];exact LR fun t h=>Sn f2.ok h
 have qL:Q2 L.1:=by rw [<-hL];exact LR fun t h=>aIW f0.ok h
 have ad:=fun c=>aAI (b:=1) (r:=[⟨1,0⟩]) (c:=c) (by omega) fa.ok Y.1.ok qv.1.ok (MB (by omega) (by omega))
 have ao:=fun c=>aAI (b:=2) (r:=[⟨2,0⟩]) (c:=c) (by omega) fa.ok Y.1.ok qv.1.ok (MB (by omega) (by omega))
 have sb:=ad L.2
 have T:=fun (g:Int×Int×BA×LC×LT×Int->OS S)=>aDe (nX:=nX) hk (b:=1) (c:=L.2) (by omega) (r:=⟨1,0⟩) ia (Y.isIn hk) (qv.isIn hk) g
 generalize az:sc 1 [⟨1,0⟩] (Tm.mk x1 x2 x3 x4 x5 x6) u.1 v.1 L.2=b at sb T ⊢
 have fin: ∀ (s:LB×Int),sk 60001 s.1->s.1.length<=10->
   (∀c,FN (mM c (pH 1 1 l)).1)/\(∀c,FN (mM c (pH 1 1 r)).1)/\
   ∀z r1:Tm×Int,FN z.1->FN r1.1->In k (J4 (s.1++[⟨[⟨0,1⟩],[z.1]⟩]++[⟨[⟨1,0⟩],[r1.1]⟩])):=fun s hs hl=>by
  refine ⟨fun c=>Bw fun t h=>l' (by omega) f1.ok h,fun c=>Bw fun t h=>l' (by omega) f2.ok h,fun z r1 h1 h2=> ?_⟩
  have ax:sk 60001 (s.1++[⟨[⟨0,1⟩],[z.1]⟩]++[⟨[⟨1,0⟩],[r1.1]⟩]):=SK (SK hs (My (MB (by omega) (by omega)) (h1.sm.1.mono (by omega)) (by have:=h1.sm.2;omega) (Mc _))) (My (MB (by omega) (by omega)) (h2.sm.1.mono (by omega)) (by have:=h2.sm.2;omega) (Mc _))
  obtain ⟨b1,b2⟩:=zv ax
  exact Jb hk (by omega) b1 (by simp;omega) b2
 have last: ∀ {c:Int} {bb:Tm} {sys:LB},In k bb->In k (J4 sys)->In k (dS 12 [(mM c (c6 [L.1,bb,J4 sys] (dF L.1 bb sys))).1]):=by
  intro c bb sys h1 h2
  have q:=(azg hk (qL.isIn hk) h1 h2 c).sm
  have:=Mz (kd:=12) (by omega) (n:=20000) (ks:=[(mM c (c6 [L.1,bb,J4 sys] (dF L.1 bb sys))).1]) (fun x hx=>by
   rw [List.mem_singleton] at hx;subst hx
   exact ⟨q.1,by have:=q.2;omega⟩) (by simp)
  exact this.1.isIn hk (by omega)
 have ib:In k b.1:=sb.1.isIn hk (by omega)
 simp only [h7,ag hk.fu,ar,g0,g1,g2,p9,zc,wi]
 rw [SN hk (fun _=>f1.isIn hk) ea,hu,SN hk (fun _=>f2.isIn hk) ea,hv,aH4 hk (f0.isIn hk),hL]
 obtain ⟨a6,h1,h2⟩:=T _
 rw [h1]
 dsimp only
 by_cases hl:nX.length=0
 ·rw [decide_eq_false (by omega),n3]
  obtain ⟨fl,fr,fw⟩:=fin ([],b.2) (Mc _) (by simp)
  have F:az2 nX (Tm.mk x1 x2 x3 x4 x5 x6) u.1 v.1 b.2=([],b.2):=if_pos hl
  rw [F]
  dsimp only
  generalize A:mM b.2 (pH 1 1 l)=z
  generalize B:mM z.2 (pH 1 1 r)=r1
  have J:FN z.1:=A▸fl _
  have M:FN r1.1:=B▸fr _
  have O:=fw z r1 J M
  dsimp only at O ⊢
  rw [zg] at O ⊢
  refine ⟨_,_, ?_,rfl,last ib O⟩
  rw [v6 hk (fun _=>f1.isIn hk) (by omega),A,J5 (by simp),v6 hk (fun _=>f2.isIn hk) (by omega),B,J5 (by simp),h2,Rx hk (fun _=>⟨qL.isIn hk,ib,O⟩) (fun e h=>BJ (fun e h=>o_ h) h)]
 ·rw [decide_eq_true (by omega),ae]
  have F:az2 nX (Tm.mk x1 x2 x3 x4 x5 x6) u.1 v.1 b.2=([⟨(Nr b.2 nX).1,[(sc 2 [⟨2,0⟩] (Tm.mk x1 x2 x3 x4 x5 x6) u.1 v.1 (Nr b.2 nX).2).1]⟩],(sc 2 [⟨2,0⟩] (Tm.mk x1 x2 x3 x4 x5 x6) u.1 v.1 (Nr b.2 nX).2).2):=if_neg hl
  rw [F]
  dsimp only
  have W:=aHP (c:=b.2) hp.1
  have pA:(if b.2=0 then tb nX 0 1 else ([],b.2))=Nr b.2 nX:=rfl
  rw [v_ hk hp.1.2 (G9 hp).2 (by omega),pA]
  generalize Nr b.2 nX=f at W ⊢
  obtain ⟨a7,h3,h4⟩:=aDe (nX:=nX) hk (b:=2) (c:=f.2) (by omega) (r:=⟨2,0⟩) ia (Y.isIn hk) (qv.isIn hk) _
  rw [h3]
  have sq:=ao f.2
  generalize sc 2 [⟨2,0⟩] (Tm.mk x1 x2 x3 x4 x5 x6) u.1 v.1 f.2=q at h4 sq ⊢
  dsimp only
  obtain ⟨fl,fr,fw⟩:=fin ([⟨f.1,[q.1]⟩],q.2) (My W sq.1 (by have:=sq.2;omega) (Mc _)) (by simp)
  generalize A:mM q.2 (pH 1 1 l)=z
  generalize B:mM z.2 (pH 1 1 r)=r1
  have J:FN z.1:=A▸fl _
  have M:FN r1.1:=B▸fr _
  have O:=fw z r1 J M
  refine ⟨_,_, ?_,rfl,last ib O⟩
  rw [J5 (by simp),v6 hk (fun _=>f1.isIn hk) (by omega),A,J5 (by simp),v6 hk (fun _=>f2.isIn hk) (by omega),B,J5 (by simp),h2,h4,Rx hk (fun _=>⟨qL.isIn hk,ib,O⟩) (fun e h=>BJ (fun e h=>o_ h) h)]
end
end
section
section
variable {kd:Int}
theorem aoD (t:Tm): ∀ {V D:Int},rf true V D t=true->rf false V D t=true:=by
 induction t using gq with
 |h kd n nm r B sys q z=>
  intro V D h
  have hk: ∀ {l:LT} {i:Nat},(∀x∈l,∀ {V D:Int},rf true V D x=true->rf false V D x=true)->bO true V D kd i l=true->bO false V D kd i l=true:=by
   intro l
   induction l<;>grind [bO]
  rw [rf,pX,pX,pX] at h ⊢
  refine ⟨rfl,h.2.1,hk q h.2.2.1, ?_⟩
  have:=h.2.2.2
  rw [wH,xm] at this ⊢
  intro b hb
  have:=this b hb
  rw [xm] at this ⊢
  exact fun x A=>z b hb x A (this x A)
end
abbrev Wk0 (V D:Int) (t:Tm):Prop:=rf false V D t=true
theorem aJj {V D:Int} {r:LC} {t t':Tm} (hf:Fm t) (z:0<=D) (q:RF r) (hl:dg r D=true) (hs:Wk0 V (D+1) t) (h:Ab 0 r t= .ok t'):Wk0 V D t':=by
 unfold Ab at h
 obtain ⟨s,A,h⟩:=i8 h
 obtain ⟨x,rfl⟩:=rR A
 refine aoV (c:=D) (kQ x) ?_ t (Int.le_refl 0) z (by omega) hf.ok hf.rows hs h
 exact aot (n:=0) q x (RO ((gv q).1 hl) fun j hj=>by
  have:eU 0 1 j=j+1:=by unfold eU;rw [if_neg (by omega)]
  rw [this];omega)
section
variable {n V D kd:Int} {u:Tm}
end
variable {S:Type} {k:Nat}
theorem aIX {r:LC} {t y:Tm} (q:Fm t) (x:RF r) (hl:dg r 24=true) (h:Ab 0 r t= .ok y):Fm y:=by
 obtain ⟨z,q2,B⟩:=mu q h
 have ha:=(Ie q.2).2.2
 have hs:Wk0 (-1) (24+1) t:=by
  show rf false (-1) (24+1) t=true
  rw [at8 t (d:=24+1) (d':=24) (by decide) (by decide)];exact ha
 have A:=aJj q (by decide) x hl hs h
 refine ⟨z, ?_⟩
 unfold bw
 rw [if_neg (by omega),if_neg (by omega),if_pos A]
theorem aBA {D:Int} (q:0<=D):dg [⟨0,0⟩] D=true:=W0 (d:=0) Qz (by decide) q
theorem aBC {D:Int} (q:0<=D):dg [] D=true:=W0 (d:=0) rA (by decide) q
theorem aN8 {t y:Tm} (q:Fm t) (h:Ab 0 [] t= .ok y):Fm y:=aIX q rA (aBC (by decide)) h
theorem aN9 {t y:Tm} (q:Fm t) (h:Ab 0 [⟨0,0⟩] t= .ok y):Fm y:=aIX q Qz (aBA (by decide)) h
def Nf (c:Cl):Bool:= !(bP (ep c.pos c.neg) 0)
def Mg (f:LC):LC×Int:=bp (f.filter Nf)
theorem aGS (hk:Fu k) (I:LC->OS S) {l:LC} (hl:aq l) (hlen:l.length<2147483648):
  ∀ (r p:LC) (m:Nat) (o:LC),l=p++r->r.length<m->o.length+r.length<4294967296->mj k I 0 l m (p.length:Int) o=I (o++r.filter Nf):=by
 intro r
 induction r with
 |nil=>
  intro p m o h A ho
  obtain ⟨m,rfl,q⟩:=pw A
  simp only [mj,cy,xu h,n3,List.filter_nil,xG]
 |cons x r B=>
  intro p m o h A ho
  obtain ⟨m,rfl,q⟩:=pw A
  obtain ⟨F,J,L,E⟩:=qF h (by omega)
  have z:aX x:=hl x (by rw [h];simp)
  simp only [ue] at ho
  have M:BD (ep x.pos x.neg):=FX z.1 z.2
  simp only [mj,cy,F,ae,J,p9,ag hk,ay3,pa z.1 z.2,rF hk M,L]
  show ab (Nf x) _ _=_
  cases hf:Nf x with
  |true=>
   rw [ae,J5 (by simp;omega),B (p++[x]) m (o++[x]) E q (by rw [H4,List.length_singleton];omega),List.filter_cons_of_pos hf,List.append_assoc];rfl
  |false=>
   rw [n3,B (p++[x]) m o E q (by omega),List.filter_cons_of_neg (by rw [hf];decide)]
theorem aH7 (q:F3 k) {f:LC} (hf:aq f) (x:cV f=true) (hlen:f.length<2147483648) (I:LC×Int->OS S):dd k f 0 I=I (Mg f):=by
 have z:4294968296<=k:=q
 have hk:=q.fu
 have ho:aq (f.filter Nf):=fun c hc=>hf c (List.mem_filter.1 hc).1
 have hl:=List.length_filter_le Nf f
 simp only [dd,ag hk,Hb hk hf hlen,x,uX,n3,ai8 hk]
 rw [show (!(decide ((0:Int)<=0/\(0:Int)<24)))=false from by decide,n3]
 simp only [ay4,az7]
 rw [show ((0:Int))=((([]:LC).length:Nat):Int) from rfl]
 refine (aGS hk _ hf hlen f [] k [] rfl (by omega) (by simp;omega)).trans ?_
 rw [zg,kX hk ho (by omega)]
 rfl
theorem aAD {f:LC} (h:RX true f):(Mg f).2=0/\RX true (Mg f).1/\(∀q:Nat->Prop,uY q f->uY q (Mg f).1):=by
 have hs: ∀c∈f.filter Nf,c∈f:=fun c hc=>(List.mem_filter.1 hc).1
 have x:(Mg f).2=0:=LH (fun c hc=>h.1.rc (hs c hc)) (by have:=h.1.len;have:=List.length_filter_le Nf f;omega)
 have ho:aq (f.filter Nf):=fun c hc=>h.1.2 c (hs c hc)
 have:=LG ho (fun c hc=>h.2 rfl c (hs c hc)) x
 exact ⟨x,⟨this.1,fun _=>this.2⟩,fun q hl=>jy (azw hl hs)⟩
def K5 (c:Int) (f:LC):LC×Int:=
 if c=0 then ((tE (wv 0 [] (xH (Mg f).1 zo zo))).1.r,(tE (wv 0 [] (xH (Mg f).1 zo zo))).2) else ([],c)
theorem BF:Q2 zo:=by
 refine ⟨⟨?_, ?_, ?_⟩, ?_⟩
 ·rw [pf,aZ,ba];exact ⟨⟨by unfold aG;omega,by unfold aG;omega,by decide,(fun c hc=>by cases hc),by simp,by simp,by simp⟩,trivial,trivial⟩
 ·rw [au,ay,aI];omega
 ·rw [am,aH,aO];omega
 ·rw [am,aH,aO];omega
theorem aI_ {r:LC} (h:RX true r) (hk:F3 k):In k (xH r zo zo):=by
 have:=MD (G9 h) BF.1 BF.1 (by have:=BF.2;omega) (by have:=BF.2;omega)
 exact this.isIn hk (by omega)
theorem aIt (hk:F3 k) {f:LC} {c:Int} (h:RX true f) (I:LC×Int->OS S):Fk k f c I=I (K5 c f):=by
 simp only [Fk,ag hk.fu,dG,ar,rJ]
 unfold K5
 by_cases hc:c=0
 case neg=>rw [dj hc,sQ,ae,if_neg hc]
 subst hc
 obtain ⟨a0,a1,_⟩:=aAD h
 have hlen:=(G9 h).2
 have q:cV f=true:=zp.right ⟨h.1,h.2 rfl⟩
 rw [show (!((0:Int)==0))=false from rfl,n3,aH7 hk h.1.2 q (by omega)]
 rw [a0]
 simp only [if_pos]
 rw [show (!((0:Int)==0))=false from rfl,n3]
 simp only [zc,tK]
 have e:Tm.mk 14 0 oW (Mg f).1 [Tm.mk 3 0 oW [] [] [],Tm.mk 3 0 oW [] [] []] []=xH (Mg f).1 zo zo:=rfl
 rw [e,ap8 hk (aI_ a1 hk) (i:=0) (by decide) rA]
 cases wv 0 [] (xH (Mg f).1 zo zo) with
 |error e=>
  show I (oe.r,_)=I (oe.r,e)
  by_cases he:e=0
  ·subst he;rfl
  ·rw [show (tE (.error e)).2=e from rfl,if_neg he]
 |ok y=>rfl
def wm {α β:Type} (F:Int->β->α×Int):Int->List β->List α×Int
 |c,[]=>([],c)
 |c,x::r=>((F c x).1::(wm F (F c x).2 r).1,(wm F (F c x).2 r).2)
theorem Ni {α β:Type} {F:Int->β->α×Int}: ∀ {l:List β} {c:Int},(wm F c l).1.length=l.length:=by
 intro l
 induction l with
 |nil=>intro c;rfl
 |cons x l q=>intro c;rw [wm,ue,ue,q]
theorem SF {α β:Type} {F:Int->β->α×Int} {Q:α->Prop}: ∀ {l:List β} {c:Int},(∀x∈l,∀c,Q (F c x).1)-> ∀y∈(wm F c l).1,Q y:=by
 intro l
 induction l with
 |nil=>intro c _ y hy;cases hy
 |cons x l q=>
  intro c h y hy
  rw [wm] at hy
  rcases xB.1 hy with rfl|hy
  ·exact h x (by simp) c
  ·exact q (fun x z=>h x (by simp [z])) y hy
theorem bn {α β:Type} {l:List β} {L:Nat->Int->Int->List α->OS S} {F:Int->β->α×Int} {I:List α×Int->OS S}
  (z: ∀ (m:Nat) (c:Int) (acc:List α),acc.length=l.length->L (m+1) c (l.length:Int) acc=I (acc,c))
  (q: ∀ (m:Nat) (c:Int) (x:β) (p r:List β) (acc:List α),l=p++x::r->acc.length=p.length->L (m+1) c (p.length:Int) acc=L m (F c x).2 (((p++[x]).length:Nat):Int) (acc++[(F c x).1])):
  ∀ (r p:List β) (acc:List α) (m:Nat) (c:Int),l=p++r->r.length<m->acc.length=p.length->L m c (p.length:Int) acc=I (acc++(wm F c r).1,(wm F c r).2):=by
 intro r
 induction r with
 |nil=>
  intro p acc m c h B ha
  obtain ⟨m,rfl,A⟩:=pw B
  rw [xG] at h
  subst h
  rw [z m c acc ha,wm,xG]
 |cons x r E=>
  intro p acc m c h B ha
  obtain ⟨m,rfl,A⟩:=pw B
  rw [q m c x p r acc h ha,E (p++[x]) _ m _ (by rw [h];simp) A (by simp [ha]),wm,List.append_assoc];rfl
def LQ:Int->LB->LB×Int
 |c,[]=>([],c)
 |c,x::r=>if (K5 c x.f).1.length=0 then LQ (K5 c x.f).2 r else (⟨(K5 c x.f).1,x.c⟩::(LQ (K5 c x.f).2 r).1,(LQ (K5 c x.f).2 r).2)
theorem aAE {c:Int} {f:LC} (h:RX true f):aq (K5 c f).1/\(K5 c f).1.length<1073741824:=by
 have q:aq ([]:LC)/\([]:LC).length<1073741824:=⟨fun c hc=>(by cases hc),by simp⟩
 unfold K5
 split
 ·have hk:pf (xH (Mg f).1 zo zo):=(MD (G9 (aAD h).2.1) BF.1 BF.1 (by have:=BF.2;omega) (by have:=BF.2;omega)).ok
  cases x:wv 0 [] (xH (Mg f).1 zo zo) with
  |error e=>exact q
  |ok y=>
   have:=(Sn hk x).1.ok.no
   exact ⟨this.2.2.2.1,this.2.2.2.2.1⟩
 ·exact q
theorem aIT: ∀ {l:LB} {c:Int},(LQ c l).1.length<=l.length:=by
 intro l
 induction l with
 |nil=>intro c;exact xq _
 |cons x l q=>
  intro c
  rw [LQ]
  split
  ·have:=q (c:=(K5 c x.f).2);simp;omega
  ·have:=q (c:=(K5 c x.f).2);simp;omega
def fT (b:Br Tm):Prop:=b.c=[AK b,k1 b]/\Fm (AK b)/\Fm (k1 b)/\aq b.f/\b.f.length<1073741824
theorem aIU: ∀ {l:LB} {c:Int},(∀b∈l,b.c=[AK b,k1 b]/\Fm (AK b)/\Fm (k1 b)/\RX true b.f)-> ∀b∈(LQ c l).1,fT b:=by
 intro l
 induction l with
 |nil=>intro c _ b hb;cases hb
 |cons x l q=>
  intro c h b hb
  rw [LQ] at hb
  obtain ⟨z,q2,A,B⟩:=h x (by simp)
  split at hb
  ·exact q (fun b hb=>h b (by simp [hb])) b hb
  ·rcases xB.1 hb with rfl|hb
   ·have:=aAE (c:=c) B
    exact ⟨z,q2,A,this.1,this.2⟩
   ·exact q (fun b hb=>h b (by simp [hb])) b hb
def EH (nX:LC) (F:Int->Tm×Int) (c:Int):LB×Int:=
 if nX.length=0 then ([],c) else ([⟨nX,[(F c).1]⟩],(F c).2)
theorem aJa: ∀ {l:LB},(∀b∈l,b.c=[AK b,k1 b])->2*l.length<=aI l:=by
 intro l
 induction l with
 |nil=>simp
 |cons x l q=>
  intro h
  have h1:=q fun b hb=>h b (by simp [hb])
  have h2:=h x (by simp)
  obtain ⟨f,z⟩:=x
  grind [aI,Fs,ay,mB]
theorem ns {g:Tm} (q:Fm g) (x:g.k=16):g.s.length<=10000:=by
 have h:=aJa fun b hb=>((q.gl x).1 b hb).1
 have:=q.dP
 cases g<;>grind [au,Tm.s]
def GN (x:Tm):Prop:=Fm x/\x.k=16\/x=oe
theorem GN.es (hk:F3 k) {x:Tm} (h:GN x) (I:LB->OS S):SH k x I=I (eh x):=by
 have q:4294968296<=k:=hk
 simp only [SH,ag hk.fu,dh,j']
 rcases h with ⟨h1,h2⟩|rfl
 ·obtain ⟨z,hl,_⟩:=h1.gl h2
  exact azu hk I (fun b hb=>(z b hb).1) hl x.s [] [] k rfl (by omega) (by grind)
 ·exact azu (l:=[]) hk I (fun b hb=>by cases hb) (by simp) [] [] [] k rfl (by grind) (by simp)
theorem GN.un {x a:Tm} (h:GN x) (ha:Fm a):Sm 40002 (Di a (eh x))/\am (Di a (eh x))<=201:=by
 have:=ha.dep;have:=ha.dP
 rcases h with ⟨h1,h2⟩|rfl
 ·obtain ⟨q,A,B,E,_,_⟩:=hx h1 h2
  have d:=h1.dep;have z:=h1.dP
  have F:aO x.s+1<=am x:=by cases x<;>grind [am,Tm.s]
  have I:aI x.s+1<=au x:=by cases x<;>grind [au,Tm.s]
  have J:=ns h1 h2
  have d1:am (Di a (eh x))<=201:=by grind [am,aH]
  refine ⟨⟨?_, ?_,by omega⟩,d1⟩
  ·rw [pf,aZ,aZ];exact ⟨⟨by unfold aG;omega,by unfold aG;omega,by decide,(fun c hc=>by cases hc),by simp,by simp,by omega⟩,⟨ha.ok,trivial⟩,q⟩
  grind [au,ay]
 ·have d1:am (Di a (eh oe))<=201:=by rw [am,aH,aH];show max _ (aO [])+1<=_;rw [aO];omega
  refine ⟨⟨?_, ?_,by omega⟩,d1⟩
  ·rw [pf,aZ,aZ];refine ⟨⟨by unfold aG;omega,by unfold aG;omega,by decide,(fun c hc=>by cases hc),by simp,by simp,by simp [eh,oe,Tm.s]⟩,⟨ha.ok,trivial⟩, ?_⟩
   show ba [];rw [ba];trivial
  ·rw [au,ay,ay];show _+aI []<=_;rw [aI];omega
theorem k3 {c:Int} {r:LC} {g:Tm} (q:Fm g) (x:g.k=16) (z:RF r) (hl:dg r 24=true):GN (mM c (wv 0 r g)).1:=by
 unfold mM
 split
 ·cases A:wv 0 r g with
  |error e=>exact .inr rfl
  |ok y=>
   obtain ⟨h1,h2⟩:=Si q.ok A
   exact .inl ⟨aIX q z hl h2,(TZ h2).trans x⟩
 ·exact .inr rfl
def N2 (nX:LC) (a:Tm) (c:Int) (b:Br Tm):Br Tm×Int:=
 (⟨b.f,[dS 6 [dS 9 [k1 b],(mM c (FG (AK b) nX a ⟨0,1⟩ [⟨3,0⟩])).1]]⟩,(mM c (FG (AK b) nX a ⟨0,1⟩ [⟨3,0⟩])).2)
def wl (g:Tm):Tm:=g.c.headD oe
structure BegR where
 st:LB
 a1:Tm
 c:Int
def RM (nX:LC) (a a0:Tm) (st:LB) (c:Int):LB×Int:=
 ((EH nX (fun c=>mM c (wA 0 1 a0)) c).1++(wm (N2 nX a) (EH nX (fun c=>mM c (wA 0 1 a0)) c).2 st).1,(wm (N2 nX a) (EH nX (fun c=>mM c (wA 0 1 a0)) c).2 st).2)
def Mf (g:Tm) (nX:LC) (a a0:Tm) (st:LB) (c:Int):Tm×Int:=
 mM (RM nX a a0 st c).2 (c6 [wl g,a0,J4 (RM nX a a0 st c).1] (dF (wl g) a0 (RM nX a a0 st c).1))
def SB (g:Tm) (nX:LC) (a:Tm):BegR:=
 let T:=mM 0 (wv 0 [] g)
 let st:=LQ T.2 g.s
 let C:=Mf g nX a (Di a (eh T.1)) st.1 st.2
 ⟨st.1,C.1,C.2⟩
section
variable {nX:LC} {x1 x2:Int} {x3:BA} {x4:LC} {x5:LT} {x6 st0:LB} {y1 y2:Int} {y3:BA} {y4:LC} {y5:LT} {y6:LB} {z1 z2:Int} {z3:BA} {z4:LC} {z5:LT} {z6:LB}
theorem aIz (hk:F3 k) (fa:Fm (Tm.mk x1 x2 x3 x4 x5 x6)) (hp:RX true nX) {st:LB} (hs: ∀b∈st,fT b) (hl:st.length<=10000) (c:Int) (I:LB×Int->OS S):
  gk k st c nX x1 x2 x3 x4 x5 x6 st0 y1 y2 y3 y4 y5 y6 z1 z2 z3 z4 z5 z6 I=I (wm (N2 nX (Tm.mk x1 x2 x3 x4 x5 x6)) c st):=by
 have q:4294968296<=k:=hk
 simp only [gk,aAa]
 have:=bn (S:=S) (l:=st) (L:=fun m c i acc=>kv k I nX y2 y3 y4 y5 y6 z1 z2 z3 z4 z5 x1 z6 x2 x3 x4 x5 x6 st0 y1 st m c i acc) (F:=N2 nX (Tm.mk x1 x2 x3 x4 x5 x6)) (I:=I)
  (fun m c acc ha=>by
   grind [kv,r4,n3])
  (fun m c x p r acc h ha=>by
   obtain ⟨z,A,B,_⟩:=qF h (by omega)
   have hlen:p.length<st.length:=by grind
   obtain ⟨E,q2,J,M⟩:=hs x (by grind)
   have g0:af x.c 0=some (AK x):=ED (n:=0) rfl (by grind)
   have g1:af x.c 1=some (k1 x):=ED (n:=1) rfl (by grind)
   simp only [kv,r4,z,ae,A,p9,ag hk.fu,ay7,g0,g1,ar,No,zc,wi,B]
   rw [aDh hk (q2.isIn hk) (fa.isIn hk) (G9 hp),J5 (by grind)]
   rfl)
  st [] [] k c rfl (by omega) rfl
 grind
theorem aIJ (hk:F3 k) {st:LB} {a0:Tm} (ha:In k a0) (c:Int) (I:LB×Int->OS S):
  p' k c nX x1 x2 x3 x4 x5 x6 st y1 y2 y3 y4 y5 y6 z1 z2 z3 z4 z5 z6 a0 I=I (EH nX (fun c=>mM c (wA 0 1 a0)) c):=by
 simp only [p',ag hk.fu,ar,lf,wi]
 rw [E8 hk (fun _=>ha) (by omega) (by omega)]
 unfold EH
 by_cases h:nX.length=0<;>simp_all [ae,beq_false_of_ne,n3]
theorem B0 {F:Int->Tm×Int} (hp:RX true nX) {n:Nat} (q: ∀c,Sm n (F c).1/\am (F c).1<=290) (c:Int):sk n (EH nX F c).1/\(EH nX F c).1.length<=1:=by
 grind [EH,Mc,My,G9]
theorem aHQ (hk:F3 k) {a:Tm} (fa:Fm a) (hp:RX true nX) {st:LB} (hs: ∀b∈st,fT b) (c:Int):sk 400000 (wm (N2 nX a) c st).1:=by
 intro y A
 refine SF (Q:=fun y=> ∃t,y.c=[t]/\Sm 400000 t/\am t<=299/\aq y.f/\y.f.length<1073741824) (F:=N2 nX a) (l:=st) (c:=c) (fun x q c=> ?_) y A
 obtain ⟨L,q2,B,E,I⟩:=hs x q
 have a9:=Sk (kd:=9) (by omega) (.inl B)
 have z:Q2 (mM c (FG (AK x) nX a ⟨0,1⟩ [⟨3,0⟩])).1:=LR fun t h=>ayY hk q2.ok fa.ok hp.1 aCx QD h
 have J:=Mz (kd:=6) (by omega) (n:=80001) (ks:=[dS 9 [k1 x],(mM c (FG (AK x) nX a ⟨0,1⟩ [⟨3,0⟩])).1]) (fun x q=>by
  simp at q
  rcases q with rfl|rfl
  ·grind
  ·exact ⟨z.1.mono (by omega),by have:=z.2;omega⟩) (by simp)
 exact ⟨_,rfl,J.1.mono (by omega),by omega,E,I⟩
theorem aAL (hk:F3 k) {a a0:Tm} (fa:Fm a) (q:pf a0) (hp:RX true nX) {st:LB} (hs: ∀b∈st,fT b) (hl:st.length<=10000) (c:Int):In k (J4 (RM nX a a0 st c).1):=by
 have x: ∀c,FN (mM c (wA 0 1 a0)).1:=fun c=>Bw fun t h=>mD (by omega) (IH q h).1 (IH q h).2
 obtain ⟨z,E⟩:=B0 (F:=fun c=>mM c (wA 0 1 a0)) hp (n:=400000) (fun c=>⟨(x c).sm.1.mono (by omega),by have:=(x c).sm.2;omega⟩) c
 have hb:sk 400000 (RM nX a a0 st c).1:=SK z (aHQ hk fa hp hs _)
 obtain ⟨A,B⟩:=zv hb
 refine Jb hk (by omega) A ?_ B
 grind [RM,Ni]
theorem aH2 (hk:F3 k) {g a0:Tm} (B:Fm g) (E:g.k=16) (fa:Fm (Tm.mk x1 x2 x3 x4 x5 x6)) (q:In k a0) (hp:RX true nX) {st:LB} (hs: ∀b∈st,fT b) (hl:st.length<=10000) (c:Int) (I:Int×LB×Int×Int×BA×LC×LT×LB->OS S):
  (p' k c nX x1 x2 x3 x4 x5 x6 st y1 y2 y3 y4 y5 y6 z1 z2 z3 z4 z5 z6 a0 fun r8=>gk k st r8.2 nX x1 x2 x3 x4 x5 x6 st y1 y2 y3 y4 y5 y6 z1 z2 z3 z4 z5 z6 fun r9=>nW (aw 1099511627776 r8.1.length r9.1.length) fun J=>nW (af g.c 0) fun z=>y9 k z a0 (r8.1++r9.1) r9.2 fun tf=>I (tf.2,st,tf.1.k,tf.1.n,tf.1.name,tf.1.r,tf.1.c,tf.1.s))=
   I ((Mf g nX (Tm.mk x1 x2 x3 x4 x5 x6) a0 st c).2,st,(Mf g nX (Tm.mk x1 x2 x3 x4 x5 x6) a0 st c).1.k,(Mf g nX (Tm.mk x1 x2 x3 x4 x5 x6) a0 st c).1.n,(Mf g nX (Tm.mk x1 x2 x3 x4 x5 x6) a0 st c).1.name,(Mf g nX (Tm.mk x1 x2 x3 x4 x5 x6) a0 st c).1.r,(Mf g nX (Tm.mk x1 x2 x3 x4 x5 x6) a0 st c).1.c,(Mf g nX (Tm.mk x1 x2 x3 x4 x5 x6) a0 st c).1.s):=by
 obtain ⟨_,_,b,hb,fb⟩:=B.gl E
 have L:af g.c 0=some b:=ED (n:=0) rfl (by grind)
 have hd:wl g=b:=by grind [wl]
 have M:=(B0 (F:=fun c=>mM c (wA 0 1 a0)) hp (n:=20000) (fun c=>by
  have A:FN (mM c (wA 0 1 a0)).1:=Bw fun t h=>mD (by omega) (IH q.1 h).1 (IH q.1 h).2
  exact ⟨A.sm.1,by have:=A.sm.2;omega⟩) c).2
 rw [aIJ hk q,aIz hk fa hp hs hl,J5 (by rw [Ni];omega),L,p9]
 have x:=aAL hk fa q.1 hp hs hl c
 unfold RM at x
 rw [Rx hk (fun _=>⟨fb.isIn hk,q,x⟩) (fun e h=>BJ (fun e h=>o_ h) h)]
 grind [Mf,RM]
theorem aGJ (hk:F3 k) {g a0:Tm} (B:Fm g) (E:g.k=16) (fa:Fm (Tm.mk x1 x2 x3 x4 x5 x6)) {es:LB} (F:Tm.mk 18 0 oW [] [Tm.mk x1 x2 x3 x4 x5 x6] es=a0) (ia:In k a0) (hp:RX true nX) (I:Int×LB×Int×Int×BA×LC×LT×LB->OS S):
  ∀ (r p st:LB) (m:Nat) (c:Int),g.s=p++r->r.length<m->(∀b∈st,fT b)->st.length+r.length<=10000->
   k9 k I nX y2 y3 y4 y5 y6 z1 z2 z3 z4 z5 x1 z6 x2 x3 x4 x5 x6 y1 g (18,0,oW,[Tm.mk x1 x2 x3 x4 x5 x6],es) m c st (p.length:Int)=
    (fun C:Tm×Int=>I (C.2,st++(LQ c r).1,C.1.k,C.1.n,C.1.name,C.1.r,C.1.c,C.1.s)) (Mf g nX (Tm.mk x1 x2 x3 x4 x5 x6) a0 (st++(LQ c r).1) (LQ c r).2):=by
 obtain ⟨J,hl,_⟩:=B.gl E
 intro r
 induction r with
 |nil=>
  intro p st m c h q hs ha
  obtain ⟨m,rfl,z⟩:=pw q
  simp only [k9,l2,xu h,n3,ag hk.fu,ar,LQ,xG,F]
  simp_all [aH2]
 |cons x r ih=>
  intro p st m c h q hs ha
  obtain ⟨m,rfl,z⟩:=pw q
  obtain ⟨L,M,O,e4⟩:=qF h (by omega)
  rw [ue] at ha
  obtain ⟨T,q2,W,A⟩:=J x (by grind)
  simp only [k9,l2,L,ae,M,p9,ag hk.fu,O,wi]
  rw [aIt hk A,LQ]
  by_cases Y:(K5 c x.f).1.length=0
  ·grind [decide_eq_false,n3]
  ·rw [if_neg Y,decide_eq_true (by omega),ae,J5 (by grind)]
   have:=aAE (c:=c) A
   have hb:fT ⟨(K5 c x.f).1,x.c⟩:=⟨T,q2,W,this.1,this.2⟩
   grind
theorem aH1 (hk:F3 k) {g:Tm} (q:Fm g) (x:g.k=16) (fa:Fm (Tm.mk x1 x2 x3 x4 x5 x6)) (hp:RX true nX) (I:Int×LB×Int×Int×BA×LC×LT×LB->OS S):
  R' k g 0 nX x1 x2 x3 x4 x5 x6 y1 y2 y3 y4 y5 y6 z1 z2 z3 z4 z5 z6 I=(fun B:BegR=>I (B.c,B.st,B.a1.k,B.a1.n,B.a1.name,B.a1.r,B.a1.c,B.a1.s)) (SB g nX (Tm.mk x1 x2 x3 x4 x5 x6)):=by
 have A:4294968296<=k:=hk
 simp only [R',az_,ag hk.fu,ar]
 rw [SN hk (fun _=>q.isIn hk) ea]
 have z:GN (mM 0 (wv 0 [] g)).1:=k3 q x rA (aBC (by decide))
 rw [z.es hk]
 simp only [Nn,ag hk.fu,JM,ar]
 have hu:=z.un fa
 have E:=hu.1.isIn hk (by omega)
 have hlen:=ns q x
 refine (aGJ hk q x fa rfl E hp I g.s [] [] k _ rfl (by omega) (fun b hb=>by cases hb) (by grind)).trans ?_
 rfl
end
def azJ (w z:Tm):Tm:=dS 8 [w,dS 12 [z]]
def p1 (u w z:Tm):Tm:=fG [⟨1,0⟩] (dS 6 [dS 10 [u],azJ w z]) (dS 9 [u]) (azJ w z)
def L9 (a1 cen x:Tm) (c:Int):Tm×Int:=
 let u:=mM c (wA 0 1 cen)
 let w:=mM u.2 (wA 0 1 x)
 let z:=mM w.2 (wA 0 2 a1)
 (p1 u.1 w.1 z.1,z.2)
def RL (e a1:Tm):Tm:=dS 6 [dS 10 [e],a1]
def iT (nX:LC) (a a1 cen:Tm) (c:Int) (b:Br Tm):Br Tm×Int:=
 (⟨b.f,[(L9 a1 cen (xH nX (AK b) a) c).1]⟩,(L9 a1 cen (xH nX (AK b) a) c).2)
def p7 (nX:LC) (a a1 cen:Tm) (st:LB) (c:Int):LB×Int:=
 ((EH nX (L9 a1 cen a) c).1++(wm (iT nX a a1 cen) (EH nX (L9 a1 cen a) c).2 st).1,(wm (iT nX a a1 cen) (EH nX (L9 a1 cen a) c).2 st).2)
def Dd (nX:LC) (a a1 t1:Tm) (st:LB) (t e:Tm) (c:Int):Tm×Int:=
 let f:=mM c (c6 [t,t1,dS 9 [e],a1] (Ma t t1 (dS 9 [e]) a1))
 let s:=p7 nX a a1 (RL e a1) st f.2
 (.mk 15 0 oW [] [f.1,dS 9 [RL e a1]] s.1,s.2)
theorem Ih {kd:Int} (q:0<=kd/\kd<=28) {n m d:Nat} {x y:Tm} (A:Sm n x/\am x<=d) (B:Sm m y/\am y<=d) (hd:d<=290):Sm (n+m+1) (dS kd [x,y])/\am (dS kd [x,y])<=d+1:=by
 unfold dS
 refine ⟨(Hn (kd:=kd) q (r:=[]) ⟨(fun c hc=>by cases hc),by simp⟩ (ks:=[x,y]) (sys:=[]) (n:=n+m) (m:=0) (fun z E=>by
  simp at E
  rcases E with rfl|rfl
  ·exact ⟨A.1.ok,by omega⟩
  ·exact ⟨B.1.ok,by omega⟩) (by simp) (by rw [ay,ay,ay];have:=A.1.dP;have:=B.1.dP;omega) (by rw [ba];trivial) (by simp) (by rw [aO];omega) (by rw [aI];omega)).mono (by omega), ?_⟩
 grind [am,aH,aO]
theorem Mj {kd:Int} (q:0<=kd/\kd<=28) {n d:Nat} {x:Tm} (A:Sm n x/\am x<=d) (hd:d<=290):Sm (n+1) (dS kd [x])/\am (dS kd [x])<=d+1:=by
 unfold dS
 refine ⟨(Hn (kd:=kd) q (r:=[]) ⟨(fun c hc=>by cases hc),by simp⟩ (ks:=[x]) (sys:=[]) (n:=n) (m:=0) (fun z B=>by
  simp at B;subst B
  exact ⟨A.1.ok,by omega⟩) (by simp) (by rw [ay,ay];have:=A.1.dP;omega) (by rw [ba];trivial) (by simp) (by rw [aO];omega) (by rw [aI];omega)).mono (by omega), ?_⟩
 grind [am,aH,aO]
theorem azY {r:LC} (F:aq r/\r.length<1073741824) {n m j d:Nat} {x y z:Tm} (q:Sm n x/\am x<=d) (A:Sm m y/\am y<=d) (B:Sm j z/\am z<=d) (hd:d<=290):Sm (n+m+j+1) (fG r x y z)/\am (fG r x y z)<=d+1:=by
 refine ⟨(Hn (kd:=13) (by omega) F (ks:=[x,y,z]) (sys:=[]) (n:=n+m+j) (m:=0) (fun w E=>by
  simp at E
  rcases E with rfl|rfl|rfl
  ·exact ⟨q.1.ok,by omega⟩
  ·exact ⟨A.1.ok,by omega⟩
  ·exact ⟨B.1.ok,by omega⟩) (by simp) (by rw [ay,ay,ay,ay];have:=q.1.dP;have:=A.1.dP;have:=B.1.dP;omega) (by rw [ba];trivial) (by simp) (by rw [aO];omega) (by rw [aI];omega)).mono (by omega), ?_⟩
 grind [am,aH,aO]
theorem Ft {c a b:Int} (ha:0<=a/\a<=1000) (hb:0<=b/\b<=1000) {t:Tm} (q:pf t):FN (mM c (wA a b t)).1:=Bw fun t h=>mD (by omega) (IH q h).1 (IH q h).2
theorem aHd {u w z:Tm} (hu:FN u) (A:FN w) (E:FN z):Sm 200000 (p1 u w z)/\am (p1 u w z)<=210:=by
 have q:=Mj (kd:=12) (by omega) E.sm (by omega)
 have B:=Ih (kd:=8) (by omega) (d:=201) ⟨A.sm.1,by have:=A.sm.2;omega⟩ q (by omega)
 have x:=Mj (kd:=10) (by omega) hu.sm (by omega)
 have F:=Mj (kd:=9) (by omega) hu.sm (by omega)
 have I:=Ih (kd:=6) (by omega) (d:=202) ⟨x.1,by omega⟩ ⟨B.1,by omega⟩ (by omega)
 have:=azY (MB (a:=1) (b:=0) (by omega) (by omega)) (d:=203) ⟨I.1,by omega⟩ ⟨F.1,by omega⟩ ⟨B.1,by omega⟩ (by omega)
 exact ⟨this.1.mono (by omega),by grind [p1,azJ]⟩
theorem aCB {a1 cen x:Tm} {c:Int} (h1:pf a1) (h2:pf cen) (q:pf x):Sm 200000 (L9 a1 cen x c).1/\am (L9 a1 cen x c).1<=210:=
 aHd (Ft (by omega) (by omega) h2) (Ft (by omega) (by omega) q) (Ft (by omega) (by omega) h1)
theorem ay1 {e a1:Tm} (he:FN e) (h1:FN a1):Sm 40002 (RL e a1)/\am (RL e a1)<=202:=by
 have q:=Mj (kd:=10) (by omega) he.sm (by omega)
 have:=Ih (kd:=6) (by omega) (d:=201) ⟨q.1,by omega⟩ ⟨h1.sm.1,by have:=h1.sm.2;omega⟩ (by omega)
 grind [RL]
section
variable {nX:LC} {x1 x2:Int} {x3:BA} {x4:LC} {x5:LT} {x6 st0:LB} {y1 y2:Int} {y3:BA} {y4:LC} {y5:LT} {y6:LB} {z1 z2:Int} {z3:BA} {z4:LC} {z5:LT} {z6:LB}
theorem aDc (hk:F3 k) {x cen:Tm} (i1:In k (Tm.mk y1 y2 y3 y4 y5 y6)) (i2:In k cen) (i3:In k x) (c:Int) (I:Int×Int×BA×LC×LT×Int->OS S):
  ∃ks,jb k x cen c nX x1 x2 x3 x4 x5 x6 st0 y1 y2 y3 y4 y5 y6 z1 z2 z3 z4 z5 z6 I=I (13,0,oW,[⟨1,0⟩],ks,(L9 (Tm.mk y1 y2 y3 y4 y5 y6) cen x c).2)/\Tm.mk 13 0 oW [⟨1,0⟩] ks []=(L9 (Tm.mk y1 y2 y3 y4 y5 y6) cen x c).1:=by
 refine ⟨_, ?_,rfl⟩
 simp only [jb,ag hk.fu,ar,zc,tO]
 rw [E8 hk (fun _=>i2) (by omega) (by omega),E8 hk (fun _=>i3) (by omega) (by omega),E8 hk (fun _=>i1) (by omega) (by omega)]
 rfl
theorem aIK (hk:F3 k) {cen:Tm} (i1:In k (Tm.mk y1 y2 y3 y4 y5 y6)) (i2:In k cen) (i3:In k (Tm.mk x1 x2 x3 x4 x5 x6)) (c:Int) (I:LB×Int->OS S):
  ec k c nX x1 x2 x3 x4 x5 x6 st0 y1 y2 y3 y4 y5 y6 z1 z2 z3 z4 z5 z6 cen I=I (EH nX (L9 (Tm.mk y1 y2 y3 y4 y5 y6) cen (Tm.mk x1 x2 x3 x4 x5 x6)) c):=by
 simp only [ec,ag hk.fu,ar,h9,wi]
 obtain ⟨q,h1,h2⟩:=aDc (nX:=nX) (x1:=x1) (x2:=x2) (x3:=x3) (x4:=x4) (x5:=x5) (x6:=x6) (st0:=st0) (z1:=z1) (z2:=z2) (z3:=z3) (z4:=z4) (z5:=z5) (z6:=z6) hk i1 i2 i3 c (fun r1=>I ([⟨nX,[Tm.mk r1.1 r1.2.1 r1.2.2.1 r1.2.2.2.1 r1.2.2.2.2.1 []]⟩],r1.2.2.2.2.2))
 rw [h1]
 dsimp only
 rw [h2]
 unfold EH
 by_cases h:nX.length=0<;>simp_all [ae,beq_false_of_ne,n3]
theorem aIc (hk:F3 k) {cen:Tm} (i1:In k (Tm.mk y1 y2 y3 y4 y5 y6)) (i2:In k cen) (fa:Fm (Tm.mk x1 x2 x3 x4 x5 x6)) (hp:RX true nX) {st:LB} (hs: ∀b∈st,fT b) (hl:st.length<=10000) (c:Int) (I:LB×Int->OS S):
  r3 k st cen c nX x1 x2 x3 x4 x5 x6 st0 y1 y2 y3 y4 y5 y6 z1 z2 z3 z4 z5 z6 I=I (wm (iT nX (Tm.mk x1 x2 x3 x4 x5 x6) (Tm.mk y1 y2 y3 y4 y5 y6) cen) c st):=by
 have A:4294968296<=k:=hk
 simp only [r3,aAd]
 have:=bn (S:=S) (l:=st) (L:=fun m c i acc=>Sx k I cen nX y2 y3 y4 y5 y6 z1 z2 z3 z4 z5 x1 z6 x2 x3 x4 x5 x6 st0 y1 st m c i acc) (F:=iT nX (Tm.mk x1 x2 x3 x4 x5 x6) (Tm.mk y1 y2 y3 y4 y5 y6) cen) (I:=I)
  (fun m c acc ha=>by
   grind [Sx,tf,n3])
  (fun m c x p r acc h ha=>by
   obtain ⟨B,E,J,_⟩:=qF h (by omega)
   have hlen:p.length<st.length:=by grind
   obtain ⟨O,q2,T,W⟩:=hs x (by grind)
   have g0:af x.c 0=some (AK x):=ED (n:=0) rfl (by grind)
   have z:=(MD (G9 hp) q2.sm fa.sm (by have:=q2.dep;omega) (by have:=fa.dep;omega)).isIn hk (by omega)
   simp only [Sx,tf,B,ae,E,p9,ag hk.fu,ay8,g0,ar,tO,wi,J]
   obtain ⟨Y,h1,h2⟩:=aDc (nX:=nX) (x1:=x1) (x2:=x2) (x3:=x3) (x4:=x4) (x5:=x5) (x6:=x6) (st0:=st0) (z1:=z1) (z2:=z2) (z3:=z3) (z4:=z4) (z5:=z5) (z6:=z6) hk i1 i2 z c (fun q=>nW (aw 1099511627776 acc.length [(⟨x.f,[Tm.mk q.1 q.2.1 q.2.2.1 q.2.2.2.1 q.2.2.2.2.1 []]⟩:Br Tm)].length) fun M=>Sx k I cen nX y2 y3 y4 y5 y6 z1 z2 z3 z4 z5 x1 z6 x2 x3 x4 x5 x6 st0 y1 st m q.2.2.2.2.2 (((p++[x]).length:Nat):Int) (acc++[⟨x.f,[Tm.mk q.1 q.2.1 q.2.2.1 q.2.2.2.1 q.2.2.2.2.1 []]⟩]))
   refine o0 ?_ (h1.trans ?_)
   ·rfl
   dsimp only
   rw [J5 (by grind),h2]
   rfl)
  st [] [] k c rfl (by omega) rfl
 grind
end
theorem aA6 {a a1 cen:Tm} (fa:Fm a) (h1:pf a1) (h2:pf cen) {nX:LC} (hp:RX true nX) {st:LB} (hs: ∀b∈st,fT b) (c:Int):sk 200000 (p7 nX a a1 cen st c).1/\(p7 nX a a1 cen st c).1.length<=st.length+1:=by
 obtain ⟨z,J⟩:=B0 (F:=L9 a1 cen a) hp (n:=200000) (fun c=>by
  have:=aCB (c:=c) h1 h2 fa.ok
  exact ⟨this.1,by have:=this.2;omega⟩) c
 refine ⟨SK z ?_, ?_⟩
 ·intro y A
  refine SF (Q:=fun y=> ∃t,y.c=[t]/\Sm 200000 t/\am t<=299/\aq y.f/\y.f.length<1073741824) (F:=iT nX a a1 cen) (l:=st) (c:=(EH nX (L9 a1 cen a) c).2) (fun x B c=> ?_) y A
  obtain ⟨L,q2,M,E,I⟩:=hs x B
  have q:=(MD (G9 hp) q2.sm fa.sm (by have:=q2.dep;omega) (by have:=fa.dep;omega)).ok
  have:=aCB (c:=c) h1 h2 q
  exact ⟨_,rfl,this.1,by have:=this.2;omega,E,I⟩
 ·unfold p7
  rw [H4,Ni];omega
theorem aF0 (hk:F3 k) {nX:LC} {a a1 t1 t e:Tm} {st:LB} {c:Int} (fa:Fm a) (f1:FN a1) (x:FN t1) (ft:Fm t) (z:Fm e) (hp:RX true nX) (hs: ∀b∈st,fT b) (hl:st.length<=10000):
  FN (mM c (c6 [t,t1,dS 9 [e],a1] (Ma t t1 (dS 9 [e]) a1))).1->Sm 50000000000 (Dd nX a a1 t1 st t e c).1/\am (Dd nX a a1 t1 st t e c).1<=300:=by
 intro hf
 have hc:=ay1 (.inl z) f1
 have q:=Mj (kd:=9) (by omega) hc (by omega)
 obtain ⟨A,B⟩:=aA6 (st:=st) (cen:=RL e a1) fa f1.sm.1.ok hc.1.ok hp hs (mM c (c6 [t,t1,dS 9 [e],a1] (Ma t t1 (dS 9 [e]) a1))).2
 have:=cu (n:=50000) (m:=200000) (hf.sm.1.mono (by omega)) (q.1.mono (by omega)) (by have:=hf.sm.2;omega) (by have:=q.2;omega) (by omega) A (by omega) (by omega)
 exact ⟨this,this.dep⟩
section
variable {nX:LC} {x1 x2:Int} {x3:BA} {x4:LC} {x5:LT} {x6 st0:LB} {y1 y2:Int} {y3:BA} {y4:LC} {y5:LT} {y6:LB} {z1 z2:Int} {z3:BA} {z4:LC} {z5:LT} {z6:LB}
theorem aIw (hk:F3 k) {t a f y:Tm} {c:Int} (q:In k t) (ha:In k a) (hf:In k f) (x:In k y) (I:Tm×Int->OS S):IG k t a f y c I=I (mM c (c6 [t,a,f,y] (Ma t a f y))):=by
 simp only [IG,ag hk.fu,dG,ar,rJ]
 exact Az c (fun h g=>aHT hk q ha hf x g) (fun e h=>BJ (fun e h=>aFT h) h) I
theorem aH_ (hk:F3 k) {t e:Tm} (ft:Fm t) (q:Fm e) (fa:Fm (Tm.mk x1 x2 x3 x4 x5 x6)) (f1:FN (Tm.mk y1 y2 y3 y4 y5 y6)) (x:FN (Tm.mk z1 z2 z3 z4 z5 z6)) (hp:RX true nX) {st:LB} (hs: ∀b∈st,fT b) (hl:st.length<=10000) (c:Int) (I:Int×Int×BA×LT×LB×Int->OS S):
  J2 k t e c nX x1 x2 x3 x4 x5 x6 st y1 y2 y3 y4 y5 y6 z1 z2 z3 z4 z5 z6 I=(fun F:Tm×Int=>I (15,0,oW,F.1.c,F.1.s,F.2)) (Dd nX (Tm.mk x1 x2 x3 x4 x5 x6) (Tm.mk y1 y2 y3 y4 y5 y6) (Tm.mk z1 z2 z3 z4 z5 z6) st t e c):=by
 have i1:=f1.sm.1.isIn hk (by omega)
 have i2:=(ay1 (.inl q) f1).1.isIn hk (by omega)
 have i9:=(Mj (kd:=9) (by omega) (FN.sm (.inl q)) (by omega)).1.isIn hk (by omega)
 simp only [J2,ag hk.fu,ar,zc,No,JM]
 have z:Tm.mk 9 0 oW [] [e] []=dS 9 [e]:=rfl
 have A:Tm.mk 6 0 oW [] [Tm.mk 10 0 oW [] [e] [],Tm.mk y1 y2 y3 y4 y5 y6] []=RL e (Tm.mk y1 y2 y3 y4 y5 y6):=rfl
 rw [z,A,aIw hk (ft.isIn hk) (x.sm.1.isIn hk (by omega)) i9 i1,aIK hk i1 i2 (fa.isIn hk),aIc hk i1 i2 fa hp hs hl]
 have hb:=(aA6 (st:=st) (cen:=RL e (Tm.mk y1 y2 y3 y4 y5 y6)) (a1:=Tm.mk y1 y2 y3 y4 y5 y6) fa f1.sm.1.ok (ay1 (.inl q) f1).1.ok hp hs (mM c (c6 [t,Tm.mk z1 z2 z3 z4 z5 z6,dS 9 [e],Tm.mk y1 y2 y3 y4 y5 y6] (Ma t (Tm.mk z1 z2 z3 z4 z5 z6) (dS 9 [e]) (Tm.mk y1 y2 y3 y4 y5 y6)))).2).2
 unfold p7 at hb
 rw [H4] at hb
 rw [J5 (by omega)]
 rfl
end
theorem azT (hk:F3 k) {t:Tm} {c:Int} (q:pf t) (hd:am t<=400) (I:Tm×Bool×Int×Int->OS S):ly k t c I=I ((dM c t).1,(dM c t).2==0,(dM c t).2,(dM c t).2):=by
 have h2:Fd k (am t):=hk.fd (by omega)
 simp only [ly,ag hk.fu,dG,ar,rJ,zy q h2 (by omega)]
 have:pf (dM c t).1/\Fd k (am (dM c t).1):=by
  unfold dM
  split
  ·split
   ·grind
   ·exact ⟨(gQ hk).1,(gQ hk).2.1⟩
  ·exact ⟨(gQ hk).1,(gQ hk).2.1⟩
 grind [vU,dM]
def ky (nX:LC) (a a1 t1:Tm) (st:LB) (c:Int) (b:Br Tm):Tm×Int:=Dd nX a a1 t1 st (AK b) (k1 b) c
def MW (a1:Tm) (c:Int) (q:Br Tm×Tm):Br Tm×Int:=
 let x:=mM c (wA 0 1 q.2)
 let z:=mM x.2 (wA 0 1 a1)
 let e:=mM z.2 (wA 0 1 (k1 q.1))
 (⟨q.1.f,[fG [⟨1,0⟩] (dS 10 [x.1]) z.1 (dS 6 [dS 9 [e.1],dS 9 [x.1]])]⟩,e.2)
def im (q:Br Tm×Tm):Br Tm:=⟨q.1.f,[dS 9 [q.2]]⟩
def Ii (l:LT):Tm:=match l with
 |[x]=>x
 |_=>oe
theorem aFU (hk:F3 k) {t a f y:Tm} (A:In k t) (ha:In k a) (hf:In k f) (B:In k y) (c:Int):FN (mM c (c6 [t,a,f,y] (Ma t a f y))).1:=Bw fun z h=>by
 obtain ⟨so,ff,q⟩:=BI h
 have:=Sq (l:=[t,a,f,y]) (fun x q=>by
  simp at q
  rcases q with rfl|rfl|rfl|rfl
  ·exact A.1
  ·exact ha.1
  ·exact hf.1
  ·exact B.1) so
 exact ⟨((aA5 (by omega) (by omega) (this t (by simp)).f2 (this a (by simp)).f2 (this f (by simp)).f2 (this y (by simp)).f2 q).isIn hk (by omega) (by omega)).1,ff⟩
section
variable {nX:LC} {x1 x2:Int} {x3:BA} {x4:LC} {x5:LT} {x6 st:LB} {y1 y2:Int} {y3:BA} {y4:LC} {y5:LT} {y6:LB} {z1 z2:Int} {z3:BA} {z4:LC} {z5:LT} {z6:LB}
def GB (l:LB):Prop:= ∀b∈l,b.c=[AK b,k1 b]/\Fm (AK b)/\Fm (k1 b)/\RX true b.f
theorem aDv (hk:F3 k) {a a1 t1:Tm} (fa:Fm a) (f1:FN a1) (q:FN t1) (hp:RX true nX) (hs: ∀b∈st,fT b) (hl:st.length<=10000) {l:LB} (z:GB l) {c:Int}: ∀w∈(wm (ky nX a a1 t1 st) c l).1,Sm 50000000000 w/\am w<=300:=
 SF fun b hb c=>by
  obtain ⟨A,q2,x,B⟩:=z b hb
  exact aF0 hk fa f1 q q2 x hp hs hl (aFU hk (q2.isIn hk) (q.sm.1.isIn hk (by omega)) ((Mj (kd:=9) (by omega) (FN.sm (.inl x)) (by omega)).1.isIn hk (by omega)) (f1.sm.1.isIn hk (by omega)) _)
theorem aIO (hk:F3 k) (fa:Fm (Tm.mk x1 x2 x3 x4 x5 x6)) (f1:FN (Tm.mk y1 y2 y3 y4 y5 y6)) (q:FN (Tm.mk z1 z2 z3 z4 z5 z6)) (hp:RX true nX) (hs: ∀b∈st,fT b) (hl:st.length<=10000) {l:LB} (z:GB l) (A:l.length<=10000) (c:Int) (I:LT×Int->OS S):
  k6 k l c nX x1 x2 x3 x4 x5 x6 st y1 y2 y3 y4 y5 y6 z1 z2 z3 z4 z5 z6 I=I (wm (ky nX (Tm.mk x1 x2 x3 x4 x5 x6) (Tm.mk y1 y2 y3 y4 y5 y6) (Tm.mk z1 z2 z3 z4 z5 z6) st) c l):=by
 have B:4294968296<=k:=hk
 simp only [k6,aAc]
 have:=bn (S:=S) (l:=l) (L:=fun m c i acc=>e7 k I nX y2 y3 y4 y5 y6 z1 z2 z3 z4 z5 x1 z6 x2 x3 x4 x5 x6 st y1 l m c i acc) (F:=ky nX (Tm.mk x1 x2 x3 x4 x5 x6) (Tm.mk y1 y2 y3 y4 y5 y6) (Tm.mk z1 z2 z3 z4 z5 z6) st) (I:=I)
  (fun m c acc ha=>by
   grind [e7,hQ,n3])
  (fun m c x p r acc h ha=>by
   obtain ⟨E,J,M,_⟩:=qF h (by omega)
   have hlen:p.length<l.length:=by grind
   obtain ⟨T,q2,O,W⟩:=z x (by grind)
   have g0:af x.c 0=some (AK x):=ED (n:=0) rfl (by grind)
   have g1:af x.c 1=some (k1 x):=ED (n:=1) rfl (by grind)
   simp only [e7,hQ,E,ae,J,p9,ag hk.fu,ay5,g0,g1,ar,M]
   rw [aH_ hk q2 O fa f1 q hp hs hl]
   dsimp only
   rw [J5 (by grind)]
   rfl)
  l [] [] k c rfl (by omega) rfl
 grind
theorem aIL (hk:F3 k) (i1:In k (Tm.mk y1 y2 y3 y4 y5 y6)) (c:Int) (I:LB×Int->OS S):
  ka k c nX x1 x2 x3 x4 x5 x6 st y1 y2 y3 y4 y5 y6 z1 z2 z3 z4 z5 z6 I=I (EH nX (fun c=>mM c (wA 0 1 (Tm.mk y1 y2 y3 y4 y5 y6))) c):=by
 simp only [ka,ag hk.fu,ar,xr,wi]
 rw [E8 hk (fun _=>i1) (by omega) (by omega)]
 unfold EH
 by_cases h:nX.length=0<;>simp_all [ae,beq_false_of_ne,n3]
end
end
end Go.Proofs.YtfffkmcpnggkdaaGreatDoor
