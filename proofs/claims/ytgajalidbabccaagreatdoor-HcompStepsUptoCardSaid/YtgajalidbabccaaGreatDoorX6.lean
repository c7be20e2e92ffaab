/- hypercubelaw20.HcompSteps returns true for every term: what a composition becomes is as the document has it; the card with an upper bound of the input's bulk. -/
import Derived.Test.YtgajalidbabccaaGreatDoorX5
import Derived.KernelRfl
open Bool renaming and_eq_true→aZ,not_false→ca,not_true→bY,true_and→gR
open ByteArray renaming empty→au
open Eq renaming trans→ak
open Go.IntKind renaming wrap→af
open List renaming all_eq_true→dA,append_nil→dZ,length_cons→cM,length_eq_zero_iff→kj,mem_append→eL,mem_cons→gc,mem_map→dS,nil_append→dG
open Nat renaming le_refl→dC,le_trans→er,mul_le_mul_right→jG,zero_add→g7
open Option renaming bind→ag,bind_some→aJ
set_option linter.unusedVariables false
set_option linter.unusedSimpArgs false
namespace Go.Proofs.YtgajalidbabccaaGreatDoor
open Go PI
set_option maxRecDepth 20000
variable {S:Type} {k:Nat}
def mM (c:Int) (x:Except Int Tm):Tm×Int:=if c=0 then tE x else (aH,c)
theorem dJ (x:Except Int Tm):mM 0 x=tE x:=rfl
theorem dz {c:Int} (h:c≠0) (x:Except Int Tm):mM c x=(aH,c):=if_neg h
theorem m8 (t:Tm) (e c:Int) (Y:Tm×Int->OS S):jh k t e c Y=Y (if c=0 then (if e=0 then (t,0) else (aH,e)) else (aH,c)):=by
 simp only [jh,aA]
 by_cases hc:c=0
 ·subst hc
  rw [show ((0:Int)==0)=true from rfl,aj,if_pos rfl]
  by_cases he:e=0
  ·subst he;rfl
  ·rw [dT he,ca,aj,if_neg he];rfl
 ·rw [dT hc,ah,if_neg hc,ca,aj];rfl
theorem RB (x:Except Int Tm) (hx: ∀e,x= .error e->e≠0) (c:Int):(if c=0 then (if (tE x).2=0 then ((tE x).1,(0:Int)) else (aH,(tE x).2)) else (aH,c))=mM c x:=by
 unfold mM
 split
 ·cases x with
  |ok t=>rfl
  |error e=>rw [if_neg (show (tE (.error e)).2≠0 from hx e rfl)];rfl
 ·rfl
theorem sJ {f:(Tm×Int->OS S)->OS S} {x:Except Int Tm} (c:Int) (hf:c=0-> ∀g,f g=g (tE x)) (hx: ∀e,x= .error e->e≠0) (Y:Tm×Int->OS S):
  (ac (!(c==0)) (Y (aH,c)) (f fun r=>Y (if c=0 then (if r.2=0 then (r.1,0) else (aH,r.2)) else (aH,c))))=Y (mM c x):=by
 by_cases hc:c=0
 ·subst hc
  rw [show (!((0:Int)==0))=false from rfl,ah,hf rfl,<-RB x hx 0]
 ·rw [dT hc,ca,aj,dz hc]
theorem Ax {x:Except Int Tm} (h: ∀e,x= .error e->0<e/\e<=1000): ∀e,x= .error e->e≠0:=fun e he=>by have:=h e he;omega
theorem atn {a b:Int} {t:Tm}: ∀e,tp a b t= .error e->0<e/\e<=1000:=fun e h=>zu (fun e h=>bN h) h
theorem PJ {a b:Int} {t:Tm}: ∀e,pu a b t= .error e->0<e/\e<=1000:=fun e h=>zu (fun e h=>iX t h) h
theorem as2 {i:Int} {r:LC} {t:Tm}: ∀e,wN i r t= .error e->0<e/\e<=1000:=fun e h=>zu (fun e h=>tl h) h
theorem arx (hk:F3 k) {t:Tm} {r:LC} {c:Int} (ht:c=0->In k t) (hr:RF r) (Y:Tm×Int->OS S):Ea k t r c Y=Y (mM c (wN 0 r t)):=by
 simp only [Ea,al hk.fu,eb,aA,m8]
 exact sJ c (fun h g=>aqR hk (ht h) (i:=0) (by decide) hr g) (Ax as2) Y
theorem art (hk:F3 k) {t:Tm} {c:Int} (ht:c=0->In k t) (Y:Tm×Int->OS S):D6 k t c Y=Y (mM c (wN 0 [⟨0,0⟩] t)):=by
 simp only [D6,al hk.fu,ri,aA,arx hk ht A3]
theorem aru (hk:F3 k) {t:Tm} {b c:Int} (ht:c=0->In k t) (hb:0<=b/\b<1000) (Y:Tm×Int->OS S):D8 k t b c Y=Y (mM c (pu 1 b t)):=by
 simp only [D8,al hk.fu,eb,aA,m8]
 exact sJ c (fun h g=>XX hk (ht h) (f:=1) (b:=b) (by decide) (by omega) g) (Ax PJ) Y
theorem M2 (hk:F3 k) {t:Tm} {a b c:Int} (ht:c=0->In k t) (ha:0<=a/\a<1000) (hb:0<=b/\b<1000) (Y:Tm×Int->OS S):gU k t a b c Y=Y (mM c (tp a b t)):=by
 simp only [gU,al hk.fu,eb,aA,m8]
 exact sJ c (fun h g=>aqy hk (ht h) (vb:=a) (db:=b) (by omega) (by omega) g) (Ax atn) Y
theorem arw (hk:F3 k) {f:LC} {b c:Int} (hf:aI f) (hl:f.length<1073741824) (hb:0<=b/\b<1000) (Y:LC×Int->OS S):D_ k f b c Y=Y (if c=0 then bP f 0 b else ([],c)):=by
 simp only [D_,al hk.fu,eb,aA,m8]
 by_cases hc:c=0
 ·subst hc
  rw [show (!((0:Int)==0))=false from rfl,ah,wF hk.fu hf hl (by unfold a6;omega) (by unfold a6;omega),if_pos rfl,if_pos rfl]
  split
  ·rename_i h;rw [show bP f 0 b=((bP f 0 b).1,(bP f 0 b).2) from rfl,h]
  ·rfl
 ·rw [dT hc,ca,aj,if_neg hc]
def dM (c:Int) (t:Tm):Tm×Int:=if c=0 then (if ck t=0 then (t,0) else (aH,ck t)) else (aH,c)
def oP (x:Except Int Tm):Tm×Bool×Int:=match x with
 | .ok t=>if ck t=0 then (t,true,0) else (aH,false,ck t)
 | .error e=>(aH,false,e)
theorem A_ (hk:F3 k) {t:Tm} {c:Int} (ht:In k t) (Y:Tm×Bool×Int×Int->OS S):jg k t c Y=Y ((dM c t).1,(dM c t).2==0,(dM c t).2,(dM c t).2):=by
 simp only [jg,al hk.fu,eb,aA,m8,jc ht.1 ht.2.1 ht.dep]
 have:OkT (dM c t).1/\Fd k (aw (dM c t).1):=by
  unfold dM
  split
  ·split
   ·exact ⟨ht.1,ht.2.1⟩
   ·exact ⟨(qc hk).1,(qc hk).2.1⟩
  ·exact ⟨(qc hk).1,(qc hk).2.1⟩
 exact td (dM c t).1 this.1 _ this.2
theorem PB {t:Tm} (g:Tm×Bool×Int->OS S):g ((dM 0 t).1,(dM 0 t).2==0,(dM 0 t).2)=g (oP (.ok t)):=by
 unfold dM oP
 simp only [if_true]
 split
 ·rfl
 ·rename_i h;rw [dT h]
theorem I7 {c:Int} (h:c≠0) {t:Tm} (g:Tm×Bool×Int->OS S):g ((dM c t).1,(dM c t).2==0,(dM c t).2)=g (oP (.error c)):=by
 unfold dM oP
 rw [if_neg h,dT h]
end Go.Proofs.YtgajalidbabccaaGreatDoor
namespace Go.Proofs.YtgajalidbabccaaGreatDoor
open Go PI
set_option maxRecDepth 20000
abbrev En:=Nat->Prop
def hp (c:Cl) (j:Nat):Prop:=c.pos.toNat.testBit j=true
def hn (c:Cl) (j:Nat):Prop:=c.neg.toNat.testBit j=true
theorem Xr {c:Cl} (h:RC c) {j:Nat} (hj:hp c j):j<24:=oX (by have:=h.1;omega) hj
theorem Xq {c:Cl} (h:RC c) {j:Nat} (hj:hn c j):j<24:=oX (by have:=h.2;omega) hj
def kh (P:En) (n:Nat) (A:Prop):En:=fun j=>(j≠n/\P j)\/(j=n/\A)

def RX (fa:Bool) (f:LC):Prop:=RF f/\(fa=true-> ∀c∈f,c6 c=false)
def same (n:Nat) (P P':En):Prop:= ∀j,j≠n->(P j↔P' j)
theorem same.symm {n:Nat} {P P':En} (h:same n P P'):same n P' P:=fun j hj=>(h j hj).symm
theorem anG {l:LC}:(ci l).1.length<=l.length:=by
 grind [ci,TV]
theorem anH {f:LC} {i b:Int}:(bP f i b).1.length<=f.length:=by
 unfold bP
 split
 ·split
  ·refine er anG ?_
   have:=(Ka (i:=i) (b:=b) (r:=f) (h:=[]) (fun c hc=>by cases hc)).2
   grind
  ·simp
 ·simp
abbrev RoR:=Bool->Int->LC->LC->Prop
abbrev RbR:=Int->LC->LC->Prop
mutual
def qZ (pl:Bool):Tm->Prop
 | .mk kd n nm r ks sys=>RX (decide (kd=14)) r/\qY pl ks/\w7 pl sys
def qY (pl:Bool):LT->Prop
 |[]=>True
 |t::l=>qZ pl t/\qY pl l
def w7 (pl:Bool):LB->Prop
 |[]=>True
 |b::l=>Pb pl b/\w7 pl l
def Pb (pl:Bool):Br Tm->Prop
 | .mk f ks=>(RX true f/\(pl=true->f≠[]))/\qY pl ks
end
section
variable {pl:Bool} {c vb db kd:Int} {fo fa:f_} {Ro Ro':RoR} {Rb Rb':RbR}
end
variable {S:Type} {k:Nat}
def Lt (sys:LB):Bool:=sys.any fun b=>(b.face.length:Int)==0
mutual
def sS:Tm->Bool
 | .mk _ _ _ _ ks sys=> !Lt sys&&(sU ks&&FU sys)
def sU:LT->Bool
 |[]=>true
 |t::l=>sS t&&sU l
def FU:LB->Bool
 |[]=>true
 |b::l=>Ui b&&FU l
def Ui:Br Tm->Bool
 | .mk _ ks=>sU ks
end
theorem XW {f:LC} (hf:aI f) (h:ep f=true):RX true f:=by
 have:=(ta hf).1 h
 exact ⟨this.1,fun _=>this.2⟩
theorem LG {vars dims kd n nm r ks sys} (hok:OkT (.mk kd n nm r ks sys)) (h:dE vars dims (.mk kd n nm r ks sys)=true):RX (decide (kd=14)) r/\ ∀b∈sys,RX true b.face:=by
 obtain ⟨o1,o2,o3,o4,o5,o6,o7⟩:=hok.node
 unfold dE at h
 simp only [aZ,decide_eq_true_eq] at h
 obtain ⟨⟨a1,a2,a3,a4⟩,a5⟩:=h
 have r0:r.length=0->RX (decide (kd=14)) r:=fun h=>by
  have:=kj.1 h;subst this;exact ⟨wz,fun _ c hc=>by cases hc⟩
 have nosys:dF kd=0-> ∀b∈sys,RX true b.face:=fun h=>by
  grind
 split at a5
 ·rename_i c
  simp only [aZ,decide_eq_true_eq] at a5
  exact ⟨r0 a5.1,nosys (by subst c;decide)⟩
 split at a5
 ·rename_i c
  simp only [aZ,decide_eq_true_eq] at a5
  exact ⟨r0 a5.1,nosys (by subst c;decide)⟩
 split at a5
 ·rename_i c
  rw [aZ] at a5
  exact ⟨⟨(jx o4).1 a5.1,fun h=>by grind⟩,nosys (by rcases c with rfl|rfl|rfl<;>decide)⟩
 split at a5
 ·rename_i c
  rw [aZ] at a5
  subst c
  exact ⟨XW o4 a5.1,nosys (by decide)⟩
 ·simp only [aZ,decide_eq_true_eq] at a5
  refine ⟨r0 a5.2,fun b hb=> ?_⟩
  have:=dA.1 a5.1 b hb
  unfold cO at this
  simp only [aZ] at this
  exact XW (hok.br hb).1.1 this.2.1
theorem afC {bd pl:Bool} (t:Tm): ∀ {vars dims:Int},OkT t->bM bd vars dims t=true->(pl=true->sS t=true)->qZ pl t:=by
 induction t using kf with
 |h kd n nm r ks sys ih1 ih2=>
  intro vars dims hok h hp
  rw [bM,aZ,aZ,aZ] at h
  obtain ⟨_,a,b,c⟩:=h
  obtain ⟨hr,hb⟩:=LG hok a
  have hok':=hok
  rw [OkT] at hok'
  obtain ⟨_,ok,os⟩:=hok'
  rw [sS] at hp
  simp only [aZ,Bool.not_eq_true'] at hp
  have hk: ∀ {l:LT} {i:Nat},(∀x∈l,∀ {vars dims:Int},OkT x->bM bd vars dims x=true->(pl=true->sS x=true)->qZ pl x)->bo l->cz bd vars dims kd i l=true->(pl=true->sU l=true)->qY pl l:=by
   intro l
   induction l<;>grind [cz,qY,sU,bo]
  have hm: ∀ {l:LT},(∀x∈l,∀ {vars dims:Int},OkT x->bM bd vars dims x=true->(pl=true->sS x=true)->qZ pl x)->bo l->c_ bd vars dims kd l=true->(pl=true->sU l=true)->qY pl l:=by
   intro l
   induction l<;>grind [c_,qY,sU,bo]
  have hs: ∀ {l:LB},(∀b∈l,∀x∈b.kids,∀ {vars dims:Int},OkT x->bM bd vars dims x=true->(pl=true->sS x=true)->qZ pl x)->bH l->(∀b∈l,RX true b.face)->c5 bd vars dims kd l=true->(pl=true->Lt l=false/\FU l=true)->w7 pl l:=by
   intro l
   induction l with
   |nil=>grind [w7]
   |cons b l ih=>
    intro h1 h2 h3 h4 h5
    obtain ⟨f,ks'⟩:=b
    rw [bH] at h2
    rw [iH] at h2
    rw [c5,mf,aZ] at h4
    rw [Lt,List.any_cons,Bool.or_eq_false_iff,FU,Ui,aZ] at h5
    rw [w7,Pb]
    refine ⟨⟨⟨h3 ⟨f,ks'⟩ (by simp),fun e he=> ?_⟩,hm (h1 ⟨f,ks'⟩ (by simp)) h2.1.2 h4.1 fun e=>(h5 e).2.1⟩,ih (fun b hb=>h1 b (by simp [hb])) h2.2 (fun b hb=>h3 b (by simp [hb])) h4.2 fun e=>⟨(h5 e).1.2,(h5 e).2.2⟩⟩
    grind
  grind [qZ]
theorem Fm.pl {t:Tm} {pl:Bool} (h:Fm t) (hp:pl=true->sS t=true):qZ pl t:=by
 have:=h.2
 unfold ck at this
 split at this
 ·simp_all
 split at this
 ·simp_all
 split at this
 ·rename_i h3;exact afC t h.1 h3 hp
 omega
theorem afA {kd d:Int}: ∀ {l:LT} {i:Nat} {x:Tm},24<=d->cz false (-1) d kd i l=true->x∈l->bM false (-1) 24 x=true:=by
 intro l
 induction l with
 |nil=>intro i x _ _ h;cases h
 |cons t l ih=>
  intro i x hd h hx
  rw [cz,aZ] at h
  rcases gc.1 hx with rfl|hx
  ·have:=h.1
   rw [Hh,nu x (by have:=jJ kd i;omega) (Int.le_refl 24)] at this;exact this
  ·exact ih hd h.2 hx
theorem Fm.kid {t x:Tm} (h:Fm t) (hx:x∈t.kids):Fm x:=by
 obtain ⟨h1,h2,h3⟩:=h8 h.2
 have hd:=dc hx
 have hs:ax x<=ax t:=by have:=m_ t;have:=kS hx;omega
 refine ⟨h.1.ki hx,rG (by omega) (by omega) ?_⟩
 obtain ⟨kd,n,nm,r,ks,sys⟩:=t
 rw [bM] at h3
 simp only [Bool.false_and,ca,gR,aZ] at h3
 exact afA (Int.le_refl 24) h3.2.1 hx
theorem Fm.brk {t x:Tm} {b:Br Tm} (h:Fm t) (hb:b∈t.sys) (hx:x∈b.kids):Fm x:=by
 obtain ⟨h1,h2,h3⟩:=h8 h.2
 have hd:=di hb hx
 have hs:ax x<=ax t:=by have:=m_ t;have:=ti hb;have:=kS hx;omega
 refine ⟨(h.1.bi hb).2 x hx,rG (by omega) (by omega) ?_⟩
 obtain ⟨kd,n,nm,r,ks,sys⟩:=t
 rw [bM] at h3
 simp only [Bool.false_and,ca,gR,aZ] at h3
 have:=h3.2.2
 rw [BB,dA] at this
 have:=dA.1 (this b hb) x hx
 rw [nu x (by have:=fO kd;omega) (Int.le_refl 24)] at this;exact this
theorem Fm.own {t:Tm} (h:Fm t):dE (-1) 24 t=true:=by
 have h3:=(h8 h.2).2.2
 cases t
 rw [bM] at h3
 simp only [Bool.false_and,ca,gR,aZ] at h3
 exact h3.1
theorem Fm.nk {t:Tm} (h:Fm t):fK t.kind=t.kids.length:=by
 have:=h.own
 cases t
 unfold dE at this
 simp only [aZ,decide_eq_true_eq] at this
 exact this.1.1
theorem Fm.n0 {t:Tm} (h:Fm t) (hk:t.kind≠1):t.n=0:=by
 have:=h.own
 cases t
 unfold dE at this
 simp only [aZ,decide_eq_true_eq] at this
 exact this.1.2.1.resolve_left hk
theorem ba0 {b:BA} (h:b.size=0):b=au:=by
 obtain ⟨⟨l⟩⟩:=b
 cases l with
 |nil=>rfl
 |cons c l=>cases h
theorem Fm.nm0 {t:Tm} (h:Fm t) (hk:t.kind≠2):t.name=au:=by
 have:=h.own
 cases t
 unfold dE at this
 simp only [aZ,decide_eq_true_eq] at this
 exact ba0 (this.1.2.2.1.resolve_left hk)
theorem Fm.kd0 {t:Tm} (h:Fm t):0<=t.kind:=h.rows.no.2.2
theorem Fm.r14 {t:Tm} (h:Fm t) (hk:t.kind=14):RX true t.r:=by
 have:=LG (kd:=t.kind) (n:=t.n) (nm:=t.name) (r:=t.r) (ks:=t.kids) (sys:=t.sys) (by cases t;exact h.1) (by have:=h.own;cases t;exact this)
 have h1:=this.1
 rw [hk] at h1;exact h1
theorem Fm.face {t:Tm} {b:Br Tm} (h:Fm t) (hb:b∈t.sys):RX true b.face:=by
 have:=LG (kd:=t.kind) (n:=t.n) (nm:=t.name) (r:=t.r) (ks:=t.kids) (sys:=t.sys) (by cases t;exact h.1) (by have:=h.own;cases t;exact this)
 exact this.2 b hb
theorem dw {α:Type} {l:List α} {n:Nat} {i:Int} (hi:i=n) {x:α} (h:l[n]? =some x):ai l i=some x:=by subst hi;rw [zA];exact h
theorem aqS (hk:F3 k) {t:Tm} {x:Except Int Tm} (hx: ∀e,x= .error e->0<e/\e<=1000) (hx': ∀t,x= .ok t->In k t/\0<t.kind) (Y:Tm×Bool×Int->OS S):Ew k t (rE x) Y=Y (oP x):=by
 simp only [Ew,al hk.fu,aA]
 have hkd:(rE x).kind≠0:=by
  cases hh:x with
  |error e=>have:=hx e hh;show-e≠0;omega
  |ok t=>have:=(hx' t hh).2;show t.kind≠0;omega
 rw [dT hkd,ah,XY hk hx fun t h=>⟨(hx' t h).1,by have:=(hx' t h).2;omega⟩]
 cases hh:x with
 |error e=>
  have:=hx e hh
  show Y (aH,e==0,e)=_
  rw [dT (by omega)];rfl
 |ok t=>
  unfold il oP
  rw [aF]
  by_cases h:ck t=0
  ·simp only [if_pos h];rfl
  ·simp only [if_neg h]
   show Y (aH,ck t==0,ck t)=_
   rw [dT h]
theorem I1 (n:Int) (b:Br Tm) (l:LB):dN n (b::l)=eA n b.kids+dN n l:=by cases b;rfl
theorem yj (n:Int) (t:Tm):cm n t=(if t.kind=1/\t.n=n then 1 else 0)+(ez n t.kind 0 t.kids+dN n t.sys):=by cases t;rfl
theorem agr {kd:Int}: ∀ {l:LT} {i:Nat} {n:Int},(∀x∈l,∀n,cm n x<=ax x)->ez n kd i l<=aK l:=by
 intro l
 induction l<;>grind [ez,aK]
theorem ags: ∀ {l:LT} {n:Int},(∀x∈l,∀n,cm n x<=ax x)->eA n l<=aK l:=by
 intro l
 induction l<;>grind [eA,aK]
theorem agt: ∀ {l:LB} {n:Int},(∀b∈l,∀x∈b.kids,∀n,cm n x<=ax x)->dN n l<=aX l:=by
 intro l
 induction l<;>grind [dN,aX,I1,m9,ags]
theorem Db (t:Tm): ∀n,cm n t<=ax t:=by
 induction t using eI<;>grind [yj,Be,agr,agt]
theorem Fm.no_sys {t:Tm} (h:Fm t) (hk:dF t.kind=0):t.sys=[]:=by
 have:=h.own
 cases t
 unfold dE at this
 simp only [aZ,decide_eq_true_eq] at this
 exact kj.1 (this.1.2.2.2 hk)
theorem Fm.leaf {t:Tm} (h:Fm t) (hk:t.kind=1):t.kids=[]/\t.sys=[]:=by
 have hn:=h.nk
 rw [hk] at hn
 refine ⟨kj.1 (by have:fK 1=0:=rfl;omega),h.no_sys (by rw [hk];rfl)⟩
section
variable {hd:Tm->Int->(Int->OS S)->OS S} {t:Tm} {n:Int}
theorem alN (hk:Fu k) (Y:Int->OS S) (rec2:Int->Int->OS S) {v:Int} {x:Br Tm} (hQ: ∀y∈x.kids,∀g,hd y n g=g ((cm n y:Nat):Int)) (hl:x.kids.length<1073741824):
  ∀ (r p:LT) (m a:Nat),x.kids=p++r->r.length<m->a+eA n r<4611686018427387904->rU hd k Y rec2 n t v x m (a:Int) (p.length:Int)=rec2 (af .i64 (v+1)) ((a+eA n r:Nat):Int):=by
 intro r
 induction r with
 |nil=>grind [aq,eA,rU,Cb,ah]
 |cons y r ih=>
  intro p m a h hm ha
  obtain ⟨m,rfl,hm'⟩:=aq hm
  obtain ⟨e1,e2,e3,e4⟩:=aR h (by omega)
  have hy:=hQ y (by grind)
  have hz:a+eA n (y::r)=(a+cm n y)+eA n r:=by rw [eA];omega
  rw [hz] at ha ⊢
  have hw:af .i64 ((a:Int)+((cm n y:Nat):Int))=((a+cm n y:Nat):Int):=by grind [bw]
  simp only [rU,Cb,e1,aj,e2,aJ,aA,hy,e3,hw,ih (p++[y]) m (a+cm n y) e4 hm' ha]
theorem alM (hk:Fu k) (Y:Int->OS S) (hQ: ∀b∈t.sys,∀y∈b.kids,∀g,hd y n g=g ((cm n y:Nat):Int)) (hl:t.sys.length<1073741824) (hl': ∀b∈t.sys,b.kids.length<1073741824):
  ∀ (r p:LB) (m a:Nat),t.sys=p++r->r.length<m->a+dN n r<4611686018427387904->n4 hd k Y n t m (p.length:Int) (a:Int)=Y ((a+dN n r:Nat):Int):=by
 intro r
 induction r with
 |nil=>grind [aq,dN,n4,xl,ah]
 |cons x r ih=>
  intro p m a h hm ha
  obtain ⟨m,rfl,hm'⟩:=aq hm
  obtain ⟨e1,e2,e3,e4⟩:=aR h (by omega)
  have hx:x∈t.sys:=by grind
  have hlx:=hl' x hx
  have hz:a+dN n (x::r)=(a+eA n x.kids)+dN n r:=by rw [I1];omega
  rw [hz] at ha ⊢
  have:=alN (t:=t) (n:=n) (v:=(p.length:Int)) hk Y (n4 hd k Y n t m) (hQ x hx) hlx x.kids [] k a rfl (by have:=hk;omega) (by omega)
  simp only [n4,xl,e1,aj,e2,aJ]
  refine ak this ?_
  rw [e3,ih (p++[x]) m (a+eA n x.kids) e4 hm' ha]
theorem alL (hk:Fu k) (Y:Int->OS S) (hn:0<=n/\n<=2199023255552) (hQ: ∀y∈t.kids,∀n',0<=n'/\n'<=n+1-> ∀g,hd y n' g=g ((cm n' y:Nat):Int)) (hQ': ∀b∈t.sys,∀y∈b.kids,∀g,hd y n g=g ((cm n y:Nat):Int)) (ht:OkT t):
  ∀ (r p:LT) (m a:Nat),t.kids=p++r->r.length<m->a+ez n t.kind p.length r+dN n t.sys<4611686018427387904->rT hd k Y t n m (p.length:Int) (a:Int)=Y ((a+ez n t.kind p.length r+dN n t.sys:Nat):Int):=by
 obtain ⟨o1,o2,o3,o4,o5,o6,o7⟩:=ht.no
 intro r
 induction r with
 |nil=>
  intro p m a h hm ha
  obtain ⟨m,rfl,hm'⟩:=aq hm
  have hz:a+ez n t.kind p.length []=a:=by rfl
  rw [hz] at ha ⊢
  have:=alM hk Y hQ' o7 (fun b hb=>(ht.bi hb).1.2.2) t.sys [] k a rfl (by omega) ha
  grind [rT,xk,ah]
 |cons y r ih=>
  intro p m a h hm ha
  obtain ⟨m,rfl,hm'⟩:=aq hm
  obtain ⟨e1,e2,e3,e4⟩:=aR h (by omega)
  have hb:=lf t.kind p.length
  have hwn:af .i64 (n+cv t.kind p.length)=n+cv t.kind p.length:=by grind [bw]
  have hy:=hQ y (by grind) (n+cv t.kind p.length) (by omega)
  have hz:a+ez n t.kind p.length (y::r)=(a+cm (n+cv t.kind p.length) y)+ez n t.kind (p++[y]).length r:=by grind [ez]
  rw [hz] at ha ⊢
  have hw:af .i64 ((a:Int)+((cm (n+cv t.kind p.length) y:Nat):Int))=((a+cm (n+cv t.kind p.length) y:Nat):Int):=by grind [bw]
  simp only [rT,xk,e1,aj,e2,aJ,aA,al hk,m7,hwn,hy,e3,hw,ih (p++[y]) m (a+cm (n+cv t.kind p.length) y) e4 hm' ha]
end
theorem aq3 (t:Tm): ∀ {k:Nat} {n:Int} (Y:Int->OS S),Fm t->Fd k (aw t)->0<=n/\n+aw t<=2199023255552->kr k t n Y=Y ((cm n t:Nat):Int):=by
 induction t using eI with
 |h t ih1 ih2=>
  intro k n Y ft hk hn
  obtain ⟨q,rfl,hq,hf⟩:=hk.pos' (du t)
  have hp:=du t
  have hz:=ft.siz
  have hc:=Db t n
  by_cases hv:t.kind=1/\t.n=n
  ·obtain ⟨l1,l2⟩:=ft.leaf hv.1
   grind [yj,ez,dN,kr,G8,aj]
  have hJ:Fy (kr q) q Y t n q=Y ((cm n t:Nat):Int):=by
   obtain ⟨j,rfl⟩: ∃j,q=j+1:=⟨q-1,by omega⟩
   rw [yj,if_neg hv,g7]
   rw [yj] at hc
   have:=alL (t:=t) (n:=n) hq Y (by omega) (fun y hy n' hn' g=>ih1 y hy g (ft.kid hy) (hf _ (dc hy)) ⟨hn'.1,by have:=dc hy;omega⟩) (fun b hb y hy g=>ih2 b hb y hy g (ft.brk hb hy) (hf _ (di hb hy)) ⟨hn.1,by have:=di hb hy;omega⟩) ft.ok t.kids [] (j+1) 0 rfl (by have:=ft.ok.no.2.2.2.2.2.1;omega) (by grind)
   grind [Fy,Ca]
  simp only [kr,G8,hJ]
  by_cases h1:t.kind=1<;>grind [aj,ah]
section
variable {hd:Tm->Int->(Int->OS S)->OS S} {t:Tm} {n:Int}
theorem ams (hk:Fu k) (Y:Int->OS S) (rec2:Int->Int->OS S) {v:Int} {x:Br Tm} (hv:ai t.sys v=some x) (hQ: ∀y∈x.kids,∀g,hd y n g=g ((cm n y:Nat):Int)) (hl:x.kids.length<1073741824):
  ∀ (r p:LT) (m a:Nat),x.kids=p++r->r.length<m->a+eA n r<4611686018427387904->sn hd k Y rec2 t n v m (p.length:Int) (a:Int)=rec2 ((a+eA n r:Nat):Int) (af .i64 (v+1)):=by
 intro r
 induction r with
 |nil=>grind [aq,eA,sn,CK,ah]
 |cons y r ih=>
  intro p m a h hm ha
  obtain ⟨m,rfl,hm'⟩:=aq hm
  obtain ⟨e1,e2,e3,e4⟩:=aR h (by omega)
  have hy:=hQ y (by grind)
  have hz:a+eA n (y::r)=(a+cm n y)+eA n r:=by rw [eA];omega
  rw [hz] at ha ⊢
  have hw:af .i64 ((a:Int)+((cm n y:Nat):Int))=((a+cm n y:Nat):Int):=by grind [bw]
  simp only [sn,CK,hv,e1,aj,e2,aJ,aA,hy,e3,hw,ih (p++[y]) m (a+cm n y) e4 hm' ha]
theorem amr (hk:Fu k) (Y:Int->OS S) (hQ: ∀b∈t.sys,∀y∈b.kids,∀g,hd y n g=g ((cm n y:Nat):Int)) (hl:t.sys.length<1073741824) (hl': ∀b∈t.sys,b.kids.length<1073741824):
  ∀ (r p:LB) (m a:Nat),t.sys=p++r->r.length<m->a+dN n r<4611686018427387904->oh hd k Y t n m (a:Int) (p.length:Int)=Y ((a+dN n r:Nat):Int):=by
 intro r
 induction r with
 |nil=>grind [aq,dN,oh,xQ,ah]
 |cons x r ih=>
  intro p m a h hm ha
  obtain ⟨m,rfl,hm'⟩:=aq hm
  obtain ⟨e1,e2,e3,e4⟩:=aR h (by omega)
  have hx:x∈t.sys:=by grind
  have hlx:=hl' x hx
  have hz:a+dN n (x::r)=(a+eA n x.kids)+dN n r:=by rw [I1];omega
  rw [hz] at ha ⊢
  have:=ams (t:=t) (n:=n) (v:=(p.length:Int)) hk Y (oh hd k Y t n m) e2 (hQ x hx) hlx x.kids [] k a rfl (by have:=hk;omega) (by omega)
  simp only [oh,xQ,e1,aj]
  refine ak this ?_
  rw [e3,ih (p++[x]) m (a+eA n x.kids) e4 hm' ha]
theorem amq (hk:Fu k) (Y:Int->OS S) (hn:0<=n/\n<=2199023255552) (hQ: ∀y∈t.kids,∀n',0<=n'/\n'<=n+1-> ∀g,hd y n' g=g ((cm n' y:Nat):Int)) (hQ': ∀b∈t.sys,∀y∈b.kids,∀g,hd y n g=g ((cm n y:Nat):Int)) (ht:OkT t):
  ∀ (r p:LT) (m a:Nat),t.kids=p++r->r.length<m->a+ez n t.kind p.length r+dN n t.sys<4611686018427387904->sk hd k Y t n m (a:Int) (p.length:Int)=Y ((a+ez n t.kind p.length r+dN n t.sys:Nat):Int):=by
 obtain ⟨o1,o2,o3,o4,o5,o6,o7⟩:=ht.no
 intro r
 induction r with
 |nil=>
  intro p m a h hm ha
  obtain ⟨m,rfl,hm'⟩:=aq hm
  have hz:a+ez n t.kind p.length []=a:=by rfl
  rw [hz] at ha ⊢
  have:=amr hk Y hQ' o7 (fun b hb=>(ht.bi hb).1.2.2) t.sys [] k a rfl (by omega) ha
  grind [sk,xP,ah]
 |cons y r ih=>
  intro p m a h hm ha
  obtain ⟨m,rfl,hm'⟩:=aq hm
  obtain ⟨e1,e2,e3,e4⟩:=aR h (by omega)
  have hb:=lf t.kind p.length
  have hwn:af .i64 (n+cv t.kind p.length)=n+cv t.kind p.length:=by grind [bw]
  have hy:=hQ y (by grind) (n+cv t.kind p.length) (by omega)
  have hz:a+ez n t.kind p.length (y::r)=(a+cm (n+cv t.kind p.length) y)+ez n t.kind (p++[y]).length r:=by grind [ez]
  rw [hz] at ha ⊢
  have hw:af .i64 ((a:Int)+((cm (n+cv t.kind p.length) y:Nat):Int))=((a+cm (n+cv t.kind p.length) y:Nat):Int):=by grind [bw]
  simp only [sk,xP,e1,aj,e2,aJ,aA,al hk,Bb hk,hwn,hy,e3,hw,ih (p++[y]) m (a+cm (n+cv t.kind p.length) y) e4 hm' ha]
end
theorem arp (t:Tm): ∀ {k:Nat} {n:Int} (Y:Int->OS S),Fm t->Fd k (aw t)->0<=n/\n+aw t<=2199023255552->lr k t n Y=Y ((cm n t:Nat):Int):=by
 induction t using eI with
 |h t ih1 ih2=>
  intro k n Y ft hk hn
  obtain ⟨q,rfl,hq,hf⟩:=hk.pos' (du t)
  have hp:=du t
  have hz:=ft.siz
  have hc:=Db t n
  have hJ: ∀a:Nat,a+(ez n t.kind 0 t.kids+dN n t.sys)<=20000->FD (lr q) q Y t n q (a:Int)=Y ((a+(ez n t.kind 0 t.kids+dN n t.sys):Nat):Int):=by
   intro a ha
   obtain ⟨j,rfl⟩: ∃j,q=j+1:=⟨q-1,by omega⟩
   have:=amq (t:=t) (n:=n) hq Y (by omega) (fun y hy n' hn' g=>ih1 y hy g (ft.kid hy) (hf _ (dc hy)) ⟨hn'.1,by have:=dc hy;omega⟩) (fun b hb y hy g=>ih2 b hb y hy g (ft.brk hb hy) (hf _ (di hb hy)) ⟨hn.1,by have:=di hb hy;omega⟩) ft.ok t.kids [] (j+1) a rfl (by have:=ft.ok.no.2.2.2.2.2.1;omega) (by grind)
   grind [FD,CJ]
  rw [yj] at hc ⊢
  simp only [lr,Oq]
  by_cases h1:t.kind=1
  ·grind [aj,ah]
  ·rw [beq_false_of_ne h1,ah,if_neg (fun h=>h1 h.1)]
   grind
theorem Uk (n:Int) (u:Tm) (v d kd:Int) (b:Br Tm) (l:LB):fR n u v d kd (b::l)=bE (bE (iZ n u v d kd b.kids) fun ks'=> .ok (.mk b.face ks')) fun b'=>bE (fR n u v d kd l) fun l'=> .ok (b'::l'):=by cases b;rfl
theorem aoo (t:Tm) (Y:Int->OS S):Ec k t Y=Y (aW t.kind):=by
 simp only [Ec,aW]
 by_cases h:t.kind=15
 ·rw [h];rfl
 ·rw [beq_false_of_ne h,if_neg h];rfl
theorem Fm.r1 {t:Tm} (h:Fm t) (hk:t.kind=1):t.r=[]:=by
 have:=h.own
 obtain ⟨kd,n,nm,r,ks,sys⟩:=t
 have hk:kd=1:=hk
 subst hk
 unfold dE at this
 simp only [aZ,decide_eq_true_eq,if_true] at this
 exact kj.1 this.2.1
section
variable {hd:Tm->Int->Tm->Int->Int->(Pan Int Tm->OS S)->OS S} {t u:Tm} {n v d:Int}
theorem amG (hk:Fu k) (Y:Pan Int Tm->OS S) (rec1:LB->Int->OS S) {ks:LT} {o:LB} {x:Br Tm} {i:Int} (hd0:0<=d/\d<4611686018427387904) (hQ: ∀y∈x.kids,∀g:Pan Int Tm->OS S,hd y n u v (d+aW t.kind) g=g (pE (dg n u v (d+aW t.kind) y))) (hl:x.kids.length<1073741824) (ho:o.length<1073741824):
  ∀ (r p acc:LT) (m:Nat),x.kids=p++r->r.length<m->acc.length+r.length<1073741824->
   rV hd k Y rec1 t ks o x u n v d i m acc (p.length:Int)=eE (iZ n u v d t.kind r) (fun l=>rec1 (o++[.mk x.face (acc++l)]) (af .i64 (i+1))) fun e=>Y (.pan e):=by
 have hm1:=fO t.kind
 have hwd:af .i64 (d+aW t.kind)=d+aW t.kind:=by grind [bw]
 intro r
 induction r with
 |nil=>
  grind [aq,rV,Cc,ah,iZ,bA,bn]
 |cons y r ih=>
  intro p acc m h hm ha
  obtain ⟨m,rfl,hm'⟩:=aq hm
  obtain ⟨e1,e2,e3,e4⟩:=aR h (by omega)
  rw [cM] at ha
  simp only [rV,Cc,e1,aj,e2,aJ,aA,al hk,aoo,hwd,hQ y (by grind),e3,iZ]
  grind [bq,lw,de,bn,bA]
theorem amF (hk:Fu k) (Y:Pan Int Tm->OS S) {ks:LT} (ht:OkT t) (hd0:0<=d/\d<4611686018427387904) (hQ: ∀b∈t.sys,∀y∈b.kids,∀g:Pan Int Tm->OS S,hd y n u v (d+aW t.kind) g=g (pE (dg n u v (d+aW t.kind) y))):
  ∀ (r p acc:LB) (m:Nat),t.sys=p++r->r.length<m->acc.length+r.length<1073741824->
   n5 hd k Y t ks u n v d m acc (p.length:Int)=eE (fR n u v d t.kind r) (fun l=>Y (.ok (.mk t.kind 0 t.name t.r ks (acc++l)))) fun e=>Y (.pan e):=by
 intro r
 induction r with
 |nil=>
  grind [aq,n5,xo,ah,fR,bA]
 |cons x r ih=>
  intro p acc m h hm ha
  obtain ⟨m,rfl,hm'⟩:=aq hm
  have hts:=ht.no.2.2.2.2.2.2
  obtain ⟨e1,e2,e3,e4⟩:=aR h (by omega)
  have hx:x∈t.sys:=by grind
  obtain ⟨⟨f1,f2,f3⟩,_⟩:=ht.bi hx
  rw [cM] at ha
  simp only [n5,xo,e1,aj,e2,aJ]
  rw [bn (by omega)]
  refine (amG (o:=acc) (i:=(p.length:Int)) hk Y (n5 hd k Y t ks u n v d m) hd0 (hQ x hx) f3 (by omega) x.kids [] [] k rfl (by omega) (by grind)).trans ?_
  rw [Uk,bq,bq]
  refine de (fun l _=> ?_) fun e _=>rfl
  grind [bA,bq]
theorem amE (hk:Fu k) (Y:Pan Int Tm->OS S) (ht:OkT t) (hv0:0<=v/\v<4611686018427387904) (hd0:0<=d/\d<4611686018427387904) (hQ: ∀y∈t.kids,∀a b,0<=a/\a<=1->0<=b/\b<=1-> ∀g:Pan Int Tm->OS S,hd y n u (v+a) (d+b) g=g (pE (dg n u (v+a) (d+b) y)))
  (hQ': ∀b∈t.sys,∀y∈b.kids,∀g:Pan Int Tm->OS S,hd y n u v (d+aW t.kind) g=g (pE (dg n u v (d+aW t.kind) y))):
  ∀ (r p acc:LT) (m:Nat),t.kids=p++r->r.length<m->acc.length+r.length<1073741824->
   u9 hd k Y t u n v d m acc (p.length:Int)=eE (gL n u v d t.kind p.length r) (fun l=>eE (fR n u v d t.kind t.sys) (fun l'=>Y (.ok (.mk t.kind 0 t.name t.r (acc++l) l'))) fun e=>Y (.pan e)) fun e=>Y (.pan e):=by
 obtain ⟨o1,o2,o3,o4,o5,o6,o7⟩:=ht.no
 intro r
 induction r with
 |nil=>
  intro p acc m h hm ha
  obtain ⟨m,rfl,hm'⟩:=aq hm
  simp only [u9,xm,cV h,ah,gL,bA,dZ]
  exact amF hk Y ht hd0 hQ' t.sys [] [] k rfl (by omega) (by grind)
 |cons y r ih=>
  intro p acc m h hm ha
  obtain ⟨m,rfl,hm'⟩:=aq hm
  obtain ⟨e1,e2,e3,e4⟩:=aR h (by omega)
  have bv:=lf t.kind p.length
  have bd:=jJ t.kind p.length
  have wv:af .i64 (v+cv t.kind p.length)=v+cv t.kind p.length:=by grind [bw]
  have wd:af .i64 (d+cF t.kind p.length)=d+cF t.kind p.length:=by grind [bw]
  rw [cM] at ha
  simp only [u9,xm,e1,aj,e2,aJ,aA,al hk,m7,wv,wd,hQ y (by grind) _ _ bv bd,e3,gL]
  rw [bq,lw]
  refine de (fun y' _=> ?_) fun e _=>rfl
  rw [bn (by grind),ih (p++[y]) (acc++[y']) m e4 hm' (by grind),bq,List.length_append,List.length_singleton]
  grind [bA]
end
theorem arG {u:Tm} {n:Int} (fu:Fm u) (hn:0<=n/\n<=1099511627776) (t:Tm): ∀ {k:Nat} {v d:Int} (Y:Pan Int Tm->OS S),Fm t->4294968296+aw t<=k->0<=v/\v+aw t<=1000->0<=d/\d+aw t<=1000->ku k t n u v d Y=Y (pE (dg n u v d t)):=by
 induction t using eI with
 |h t ih1 ih2=>
  intro k v d Y ft hk hv hd
  have hp:=du t
  obtain ⟨q,rfl⟩: ∃q,k=q+1:=⟨k-1,by omega⟩
  have h3:F3 q:=by omega
  have hfu:=h3.fu
  have wn:af .i64 (n+v)=n+v:=by grind [bw]
  have hpe:dg n u v d t=if t.kind=1/\t.n=n+v then av v d u else bE (gL n u v d t.kind 0 t.kids) fun ks'=>bE (fR n u v d t.kind t.sys) fun sys'=> .ok (.mk t.kind (if t.kind=1/\t.n>n+v then t.n-1 else t.n) t.name t.r ks' sys'):=by
   obtain ⟨kd,m,nm,r,ks,sys⟩:=t;rfl
  simp only [ku,NQ,wn,al hfu,aA]
  by_cases h1:t.kind=1
  ·obtain ⟨l1,l2⟩:=ft.leaf h1
   have hbe:(t.kind==1)=true:=by grind
   rw [hbe,aj,hpe]
   by_cases h2:t.n=n+v
   ·rw [h2,beq_self_eq_true,aj,if_pos ⟨h1,rfl⟩,M1 h3 fu (by omega) (by omega)]
    cases hh:av v d u with
    |error e=>
     have he:=bN hh
     rw [show (tE (.error e)).2=e from rfl,dT (show e≠0 by omega)];rfl
    |ok y=>rfl
   ·rw [beq_false_of_ne h2,ah,if_neg (fun h=>h2 h.2),l1,l2,gL,fR,aF,aF]
    have hr:t.r=[]:=ft.r1 h1
    have hnm:t.name=au:=ft.nm0 (by omega)
    by_cases h4:t.n>n+v
    ·have hi:=ft.ok.no.2.1
     have wt:af .i64 (t.n-1)=t.n-1:=by grind [a6,bw]
     rw [decide_eq_true h4,aj,if_pos ⟨h1,h4⟩,wt,h1,hr,hnm];rfl
    ·rw [decide_eq_false h4,ah,if_neg (fun h=>h4 h.2),<-l1,<-l2]
     cases t;rfl
  ·rw [beq_false_of_ne h1,ah,hpe,if_neg (fun h=>h1 h.1),if_neg (fun h=>h1 h.1),ft.n0 h1]
   obtain ⟨o1,o2,o3,o4,o5,o6,o7⟩:=ft.ok.no
   rw [bn (by omega)]
   have hQ: ∀y∈t.kids,∀a b,0<=a/\a<=1->0<=b/\b<=1-> ∀g:Pan Int Tm->OS S,ku q y n u (v+a) (d+b) g=g (pE (dg n u (v+a) (d+b) y)):=fun y hy a b ha hb g=>by
    have:=dc hy
    exact ih1 y hy g (ft.kid hy) (by omega) (by omega) (by omega)
   have hQ': ∀b∈t.sys,∀y∈b.kids,∀g:Pan Int Tm->OS S,ku q y n u v (d+aW t.kind) g=g (pE (dg n u v (d+aW t.kind) y)):=fun b hb y hy g=>by
    have:=di hb hy
    have:=fO t.kind
    exact ih2 b hb y hy g (ft.brk hb hy) (by omega) (by omega) (by omega)
   have:=amE (t:=t) (u:=u) (n:=n) (v:=v) (d:=d) hfu Y ft.ok (by omega) (by omega) hQ hQ' t.kids [] [] q rfl (by omega) (by grind)
   refine this.trans ?_
   refine ak ?_ (Xx _ Y).symm
   simp_all [bq,bA]
section
variable {hd:Tm->(Int->OS S)->OS S} {t:Tm}
theorem ant (hk:Fu k) (Y:Bool×Int->OS S) (rec1:Int->Int->Int->OS S) {v more:Int} {x:Br Tm} (hQ: ∀y∈x.kids,∀g,hd y g=g ((ax y:Nat):Int)) (hl:x.kids.length<1073741824):
  ∀ (r p:LT) (m a:Nat),x.kids=p++r->r.length<m->a+aK r<4611686018427387904->sz hd k Y rec1 t v x more m (a:Int) (p.length:Int)=rec1 ((a+aK r:Nat):Int) (af .i64 (v+1)) more:=by
 intro r
 induction r with
 |nil=>grind [aq,aK,sz,C2,ah]
 |cons y r ih=>
  intro p m a h hm ha
  obtain ⟨m,rfl,hm'⟩:=aq hm
  obtain ⟨e1,e2,e3,e4⟩:=aR h (by omega)
  have hy:=hQ y (by grind)
  have hz:a+aK (y::r)=(a+ax y)+aK r:=by rw [aK];omega
  rw [hz] at ha ⊢
  have hw:af .i64 ((a:Int)+((ax y:Nat):Int))=((a+ax y:Nat):Int):=by grind [bw]
  simp only [sz,C2,e1,aj,e2,aJ,aA,al hk,zc,hy,e3,hw,bY,ah,ih (p++[y]) m (a+ax y) e4 hm' ha]
theorem ans (hk:Fu k) (Y:Bool×Int->OS S) {more:Int} (hQ: ∀b∈t.sys,∀y∈b.kids,∀g,hd y g=g ((ax y:Nat):Int)) (hl:t.sys.length<1073741824) (hl': ∀b∈t.sys,b.kids.length<1073741824):
  ∀ (r p:LB) (m a:Nat),t.sys=p++r->r.length<m->a+aX r<4611686018427387904->ov hd k Y t m (a:Int) (p.length:Int) more=Y (true,((a+aX r:Nat):Int)):=by
 intro r
 induction r with
 |nil=>grind [aq,aX,ov,yd,ah]
 |cons x r ih=>
  intro p m a h hm ha
  obtain ⟨m,rfl,hm'⟩:=aq hm
  obtain ⟨e1,e2,e3,e4⟩:=aR h (by omega)
  have hx:x∈t.sys:=by grind
  have hlx:=hl' x hx
  have hz:a+aX (x::r)=(a+aK x.kids)+aX r:=by rw [aX,m9];omega
  rw [hz] at ha ⊢
  have:=ant (t:=t) (v:=(p.length:Int)) (more:=more) hk Y (ov hd k Y t m) (hQ x hx) hlx x.kids [] k a rfl (by have:=hk;omega) (by omega)
  simp only [ov,yd,e1,aj,e2,aJ]
  refine ak this ?_
  rw [e3,ih (p++[x]) m (a+aK x.kids) e4 hm' ha]
theorem anr (hk:Fu k) (Y:Bool×Int->OS S) (hQ: ∀y∈t.kids,∀g,hd y g=g ((ax y:Nat):Int)) (hQ': ∀b∈t.sys,∀y∈b.kids,∀g,hd y g=g ((ax y:Nat):Int)) (ht:OkT t):
  ∀ (r p:LT) (m a:Nat),t.kids=p++r->r.length<m->a+aK r+aX t.sys<4611686018427387904->vK hd k Y t m (a:Int) (p.length:Int)=Y (true,((a+aK r+aX t.sys:Nat):Int)):=by
 obtain ⟨o1,o2,o3,o4,o5,o6,o7⟩:=ht.no
 intro r
 induction r with
 |nil=>
  intro p m a h hm ha
  obtain ⟨m,rfl,hm'⟩:=aq hm
  have hz:a+aK []=a:=by rfl
  rw [hz] at ha ⊢
  have:=fun more=>ans (more:=more) hk Y hQ' o7 (fun b hb=>(ht.bi hb).1.2.2) t.sys [] k a rfl (by omega) ha
  simp only [vK,yc,cV h,ah]
  cases (t.kind==15)<;>grind [ah,aj]
 |cons y r ih=>
  intro p m a h hm ha
  obtain ⟨m,rfl,hm'⟩:=aq hm
  obtain ⟨e1,e2,e3,e4⟩:=aR h (by omega)
  have hy:=hQ y (by grind)
  have hz:a+aK (y::r)=(a+ax y)+aK r:=by rw [aK];omega
  rw [hz] at ha ⊢
  have hw:af .i64 ((a:Int)+((ax y:Nat):Int))=((a+ax y:Nat):Int):=by grind [bw]
  simp only [vK,yc,e1,aj,e2,aJ,aA,al hk,m7,zc,hy,e3,hw,bY,ah,ih (p++[y]) m (a+ax y) e4 hm' ha]
theorem alU (hk:Fu k) (Y:Bool×Int->OS S) (rec1:Int->Int->Int->OS S) {v more:Int} {x:Br Tm} (hQ: ∀y∈x.kids,∀g,hd y g=g ((aw y:Nat):Int)) (hl:x.kids.length<1073741824):
  ∀ (r p:LT) (m a:Nat),x.kids=p++r->r.length<m->sA hd k Y rec1 t v x more m (a:Int) (p.length:Int)=rec1 ((max a (a7 r):Nat):Int) (af .i64 (v+1)) more:=by
 intro r
 induction r with
 |nil=>grind [aq,a7,sA,C3,ah]
 |cons y r ih=>
  intro p m a h hm
  obtain ⟨m,rfl,hm'⟩:=aq hm
  obtain ⟨e1,e2,e3,e4⟩:=aR h (by omega)
  have hy:=hQ y (by grind)
  have hz:max a (a7 (y::r))=max (max a (aw y)) (a7 r):=by rw [a7];omega
  rw [hz]
  have hw:(if ((aw y:Nat):Int)>(a:Int) then ((aw y:Nat):Int) else (a:Int))=((max a (aw y):Nat):Int):=by omega
  simp only [sA,C3,e1,aj,e2,aJ,aA,al hk,zb,hy,e3,hw,bY,ah,ih (p++[y]) m (max a (aw y)) e4 hm']
theorem alT (hk:Fu k) (Y:Bool×Int->OS S) {more:Int} (hQ: ∀b∈t.sys,∀y∈b.kids,∀g,hd y g=g ((aw y:Nat):Int)) (hl:t.sys.length<1073741824) (hl': ∀b∈t.sys,b.kids.length<1073741824):
  ∀ (r p:LB) (m a:Nat),t.sys=p++r->r.length<m->ow hd k Y t m (a:Int) (p.length:Int) more=Y (true,((max a (bg r):Nat):Int)):=by
 intro r
 induction r with
 |nil=>grind [aq,bg,ow,yf,ah]
 |cons x r ih=>
  intro p m a h hm
  obtain ⟨m,rfl,hm'⟩:=aq hm
  obtain ⟨e1,e2,e3,e4⟩:=aR h (by omega)
  have hx:x∈t.sys:=by grind
  have hlx:=hl' x hx
  have hz:max a (bg (x::r))=max (max a (a7 x.kids)) (bg r):=by rw [bg,uk];omega
  rw [hz]
  have:=alU (t:=t) (v:=(p.length:Int)) (more:=more) hk Y (ow hd k Y t m) (hQ x hx) hlx x.kids [] k a rfl (by have:=hk;omega)
  simp only [ow,yf,e1,aj,e2,aJ]
  refine ak this ?_
  rw [e3,ih (p++[x]) m (max a (a7 x.kids)) e4 hm']
theorem alS (hk:Fu k) (Y:Bool×Int->OS S) (hQ: ∀y∈t.kids,∀g,hd y g=g ((aw y:Nat):Int)) (hQ': ∀b∈t.sys,∀y∈b.kids,∀g,hd y g=g ((aw y:Nat):Int)) (ht:OkT t):
  ∀ (r p:LT) (m a:Nat),t.kids=p++r->r.length<m->vL hd k Y t m (a:Int) (p.length:Int)=Y (true,((max (max a (a7 r)) (bg t.sys):Nat):Int)):=by
 obtain ⟨o1,o2,o3,o4,o5,o6,o7⟩:=ht.no
 intro r
 induction r with
 |nil=>
  intro p m a h hm
  obtain ⟨m,rfl,hm'⟩:=aq hm
  have hz:max a (a7 [])=a:=by rw [a7];omega
  rw [hz]
  have:=fun more=>alT (more:=more) hk Y hQ' o7 (fun b hb=>(ht.bi hb).1.2.2) t.sys [] k a rfl (by omega)
  simp only [vL,ye,cV h,ah]
  cases (t.kind==15)<;>grind [ah,aj]
 |cons y r ih=>
  intro p m a h hm
  obtain ⟨m,rfl,hm'⟩:=aq hm
  obtain ⟨e1,e2,e3,e4⟩:=aR h (by omega)
  have hy:=hQ y (by grind)
  have hz:max a (a7 (y::r))=max (max a (aw y)) (a7 r):=by rw [a7];omega
  rw [hz]
  have hw:(if ((aw y:Nat):Int)>(a:Int) then ((aw y:Nat):Int) else (a:Int))=((max a (aw y):Nat):Int):=by omega
  simp only [vL,ye,e1,aj,e2,aJ,aA,al hk,m7,zb,hy,e3,hw,bY,ah,ih (p++[y]) m (max a (aw y)) e4 hm']
end
theorem X5 (t:Tm):OkT t-> ∀ {k:Nat} (Y:Int->OS S),Fd k (aw t)->ax t<4611686018427387904->nH k t Y=Y ((ax t:Nat):Int):=by
 induction t using eI with
 |h t ih1 ih2=>
  intro ht k Y hk hs
  obtain ⟨q,rfl,hq,hf⟩:=hk.pos' (du t)
  have hz:=Be t
  have:=anr hq (fun r=>Y r.2) (fun y hy g=>ih1 y hy (ht.ki hy) g (hf _ (dc hy)) (by have:=kS hy;omega)) (fun b hb y hy g=>ih2 b hb y hy ((ht.bi hb).2 y hy) g (hf _ (di hb hy)) (by have:=kS hy;have:=ti hb;omega)) ht t.kids [] q 1 rfl (by have:=ht.no.2.2.2.2.2.1;omega) (by omega)
  grind [nH,Y4,aA,Jz,OO,al]
theorem aqC (t:Tm):OkT t-> ∀ {k:Nat} (Y:Int->OS S),Fd k (aw t)->aw t<4611686018427387904->nG k t Y=Y ((aw t:Nat):Int):=by
 induction t using eI with
 |h t ih1 ih2=>
  intro ht k Y hk hs
  obtain ⟨q,rfl,hq,hf⟩:=hk.pos' (du t)
  have hz:=ul t
  have:=alS hq (fun r=>Y (af .i64 (r.2+1))) (fun y hy g=>ih1 y hy (ht.ki hy) g (hf _ (dc hy)) (by have:=dc hy;omega)) (fun b hb y hy g=>ih2 b hb y hy ((ht.bi hb).2 y hy) g (hf _ (di hb hy)) (by have:=di hb hy;omega)) ht t.kids [] q 0 rfl (by have:=ht.no.2.2.2.2.2.1;omega)
  simp only [nG,Y3,al hq,aA,JA,OP]
  grind [bw]
abbrev F4 (k:Nat):Prop:=4294970296<=k
theorem F4.f3 (h:F4 k):F3 k:=by have:4294970296<=k:=h;unfold F3;omega
def qk (n:Int) (t u:Tm):Except Int Tm:=gm t (gm u (jY n t u))
theorem arF (hk4:F4 k) {t u:Tm} (ht:In k t) (hu:In k u) {n:Int} (hn:0<=n/\n<=1000000) (Y:Tm×Int->OS S):Eb k t n u Y=Y (tE (qk n t u)):=by
 have hk:=hk4.f3
 simp only [Eb,al hk.fu,aA,jc ht.1 ht.2.1 ht.dep,jc hu.1 hu.2.1 hu.dep]
 unfold qk
 by_cases h1:ck t=0
 case neg=>rw [dT h1,ca,aj];unfold gm;rw [if_neg h1];rfl
 by_cases h2:ck u=0
 case neg=>rw [h1,show (!((0:Int)==0))=false from rfl,ah,dT h2,ca,aj];unfold gm;rw [if_pos h1,if_neg h2];rfl
 have ft:Fm t:=⟨ht.1,h1⟩
 have fu:Fm u:=⟨hu.1,h2⟩
 have hc:=Db t n
 have z1:=ft.siz;have z2:=fu.siz;have z3:=l7 u;have d1:=ft.dep;have d2:=fu.dep
 have hk':4294970296<=k:=hk4
 have hif:(if 1099511627776<n then (1099511627776:Int) else n)=n:=if_neg (by omega)
 have hmul:cm n t*(ax u-1)<=20000*20000:=Nat.mul_le_mul (by omega) (by omega)
 have hw1:af .i64 ((ax u:Int)-1)=((ax u-1:Nat):Int):=by rw [bw (by omega) (by omega)];omega
 have hw2:af .i64 ((cm n t:Int)*((ax u-1:Nat):Int))=((cm n t*(ax u-1):Nat):Int):=by
  rw [<-Int.natCast_mul];exact bw (by omega) (by omega)
 have hw3:af .i64 ((ax t:Int)+((cm n t*(ax u-1):Nat):Int))=((ax t+cm n t*(ax u-1):Nat):Int):=by
  rw [<-Int.natCast_add];exact bw (by omega) (by omega)
 rw [h1,h2,show (!((0:Int)==0))=false from rfl,ah,ah,decide_eq_false (by omega),ah]
 simp only [hif]
 rw [X5 t ft.ok _ (ft.fd hk) (by omega),aq3 t _ ft (ft.fd hk) (by omega),X5 u fu.ok _ (fu.fd hk) (by omega),hw1,hw2,hw3]
 unfold gm
 rw [if_pos h1,if_pos h2]
 unfold jY
 by_cases h3:ax t+cm n t*(ax u-1)>20000
 ·rw [decide_eq_true (by omega),aj,if_pos h3];rfl
 rw [decide_eq_false (by omega),ah,if_neg h3,arG fu (by omega) t _ ft (by omega) (by omega) (by omega),lw]
 cases hp:dg n u 0 0 t with
 |error e=>rfl
 |ok o=>
  rw [bA,aF]
  have hall:=(h8 ft.2).2.2
  obtain ⟨q1,q2,q3,q4⟩:=LP fu (by omega) t (v:=0) (d:=0) (by omega) (by omega) (by omega) ft.ok hall hp
  show nG k o _=_
  rw [aqC o q1 _ (hk.fd (by omega)) (by omega)]
  by_cases h4:aw o>200
  ·rw [decide_eq_true (by omega),aj,if_pos h4];rfl
  ·rw [decide_eq_false (by omega),ah,if_neg h4];rfl
theorem ma {t:Tm} (h:t.kids.length=2): ∃a b,t.kids=[a,b]:=by
 match h':t.kids,h with
 |[a,b],_=>exact ⟨a,b,rfl⟩
theorem aoB {t:Tm} (h:t.kids.length=1): ∃a,t.kids=[a]:=by
 match h':t.kids,h with
 |[a],_=>exact ⟨a,rfl⟩
theorem Fm.sy {t:Tm} (h:Fm t) (hk:t.kind=15):(∀b∈t.sys,b.kids=[ay b]/\Fm (ay b)/\RX true b.face)/\t.sys.length<=20000:=by
 have ho:=h.own
 refine ⟨fun b hb=> ?_, ?_⟩
 ·have hl:b.kids.length=1:=by
   obtain ⟨kd,n,nm,r,ks,sys⟩:=t
   have hk:kd=15:=hk
   subst hk
   have ho:(_&&(sys.all (cO 15 24)&&_))=true:=ho
   simp only [aZ] at ho
   have:=dA.1 ho.2.1 b hb
   unfold cO at this
   simp only [aZ,decide_eq_true_eq] at this
   have h1:=this.1
   have:dF 15=1:=rfl
   omega
  obtain ⟨f,ks⟩:=b
  match ks,hl with
  |[a],_=>exact ⟨rfl,h.brk hb (by simp [ay]),h.face hb⟩
 ·have h1:=h.siz
  have h2:=m_ t
  have: ∀ {l:LB},(∀b∈l,b.kids≠[])->l.length<=aX l:=by
   intro l
   induction l with
   |nil=>intro _;simp
   |cons b l ih=>
    intro hl
    have:=ih fun b hb=>hl b (by simp [hb])
    have hb:=hl b (by simp)
    obtain ⟨f,ks⟩:=b
    cases ks with
    |nil=>exact absurd rfl hb
    |cons a ks=>rw [aX,g4,aK,cM];have:=l7 a;omega
  have:=this (l:=t.sys) fun b hb=>by
   intro he
   obtain ⟨kd,n,nm,r,ks,sys⟩:=t
   have hk:kd=15:=hk
   subst hk
   have ho:(_&&(sys.all (cO 15 24)&&_))=true:=ho
   simp only [aZ] at ho
   have:=dA.1 ho.2.1 b hb
   unfold cO at this
   simp only [aZ,decide_eq_true_eq] at this
   have h1:=this.1
   rw [he] at h1
   have:dF 15=1:=rfl
   simp at h1;omega
  omega
def l9 {α:Type} (c:Int) (x:Except Int α):Except Int α:=if c=0 then x else .error c
theorem eX {α:Type} (x:Except Int α):l9 0 x=x:=rfl
theorem fS {α:Type} {c:Int} (h:c≠0) (x:Except Int α):l9 c x= .error c:=if_neg h
structure Sm (n:Nat) (t:Tm):Prop where
 ok:OkT t
 siz:ax t<=n
 dep:aw t<=300
theorem Fm.sm {t:Tm} (h:Fm t):Sm 20000 t:=⟨h.ok,h.siz,by have:=h.dep;omega⟩
theorem Sm.mono {n m:Nat} {t:Tm} (h:Sm n t) (hnm:n<=m):Sm m t:=⟨h.ok,by have:=h.siz;omega,h.dep⟩
theorem aor:Sm 20000 aH:=⟨T2,by unfold aH;rw [ax,aK,aX];omega,by unfold aH;rw [aw,a7,bg];omega⟩
theorem Sm.isIn {n:Nat} {t:Tm} (h:Sm n t) (hk:F3 k) (hn:n<1099511627776):In k t:=⟨h.ok,hk.fd (by have:=h.dep;omega),by have:=h.siz;omega⟩
structure Bs' (n:Nat) (l:LB):Prop where
 ok:bH l
 siz:aX l<=l.length*n
 dep:bg l<=301
theorem af0 (n:Nat):Bs' n []:=⟨by rw [bH];trivial,by rw [aX];simp,by rw [bg];omega⟩
theorem qA {kd:Int} (hkd:0<=kd/\kd<=28) {r:LC} (hr:aI r/\r.length<1073741824) {ks:LT} {sys:LB} {n m:Nat} (hks: ∀x∈ks,OkT x/\aw x<=299) (hl:ks.length<1000) (hz:aK ks<=n) (hs:bH sys) (hsl:sys.length<1073741824) (hsd:bg sys<=299) (hsz:aX sys<=m):Sm (n+m+1) (.mk kd 0 au r ks sys):=by
 have hd:a7 ks<=299:=by
  have: ∀ {l:LT},(∀x∈l,aw x<=299)->a7 l<=299:=by
   intro l
   induction l with
   |nil=>intro _;rw [a7];omega
   |cons t l ih=>intro h;rw [a7];have:=h t (by simp);have:=ih fun x hx=>h x (by simp [hx]);omega
  exact this fun x hx=>(hks x hx).2
 refine ⟨?_, ?_, ?_⟩
 ·rw [OkT]
  exact ⟨⟨by unfold a6;omega,by unfold a6;omega,by decide,hr.1,hr.2,by omega,hsl⟩,okK_iff.2 fun x hx=>(hks x hx).1,hs⟩
 ·rw [ax];omega
 ·rw [aw];omega
theorem iR {t:Tm} {a b:Tm} (h:t.kids=[a,b]):t.kids.getD 0 aH=a/\t.kids.getD 1 aH=b:=by rw [h];exact ⟨rfl,rfl⟩
theorem kQ {fa:Bool} {f:LC} (h:RX fa f):aI f/\f.length<1073741824:=⟨h.1.2,by have:=h.1.len;omega⟩
theorem anQ {f:LC} {b:Int} (h:RF f):aI (bP f 0 b).1/\(bP f 0 b).1.length<1073741824:=by
 have hl:=anH (f:=f) (i:=0) (b:=b)
 have:=h.len
 refine ⟨?_,by omega⟩
 by_cases h0:(bP f 0 b).2=0
 ·exact (mP h0).2
 ·rw [anN h0];exact fun c hc=>by cases hc
theorem jq {t:Tm} (h:Fm t) {kd:Int} (hk:t.kind=kd) {n:Nat} (hn:fK kd=n):t.kids.length=n:=by
 have:=h.nk
 rw [hk,hn] at this;omega
theorem pD {t a b:Tm} (h:t.kids=[a,b]):ai t.kids 0=some a/\ai t.kids 1=some b:=by rw [h];exact ⟨rfl,rfl⟩
theorem Fo {vb db v d:Int} {t:Tm} (h:Fm t):Gd (bJ vb db v d t):=⟨fun e he=>iX t he,fun y hy=>by rw [p_ hy];exact h.rows.no.2.2⟩
theorem Yt (hk:F3 k) {t:Tm} (ht:Fm t) (Y:Tm->OS S):Ey k t 1 Y=Y (rE (bJ 0 1 0 1 t)):=by
 simp only [Ey,al hk.fu,aA,Yp hk ht (show (0:Int)<=1/\(1:Int)<=24 by omega) (show (0:Int)<=1/\(1:Int)<9223372036854775808 by omega)]
 rw [decide_eq_false (by have:=ht.rows.no.2.2;omega),ah]
 cases hh:bJ 0 1 0 1 t with
 |error e=>
  have he:=iX t hh
  rw [show (tE (.error e)).2=e from rfl,dT (show e≠0 by omega),ca,aj,jb he];rfl
 |ok y=>rfl
theorem YO {α:Type} (c:Bool) (a:α):ac c a a=a:=by cases c<;>rfl
theorem Yq {x:Except Int Tm} (hx:Gd x) (Y:Tm×Int->OS S):nE k (rE x) Y=Y (tE x):=by
 simp only [nE]
 cases hh:x with
 |error e=>
  have he:=hx.en e hh
  rw [show rE (.error e)=bD e from rfl,fj he.1,aj]
  show Y (aH,af .i64 (0- -e))=Y (aH,e)
  rw [bw (by omega) (by omega)];congr 2;omega
 |ok y=>
  have:=hx.kd y hh
  rw [show rE (.ok y)=y from rfl,decide_eq_false (by omega),ah,aA];rfl
theorem arH (hk:F3 k) {t:Tm} (ht:Fm t) {vb db:Int} (hvb:0<=vb/\vb<=1000000) (hdb:0<=db/\db<9223372036854775808) (Y:Tm×Int->OS S):Er k t vb db Y=Y (tE (av vb db t)):=by
 obtain ⟨q,rfl⟩: ∃q,k=q+1:=⟨k-1,by have:4294968296<=k:=hk;omega⟩
 have hvars: ∀g:Tm×Int->OS S,Es (q+1) t 0 vb g=g (tE (bJ vb 0 0 0 t)):=fun g=>by
  simp only [Es,On,KN,IL,al hk.fu,aA,yR,Bc ht.ok (ht.fd hk) (show ax t<1099511627776 by have:=ht.siz;omega),ht.2]
  rw [show ((0:Int)==0)=true from rfl,aj,decide_eq_false (by omega),ah,decide_eq_false (by omega),ah]
  rw [decide_eq_false (by omega),ah,aj,bY,ah,decide_eq_false (by omega),ah,Bd (by omega) (by omega) t ht.ok ht.rows _ (ht.fd hk) (ht.vp (by omega) (by omega))]
  rw [Yq (Fo ht)]
 simp only [Er,Om,KM,IK,al hk.fu,aA,hvars]
 unfold av
 cases hh:bJ vb 0 0 0 t with
 |error e=>
  have he:=iX t hh
  rw [show (tE (.error e)).2=e from rfl,dT (show e≠0 by omega),ah,ca,aj,decide_eq_false (by omega),ah];rfl
 |ok y=>
  have fy:=lM (by omega) ht hh
  rw [show (tE (.ok y)).2=0 from rfl,show ((0:Int)==0)=true from rfl,aj,decide_eq_false (by omega),ah,bY,ah]
  show dI (q+1) y 0 0 0 db _=_
  rw [Bd (by omega) (by omega) y fy.ok fy.rows _ (fy.fd hk) (fy.vp (by omega) (by omega)),Yq (Fo fy),aF]
theorem LN (n:Int) (u:Tm) (v d:Int) (t:Tm):dg n u v d t=if t.kind=1/\t.n=n+v then av v d u else bE (gL n u v d t.kind 0 t.kids) fun ks'=>bE (fR n u v d t.kind t.sys) fun sys'=> .ok (.mk t.kind (if t.kind=1/\t.n>n+v then t.n-1 else t.n) t.name t.r ks' sys'):=by
 obtain ⟨kd,m,nm,r,ks,sys⟩:=t;rfl
theorem Kf {u t:Tm} (fu:Fm u) (ft:Fm t) {n v d:Int}:Gd (dg n u v d t):=by
 refine ⟨fun e h=>LO t h,fun o h=> ?_⟩
 rw [LN] at h
 split at h
 ·rw [Zj h];exact fu.rows.no.2.2
 ·obtain ⟨a,_,h⟩:=aY h
  obtain ⟨b,_,h⟩:=aY h
  injection h with h
  subst h
  exact ft.rows.no.2.2
section
variable {hd:Tm->Int->Tm->Int->Int->(Tm->OS S)->OS S} {t u:Tm} {n v d:Int}
theorem QG {x:Except Int Tm} (hx:Gd x) (f:Tm->OS S) (Y:Tm->OS S):ac (decide ((rE x).kind<0)) (Y (rE x)) (f (rE x))=eE x f fun e=>Y (bD e):=
 wc (fun e h=>(hx.en e h).1) hx.kd f Y
theorem ang (hk:Fu k) (Y:Tm->OS S) (rec3:LB->Int->OS S) {ks:LT} {b1:Int} {o:LB} {x:Br Tm} {i:Int} (hi:ai t.sys i=some x) (hd0:0<=d/\d<4611686018427387904) (hG: ∀y∈x.kids,Gd (dg n u v (d+aW t.kind) y)) (hQ: ∀y∈x.kids,∀g:Tm->OS S,hd y n u v (d+aW t.kind) g=g (rE (dg n u v (d+aW t.kind) y))) (hl:x.kids.length<1073741824) (ho:o.length<1073741824):
  ∀ (r p acc:LT) (m:Nat),x.kids=p++r->r.length<m->acc.length+r.length<1073741824->
   pX hd k Y rec3 t b1 ks o x u n i v d m acc (p.length:Int)=eE (iZ n u v d t.kind r) (fun l=>rec3 (o++[.mk x.face (acc++l)]) (af .i64 (i+1))) fun e=>Y (bD e):=by
 have hm1:=fO t.kind
 have hwd:af .i64 (d+aW t.kind)=d+aW t.kind:=by grind [bw]
 intro r
 induction r with
 |nil=>
  grind [aq,pX,CL,ah,iZ,bA,bn]
 |cons y r ih=>
  intro p acc m h hm ha
  obtain ⟨m,rfl,hm'⟩:=aq hm
  obtain ⟨e1,e2,e3,e4⟩:=aR h (by omega)
  rw [cM] at ha
  have hmore: ∀g:Int->OS S,pm k t.kind g=g (aW t.kind):=fun g=>GV t.kind g
  simp only [pX,CL,hi,e1,aj,e2,aJ,aA,al hk,hmore,hwd,hQ y (by grind),e3,iZ]
  refine (QG (hG y (by grind)) (fun r12=>ag (aS 1099511627776 acc.length [r12].length) fun _=>pX hd k Y rec3 t b1 ks o x u n i v d m (acc++[r12]) (((p++[y]).length:Nat):Int)) Y).trans ?_
  rw [bq]
  refine de (fun y' _=> ?_) fun e _=>rfl
  grind [bn,bq,bA]
theorem anf (hk:Fu k) (Y:Tm->OS S) {ks:LT} {b1:Int} (ht:OkT t) (hd0:0<=d/\d<4611686018427387904) (hG: ∀b∈t.sys,∀y∈b.kids,Gd (dg n u v (d+aW t.kind) y)) (hQ: ∀b∈t.sys,∀y∈b.kids,∀g:Tm->OS S,hd y n u v (d+aW t.kind) g=g (rE (dg n u v (d+aW t.kind) y))):
  ∀ (r p acc:LB) (m:Nat),t.sys=p++r->r.length<m->acc.length+r.length<1073741824->
   oi hd k Y t b1 ks u n v d m acc (p.length:Int)=eE (fR n u v d t.kind r) (fun l=>Y (.mk t.kind b1 t.name t.r ks (acc++l))) fun e=>Y (bD e):=by
 intro r
 induction r with
 |nil=>
  grind [aq,oi,xS,ah,fR,bA]
 |cons x r ih=>
  intro p acc m h hm ha
  obtain ⟨m,rfl,hm'⟩:=aq hm
  have hts:=ht.no.2.2.2.2.2.2
  obtain ⟨e1,e2,e3,e4⟩:=aR h (by omega)
  have hx:x∈t.sys:=by grind
  obtain ⟨⟨f1,f2,f3⟩,_⟩:=ht.bi hx
  rw [cM] at ha
  simp only [oi,xS,e1,aj,e2,aJ]
  refine (ang (o:=acc) (b1:=b1) (i:=(p.length:Int)) hk Y (oi hd k Y t b1 ks u n v d m) e2 hd0 (hG x hx) (hQ x hx) f3 (by omega) x.kids [] [] k rfl (by omega) (by grind)).trans ?_
  rw [Uk,bq,bq]
  refine de (fun l _=> ?_) fun e _=>rfl
  grind [bA,bq]
theorem ane (hk:Fu k) (Y:Tm->OS S) {b1:Int} (ht:OkT t) (hv0:0<=v/\v<4611686018427387904) (hd0:0<=d/\d<4611686018427387904) (hG: ∀y∈t.kids,∀a b,Gd (dg n u (v+a) (d+b) y)) (hQ: ∀y∈t.kids,∀a b,0<=a/\a<=1->0<=b/\b<=1-> ∀g:Tm->OS S,hd y n u (v+a) (d+b) g=g (rE (dg n u (v+a) (d+b) y)))
  (hG': ∀b∈t.sys,∀y∈b.kids,Gd (dg n u v (d+aW t.kind) y)) (hQ': ∀b∈t.sys,∀y∈b.kids,∀g:Tm->OS S,hd y n u v (d+aW t.kind) g=g (rE (dg n u v (d+aW t.kind) y))):
  ∀ (r p acc:LT) (m:Nat),t.kids=p++r->r.length<m->acc.length+r.length<1073741824->
   pW hd k Y t b1 u n v d m acc (p.length:Int)=eE (gL n u v d t.kind p.length r) (fun l=>eE (fR n u v d t.kind t.sys) (fun l'=>Y (.mk t.kind b1 t.name t.r (acc++l) l')) fun e=>Y (bD e)) fun e=>Y (bD e):=by
 obtain ⟨o1,o2,o3,o4,o5,o6,o7⟩:=ht.no
 intro r
 induction r with
 |nil=>
  intro p acc m h hm ha
  obtain ⟨m,rfl,hm'⟩:=aq hm
  simp only [pW,xR,cV h,ah,gL,bA,dZ]
  exact anf hk Y ht hd0 hG' hQ' t.sys [] [] k rfl (by omega) (by grind)
 |cons y r ih=>
  intro p acc m h hm ha
  obtain ⟨m,rfl,hm'⟩:=aq hm
  obtain ⟨e1,e2,e3,e4⟩:=aR h (by omega)
  have bv:=lf t.kind p.length
  have bd:=jJ t.kind p.length
  have wv:af .i64 (v+cv t.kind p.length)=v+cv t.kind p.length:=by grind [bw]
  have wd:af .i64 (d+cF t.kind p.length)=d+cF t.kind p.length:=by grind [bw]
  rw [cM] at ha
  simp only [pW,xR,e1,aj,e2,aJ,aA,al hk,Bb hk,wv,wd,hQ y (by grind) _ _ bv bd,e3,gL]
  refine (QG (hG y (by grind) _ _) (fun r5=>ag (aS 1099511627776 acc.length [r5].length) fun _=>pW hd k Y t b1 u n v d m (acc++[r5]) (((p++[y]).length:Nat):Int)) Y).trans ?_
  rw [bq]
  refine de (fun y' _=> ?_) fun e _=>rfl
  rw [bn (by grind),ih (p++[y]) (acc++[y']) m e4 hm' (by grind),bq,List.length_append,List.length_singleton]
  grind [bA]
end
theorem ar7 {u:Tm} {n:Int} (fu:Fm u) (hn:0<=n/\n<=1099511627776) (t:Tm): ∀ {k:Nat} {v d:Int} (Y:Tm->OS S),Fm t->4294968296+aw t<=k->0<=v/\v+aw t<=1000->0<=d/\d+aw t<=1000->gj k t n u v d Y=Y (rE (dg n u v d t)):=by
 induction t using eI with
 |h t ih1 ih2=>
  intro k v d Y ft hk hv hd
  have hp:=du t
  obtain ⟨q,rfl⟩: ∃q,k=q+1:=⟨k-1,by omega⟩
  have h3:F3 q:=by omega
  have hfu:=h3.fu
  have wn:af .i64 (n+v)=n+v:=by grind [bw]
  have hi:=ft.ok.no.2.1
  unfold a6 at hi
  obtain ⟨o1,o2,o3,o4,o5,o6,o7⟩:=ft.ok.no
  have hQ: ∀y∈t.kids,∀a b,0<=a/\a<=1->0<=b/\b<=1-> ∀g:Tm->OS S,gj q y n u (v+a) (d+b) g=g (rE (dg n u (v+a) (d+b) y)):=fun y hy a b ha hb g=>by
   have:=dc hy
   exact ih1 y hy g (ft.kid hy) (by omega) (by omega) (by omega)
  have hQ': ∀b∈t.sys,∀y∈b.kids,∀g:Tm->OS S,gj q y n u v (d+aW t.kind) g=g (rE (dg n u v (d+aW t.kind) y)):=fun b hb y hy g=>by
   have:=di hb hy
   have:=fO t.kind
   exact ih2 b hb y hy g (ft.brk hb hy) (by omega) (by omega) (by omega)
  have hJ: ∀b1:Int,vv (gj q) q Y t u n v d q b1=eE (gL n u v d t.kind 0 t.kids) (fun l=>eE (fR n u v d t.kind t.sys) (fun l'=>Y (.mk t.kind b1 t.name t.r l l')) fun e=>Y (bD e)) fun e=>Y (bD e):=fun b1=>by
   have:=ane (b1:=b1) (t:=t) (u:=u) (n:=n) (v:=v) (d:=d) hfu Y ft.ok (by omega) (by omega) (fun y hy a b=>Kf fu (ft.kid hy)) hQ (fun b hb y hy=>Kf fu (ft.brk hb hy)) hQ' t.kids [] [] q rfl (by omega) (by grind)
   obtain ⟨j,rfl⟩: ∃j,q=j+1:=⟨q-1,by omega⟩
   exact this
  have hR: ∀b1:Int,(if t.kind=1/\t.n>n+v then t.n-1 else t.n)=b1-> ¬ (t.kind=1/\t.n=n+v)->eE (gL n u v d t.kind 0 t.kids) (fun l=>eE (fR n u v d t.kind t.sys) (fun l'=>Y (.mk t.kind b1 t.name t.r l l')) fun e=>Y (bD e)) (fun e=>Y (bD e))=Y (rE (dg n u v d t)):=fun b1 hb hc=>by
   rw [LN,if_neg hc,hb]
   refine ak ?_ (oJ _ Y).symm
   grind [bq,bA]
  have hL:zN (gj q) q Y t u n v d q=tx (gj q) q Y t u n v d (fun b1=>vv (gj q) q Y t u n v d q b1):=by
   have: ∀m,0<m->zN (gj q) q Y t u n v d m=tx (gj q) q Y t u n v d (fun b1=>vv (gj q) q Y t u n v d q b1):=fun m hm=>by
    cases m with
    |zero=>omega
    |succ m=>rfl
   grind
  show G_ (gj q) q Y (zN (gj q) q Y t u n v d q) t n u v d=_
  rw [hL]
  simp only [G_,tx,wn,al hfu,aA,hJ]
  by_cases h1:t.kind=1
  ·have hbe:(t.kind==1)=true:=by grind
   rw [hbe,aj,aj]
   by_cases h2:t.n=n+v
   ·rw [LN,if_pos ⟨h1,h2⟩,h2,beq_self_eq_true,aj,arH h3 fu (by omega) (by omega)]
    cases hh:av v d u with
    |error e=>
     have he:=bN hh
     rw [show (tE (.error e)).2=e from rfl,dT (show e≠0 by omega),ca,aj,jb he];rfl
    |ok y=>rfl
   ·rw [beq_false_of_ne h2,ah]
    by_cases h4:t.n>n+v
    ·have wt:af .i64 (t.n-1)=t.n-1:=bw (by omega) (by omega)
     grind [aj]
    grind [ah]
  grind [ah]
theorem arI (hk4:F4 k) {t u:Tm} (ft:Fm t) (fu:Fm u) {n:Int} (hn:0<=n/\n<=1000000) (Y:Tm->OS S):yS k t n u Y=Y (rE (jY n t u)):=by
 have hk:=hk4.f3
 have hk':4294970296<=k:=hk4
 have hc:=Db t n
 have z1:=ft.siz;have z2:=fu.siz;have z3:=l7 u;have d1:=ft.dep;have d2:=fu.dep
 have hmul:cm n t*(ax u-1)<=20000*20000:=Nat.mul_le_mul (by omega) (by omega)
 have hw1:af .i64 ((ax u:Int)-1)=((ax u-1:Nat):Int):=by grind [bw]
 have hw2:af .i64 ((cm n t:Int)*((ax u-1:Nat):Int))=((cm n t*(ax u-1):Nat):Int):=by
  grind [bw]
 have hw3:af .i64 ((ax t:Int)+((cm n t*(ax u-1):Nat):Int))=((ax t+cm n t*(ax u-1):Nat):Int):=by
  grind [bw]
 simp only [yS,al hk.fu,aA]
 rw [decide_eq_false (by have:=ft.rows.no.2.2;omega),ah,decide_eq_false (by have:=fu.rows.no.2.2;omega),ah,M7 t ft.ok _ (ft.fd hk) (by omega),arp t _ ft (ft.fd hk) (by omega),M7 u fu.ok _ (fu.fd hk) (by omega),hw1,hw2,hw3]
 unfold jY
 by_cases h3:ax t+cm n t*(ax u-1)>20000
 ·rw [decide_eq_true (by omega),aj,if_pos h3,jb (by omega)];rfl
 rw [decide_eq_false (by omega),ah,if_neg h3,ar7 fu (by omega) t _ ft (by omega) (by omega) (by omega)]
 cases hp:dg n u 0 0 t with
 |error e=>
  have he:=LO t hp
  rw [cA,show rE (.error e)=bD e from rfl,decide_eq_false (show ¬ ((bD e).kind>=0) from by show ¬ (-e>=0);omega),ah]
 |ok o=>
  have hkd:=(Kf fu ft).kd o hp
  have hall:=(h8 ft.2).2.2
  obtain ⟨q1,q2,q3,q4⟩:=LP fu (by omega) t (v:=0) (d:=0) (by omega) (by omega) (by omega) ft.ok hall hp
  rw [aF,show rE (.ok o)=o from rfl,decide_eq_true (show o.kind>=0 from hkd),aj,Yy o q1 _ (hk.fd (by omega)) (by omega)]
  by_cases h4:aw o>200
  ·rw [decide_eq_true (by omega),aj,if_pos h4,jb (by omega)];rfl
  ·rw [decide_eq_false (by omega),ah,if_neg h4];rfl
theorem ame (hk:Fu k) (Y:Tm×Int->OS S) {c0 c2:Int} {c1:Tm} {ns:List Int} (hl:ns.length<1000) (hn: ∀x∈ns,0<=x):
  ∀ (r p:List Int) (m:Nat),ns=p++r->r.length<m->rR k Y c0 c1 c2 ns m (p.length:Int)=DX k c0 c1 c2 fun r4=>Pan.elim r4 (fun r4=>Y (r4,0)) fun e5=>Y (aH,e5):=by
 intro r
 induction r with
 |nil=>
  intro p m h hm
  obtain ⟨m,rfl,hm'⟩:=aq hm
  simp only [rR,B8,cV h,ah,al hk,aA];rfl
 |cons x r ih=>
  intro p m h hm
  obtain ⟨m,rfl,hm'⟩:=aq hm
  obtain ⟨e1,e2,e3,e4⟩:=aR h (by omega)
  have hx:=hn x (by grind)
  grind [rR,B8,bR]
theorem aro (hk:F3 k) {t:Tm} (ht:Fm t) {f b:Int} (hf:0<=f/\f<=1000000) (hb:0<=b/\b<=1000000) (Y:Tm×Int->OS S):tZ k t f b Y=Y (tE (bJ b 0 f 0 t)):=by
 have hw:af .i64 (1000000-b)=1000000-b:=bw (by omega) (by omega)
 have hl:=ame hk.fu Y (c0:=b) (c2:=f) (c1:=t) (ns:=[f,b,1000000-b]) (by simp) (by grind) [f,b,1000000-b] [] k rfl (by grind)
 have hl:rR k Y b t f [f,b,1000000-b] k 0=_:=hl
 simp only [tZ,al hk.fu,aA,hw,DZ,G6,jc ht.ok (ht.fd hk) (show aw t<1099511627776 by have:=ht.dep;omega),ht.2,hl,DX]
 rw [show ((0:Int)==0)=true from rfl,bY,ah,if_neg (by omega),GR (by omega) (by unfold a6;omega) t ht.ok ht.rows _ (ht.fd hk) (ht.vp (by omega) (by omega)),lw,j9 _ Y]
 rfl
def tq (f b:Int) (t:Tm):Except Int Tm:=gm t (bJ b 0 f 0 t)
theorem aqU (hk:F3 k) {t:Tm} (ht:In k t) {f b:Int} (hf:0<=f/\f<=1000000) (hb:0<=b/\b<=1000000) (Y:Tm×Int->OS S):tZ k t f b Y=Y (tE (tq f b t)):=by
 unfold tq gm
 by_cases h:ck t=0
 ·rw [if_pos h];exact aro hk ⟨ht.1,h⟩ hf hb Y
 ·rw [if_neg h]
  simp only [tZ,al hk.fu,aA,DZ,G6,jc ht.1 ht.2.1 ht.dep,dT h,ca,aj];rfl
theorem api {n:Int} {t u:Tm}: ∀e,qk n t u= .error e->0<e/\e<=1000:=fun e h=>zu (fun e h=>zu (fun e h=>FX h) h) h
theorem arv (hk:F4 k) {t u:Tm} {c:Int} (ht:c=0->In k t/\In k u) (Y:Tm×Int->OS S):D9 k t u c Y=Y (mM c (qk 0 t u)):=by
 simp only [D9,al hk.f3.fu,eb,aA,m8]
 exact sJ c (fun h g=>arF hk (ht h).1 (ht h).2 (by omega) g) (Ax api) Y
theorem Yo (hk:F3 k) {t a:Tm} {sys:LB} {c:Int} (ht:c=0->In k t/\In k a/\In k (bt sys)) (hx: ∀e,cj [t,a,bt sys] (d6 t a sys)= .error e->e≠0) (Y:Tm×Int->OS S):yD k t a sys c Y=Y (mM c (cj [t,a,bt sys] (d6 t a sys))):=by
 simp only [yD,al hk.fu,eb,aA,m8]
 exact sJ c (fun h g=>aqI hk (ht h).1 (ht h).2.1 (ht h).2.2 g) hx Y
theorem ars (hk:F3 k) {line a:Tm} {sys:LB} {c:Int} (ht:c=0->In k line/\In k a/\In k (bt sys)) (hx: ∀e,cj [line,a,bt sys] (g9 line a sys)= .error e->e≠0) (Y:Tm×Int->OS S):D5 k line a sys c Y=Y (mM c (cj [line,a,bt sys] (g9 line a sys))):=by
 simp only [D5,al hk.fu,eb,aA,m8]
 exact sJ c (fun h g=>aqz hk (ht h).1 (ht h).2.1 (ht h).2.2 g) hx Y
theorem afX {m:Tm} (fm:Fm m):(bE (tq 1 0 m) fun y=>pu 0 1 y)=av 0 1 m:=by
 have hd:=fm.dep
 have h1:tq 1 0 m=bJ 0 0 0 0 m:=by
  unfold tq gm
  rw [if_pos fm.2]
  exact anJ m (by omega) (by omega)
 rw [h1]
 unfold av
 cases hh:bJ 0 0 0 0 m with
 |error e=>rfl
 |ok y=>
  rw [aF,aF]
  have fy:=lM (by omega) fm hh
  unfold pu gm
  rw [if_pos fy.2]
theorem arq (hk:F3 k) {m:Tm} {c:Int} (hm:c=0->Fm m) (Y:Tm×Int->OS S):D4 k m 0 1 c Y=Y (mM c (av 0 1 m)):=by
 simp only [D4,al hk.fu,eb,aA,m8]
 by_cases hc:c=0
 case neg=>rw [dT hc,ca,aj,dz hc];rfl
 have fm:=hm hc
 subst hc
 rw [show (!((0:Int)==0))=false from rfl,ah,dJ,<-afX fm,aqU hk (fm.isIn hk) (by omega) (by omega)]
 have hv:tq 1 0 m=bJ 0 0 1 0 m:=by unfold tq gm;rw [if_pos fm.2]
 rw [if_pos rfl,hv]
 cases hh:bJ 0 0 1 0 m with
 |error e=>
  have he:=iX m hh
  rw [show (tE (.error e)).2=e from rfl,if_neg (show e≠0 by omega)]
  dsimp only
  rw [dT (show e≠0 by omega),ca,aj];rfl
 |ok y=>
  have fy:=lM (by omega) fm hh
  rw [show (tE (.ok y)).2=0 from rfl,show (tE (.ok y)).1=y from rfl,if_pos rfl]
  dsimp only
  rw [show (!((0:Int)==0))=false from rfl,ah,XX hk (fy.isIn hk) (by omega) (by omega),aF]
  have:=RB (pu 0 1 y) (Ax PJ) 0
  rw [dJ] at this
  rw [this]
def Zq:LT->Except Int (LT)
 |[]=> .ok []
 |y::l=>bE (av 0 1 y) fun y'=>bE (Zq l) fun l'=> .ok (y'::l')
abbrev E4 (kd:Int) (p:Tm) (l:LT) (a:Tm):Tm:= .mk kd 0 au [] (p::l++[a]) []
def Qo (kd:Int) (b:Tm) (mid:LT):LB->Except Int (LB)
 |[]=> .ok []
 |y::l=>bE (Zq mid) fun m=>bE (Qo kd b mid l) fun l'=> .ok (.mk y.face [E4 kd b m (ay y)]::l')
def lL (t:Tm):Tm:=t.kids.getD (t.kids.length-1) aH
def FL (t:Tm):LT:=(t.kids.take (t.kids.length-1)).drop 1


end Go.Proofs.YtgajalidbabccaaGreatDoor
namespace Go.Proofs.YtgajalidbabccaaGreatDoor
open Go PI
set_option maxRecDepth 20000
def an4 (Φ:Nat->Prop) (f:LC):Prop:= ∀c∈f,∀j,hp c j\/hn c j->Φ j
theorem an6 {f:LC} (hf:RF f) {d:Int}:eo f d=true↔an4 (fun j=>(j:Int)<d) f:=by
 unfold eo
 rw [decide_eq_true_eq]
 have: ∀i:Nat,i∈c7 (jk f)↔i<24/\ ∃c∈f,hp c i\/hn c i:=fun i=>by
  rw [mem_bitsN,EQ]
  unfold mc hp hn
  simp only [aZ,List.any_eq_true,Bool.or_eq_true,decide_eq_true_eq]
  exact ⟨fun h=>⟨h.1,h.2.1⟩,fun h=>⟨h.1,h.2,h.1⟩⟩
 constructor
 ·intro h c hc j hj
  exact h j ((this j).2 ⟨hj.elim (Xr (hf.rc hc)) (Xq (hf.rc hc)),c,hc,hj⟩)
 ·intro h i hi
  obtain ⟨_,c,hc,hj⟩:=(this i).1 hi
  exact h c hc i hj
section
variable {bd:Bool} {vb db kd:Int}
theorem anF: ∀ {l l':LT} {v d:Int} {i:Nat},eD vb db v d kd i l= .ok l'->l'.length=l.length:=by
 intro l
 induction l<;>grind [eD,->aY]
end
section
variable {bd:Bool} {r:LC} {c kd:Int}
end
section
variable {vb db kd:Int}
end
variable {S:Type} {k:Nat}

end Go.Proofs.YtgajalidbabccaaGreatDoor
namespace Go.Proofs.YtgajalidbabccaaGreatDoor
open Go PI
set_option maxRecDepth 20000
theorem aty (V:Int):dL V 0=V:=by unfold dL;split<;>omega
variable {S:Type} {k:Nat}
theorem qB {l:LT} {x:Except Int Tm} {t:Tm} (h:cj l x= .ok t):cE l=0/\ck t=0/\x= .ok t:=by
 unfold cj at h
 split at h
 case isFalse=>cases h
 rename_i h1
 unfold il at h
 obtain ⟨t',h3,h⟩:=aY h
 split at h
 case isFalse=>cases h
 rename_i h4
 injection h with h;subst h
 exact ⟨h1,h4,h3⟩
theorem asv {l:LT} {x:Except Int Tm} {e:Int} (hx: ∀e,x= .error e->e≠0) (h:cj l x= .error e):e≠0:=by
 unfold cj at h
 split at h
 ·unfold il at h
  rcases ba h with h|⟨t,_,h⟩
  ·exact hx e h
  ·split at h
   ·cases h
   ·rename_i hne;injection h with h;exact h▸hne
 ·rename_i hne;injection h with h;exact h▸hne
def kG {α:Type} (x:Except Int α):Int:=match x with
 | .ok _=>0
 | .error e=>e
theorem ass {n:Nat}: ∀ {l:LT},(∀x∈l,ax x<=n)->aK l<=l.length*n:=by
 intro l
 induction l with
 |nil=>intro _;rw [aK];simp
 |cons x l ih=>
  intro h
  rw [aK,cM,Nat.succ_mul]
  have:=ih fun y hy=>h y (by simp [hy])
  have:=h x (by simp)
  omega
theorem agE {n:Nat}: ∀ {l:LT},(∀x∈l,aw x<=n)->a7 l<=n:=by
 intro l
 induction l with
 |nil=>intro _;rw [a7];omega
 |cons x l ih=>intro h;rw [a7];have:=ih fun y hy=>h y (by simp [hy]);have:=h x (by simp);omega
theorem atI (hk:F3 k) {n:Nat} (hn:n<=50000000) {l:LB} (h:Bs' n l) (hl:l.length<=20000) (hd:bg l<=299):In k (bt l):=by
 have hz:aX l<=1000000000000:=er h.siz (er (Nat.mul_le_mul hl hn) (by omega))
 have hs:ax aH<=1:=by unfold aH;rw [ax,aK,aX];omega
 have hdn:aw aH<=1:=by unfold aH;rw [aw,a7,bg];omega
 refine (show Sm (10+1000000000000+1) (bt l) from ?_).isIn hk (by omega)
 unfold bt
 exact qA (kd:=15) (by omega) (r:=[]) ⟨(fun c hc=>by cases hc),by simp⟩ (fun x hx=>by
  simp at hx
  subst hx
  refine ⟨?_, ?_⟩
  ·rw [OkT,bo,bH];exact ⟨⟨by unfold a6;omega,by unfold a6;omega,by decide,(fun c hc=>by cases hc),by simp,by simp,by simp⟩,trivial,trivial⟩
  ·rw [aw,a7,bg];omega) (by simp) (by rw [aK,aK,aK,ax,aK,aX];simp) h.ok (by omega) hd hz
theorem Hm (hk:F3 k) {x:Tm} (fx:Fm x):In k (bt x.sys):=by
 obtain ⟨o1,o2,o3,o4,o5,o6,o7⟩:=fx.ok.no
 have hs:bH x.sys:=by have:=fx.ok;cases x;rw [OkT] at this;exact this.2.2
 have hd:bg x.sys<=299:=by have:=fx.dep;cases x;rw [aw] at this;show bg _<=299;simp only [Tm.sys];omega
 have hz:aX x.sys<=20000:=by have:=fx.siz;cases x;rw [ax] at this;show aX _<=20000;simp only [Tm.sys];omega
 unfold bt
 exact (qA (kd:=15) (by omega) (r:=[]) ⟨(fun c hc=>by cases hc),by simp⟩ (n:=10) (fun y hy=>by
  simp at hy
  subst hy
  refine ⟨?_, ?_⟩
  ·rw [OkT,bo,bH];exact ⟨⟨by unfold a6;omega,by unfold a6;omega,by decide,(fun c hc=>by cases hc),by simp,by simp,by simp⟩,trivial,trivial⟩
  ·rw [aw,a7,bg];omega) (by simp) (by rw [aK,aK,aK,ax,aK,aX];simp) hs (by omega) hd hz).isIn hk (by omega)
theorem Bg {l:LT} {x:Except Int Tm} {e:Int} (hx: ∀e,x= .error e->0<e/\e<=1000) (h:cj l x= .error e):e≠0:=asv (fun e h=>by have:=hx e h;omega) h
theorem tk {a b c:Tm} (ha:OkT a) (hb:OkT b) (hc:OkT c) (h:cE [a,b,c]=0):Fm a/\Fm b/\Fm c:=by
 have:=qC (l:=[a,b,c]) (fun x hx=>by
  simp at hx
  rcases hx with rfl|rfl|rfl
  ·exact ha
  ·exact hb
  ·exact hc) h
 exact ⟨this a (by simp),this b (by simp),this c (by simp)⟩

theorem j_ {l:LT} {x:Except Int Tm} {e:Int} (hx: ∀e,x= .error e->0<e/\e<=1000) (h:cj l x= .error e):0<e/\e<=1000:=by
 unfold cj at h
 have hs:=asE l
 split at h
 ·unfold il at h
  rcases ba h with h|⟨t,_,h⟩
  ·exact hx e h
  ·have:=Kb t
   split at h
   ·cases h
   ·rename_i hne;injection h with h;subst h;omega
 ·rename_i hne;injection h with h;subst h;omega
def k1 (b:Br Tm):Tm:=b.kids.getD 1 aH
theorem Fm.gl {t:Tm} (h:Fm t) (hk:t.kind=16):(∀b∈t.sys,b.kids=[ay b,k1 b]/\Fm (ay b)/\Fm (k1 b)/\RX true b.face)/\t.sys.length<=20000/\ ∃a,t.kids=[a]/\Fm a:=by
 have ho:=h.own
 have hall: ∀b∈t.sys,b.kids.length=2:=fun b hb=>by
  obtain ⟨kd,n,nm,r,ks,sys⟩:=t
  have hk:kd=16:=hk
  subst hk
  have ho:(_&&(sys.all (cO 16 24)&&_))=true:=ho
  simp only [aZ] at ho
  have:=dA.1 ho.2.1 b hb
  grind [cO,dF]
 refine ⟨fun b hb=> ?_, ?_, ?_⟩
 ·have hl:=hall b hb
  obtain ⟨f,ks⟩:=b
  match ks,hl with
  |[a,c],_=>exact ⟨rfl,h.brk hb (by simp [ay]),h.brk hb (by simp [k1]),h.face hb⟩
 ·have h1:=h.siz
  have h2:=m_ t
  have: ∀ {l:LB},(∀b∈l,b.kids.length=2)->l.length<=aX l:=by
   intro l
   induction l with
   |nil=>simp
   |cons b l ih=>
    intro hl
    have:=ih fun b hb=>hl b (by simp [hb])
    have hb:=hl b (by simp)
    obtain ⟨f,ks⟩:=b
    match ks,hb with
    |a::ks,_=>grind [aX,g4,aK,l7]
  grind
 ·have hn:=h.nk
  rw [hk] at hn
  have e:fK 16=1:=rfl
  obtain ⟨a,ha⟩:=aoB (t:=t) (by omega)
  exact ⟨a,ha,h.kid (by grind)⟩
def bU (g:Tm):LB:=g.sys.map fun x=>⟨x.face,[k1 x]⟩
abbrev cJ (a:Tm) (es:LB):Tm:= .mk 18 0 au [] [a] es
abbrev gP:Tm:= .mk 3 0 au [] [] []
abbrev oM (u:Tm) (ks:LT):Tm:= .mk u.kind u.n u.name u.r ks u.sys
def gI (es:LB):LB->Except Int (LB)
 |[]=> .ok []
 |x::l=>bE (av 0 1 (cJ gP es)) fun u=>bE (gI es l) fun l'=> .ok (⟨x.face,[oM u [ay x]]⟩::l')
def gn (b:Tm) (sys:LB):LB->Except Int (LB)
 |[]=> .ok []
 |x::l=>bE (av 0 1 (k1 x)) fun f=>bE (cj [ay x,b,bt sys] (d6 (ay x) b sys)) fun w=>bE (gn b sys l) fun l'=> .ok (⟨x.face,[aD 6 [aD 9 [f],w]]⟩::l')
def kJ (b:Tm) (sys:LB) (l:LB):LB:=l.map fun x=>⟨x.face,[.mk 15 0 au [] [ay x,b] sys]⟩
def sI (g b:Tm) (sys l1 l2:LB):Tm:= .mk 17 0 au [] [.mk 15 0 au [] [g.kids.getD 0 aH,cJ b (bU g)] (l1++l2)] (kJ b sys g.sys)
def oB (t:Tm):Except Int Tm:=
 bE (gI (bU (t.kids.getD 0 aH)) t.sys) fun l1=>bE (gn (t.kids.getD 1 aH) t.sys (t.kids.getD 0 aH).sys) fun l2=> .ok (sI (t.kids.getD 0 aH) (t.kids.getD 1 aH) t.sys l1 l2)
def Lr (t:Tm):Tm×Bool×Int:=
 if ck t≠0 then (aH,false,ck t) else
 if t.kind=15/\(t.kids.getD 0 aH).kind=16 then oP (oB t) else (aH,false,0)
theorem Q0 {es:LB}: ∀ {l:LB} {e:Int},gI es l= .error e->0<e/\e<=1000:=by
 intro l
 induction l<;>grind [gI,ba,bN]
theorem Q1 {b:Tm} {sys:LB}: ∀ {l:LB} {e:Int},gn b sys l= .error e->0<e/\e<=1000:=by
 intro l
 induction l<;>grind [gn,ba,bN,j_,mD]
theorem aoi {t:Tm} {e:Int} (h:oB t= .error e):0<e/\e<=1000:=by
 unfold oB at h
 rcases ba h with h|⟨_,_,h⟩
 ·exact Q0 h
 rcases ba h with h|⟨_,_,h⟩
 ·exact Q1 h
 simp_all
def g5 (n:Nat) (l:LB):Prop:= ∀x∈l,∃t,x.kids=[t]/\Sm n t/\aw t<=299/\aI x.face/\x.face.length<1073741824
theorem re (n:Nat):g5 n []:=fun x hx=>by cases hx
theorem rd {n:Nat} {l:LB} {f:LC} {t:Tm} (hf:aI f/\f.length<1073741824) (ht:Sm n t) (hd:aw t<=299) (h:g5 n l):g5 n (⟨f,[t]⟩::l):=fun x hx=>by
 rcases gc.1 hx with rfl|hx
 ·grind
 ·exact h x hx
theorem IU {n:Nat} {a b:LB} (ha:g5 n a) (hb:g5 n b):g5 n (a++b):=fun x hx=>(eL.1 hx).elim (ha x) (hb x)
def FN (x:Tm):Prop:=Fm x\/x=aH
theorem FN.sm {x:Tm} (h:FN x):Sm 20000 x/\aw x<=200:=by
 rcases h with h|rfl
 ·exact ⟨h.sm,h.dep⟩
 grind [aor,aH,aw,a7,bg]
theorem gH {c:Int} {x:Except Int Tm} (h: ∀t,x= .ok t->Fm t):FN (mM c x).1:=by
 unfold mM
 split
 ·cases x with
  |error e=>exact .inr rfl
  |ok t=>exact .inl (h t rfl)
 ·exact .inr rfl
theorem Nh {u a:Tm} (hu:FN u) (ha:Fm a):Sm 50000 (oM u [a])/\aw (oM u [a])<=299:=by
 obtain ⟨h1,h2⟩:=hu.sm
 obtain ⟨o1,o2,o3,o4,o5,o6,o7⟩:=h1.ok.no
 have hs:bH u.sys:=by have:=h1.ok;cases u;rw [OkT] at this;exact this.2.2
 have hd:bg u.sys+1<=aw u:=by cases u<;>grind [aw,Tm.sys]
 have hz:aX u.sys+1<=ax u:=by cases u<;>grind [ax,Tm.sys]
 have:=h1.siz;have:=ha.siz;have:=ha.dep
 refine ⟨⟨?_, ?_, ?_⟩, ?_⟩
 ·rw [OkT,bo,bo];exact ⟨⟨o1,o2,o3,o4,o5,by simp,o7⟩,⟨ha.ok,trivial⟩,hs⟩
 all_goals grind [ax,aK,aw,a7]
theorem tj {kd:Int} (hkd:0<=kd/\kd<=28) {n:Nat} {ks:LT} (h: ∀x∈ks,Sm n x/\aw x<=290) (hl:ks.length<=4):Sm (4*n+1) (aD kd ks)/\aw (aD kd ks)<=291:=by
 have hd:a7 ks<=290:=agE fun x hx=>(h x hx).2
 have hz:aK ks<=4*n:=er (ass fun x hx=>(h x hx).1.siz) (jG _ hl)
 unfold aD
 refine ⟨(qA (kd:=kd) hkd (r:=[]) ⟨(fun c hc=>by cases hc),by simp⟩ (ks:=ks) (sys:=[]) (n:=4*n) (m:=0) (fun x hx=>⟨(h x hx).1.ok,by grind⟩) (by omega) hz (by rw [bH];trivial) (by simp) (by rw [bg];omega) (by rw [aX];omega)).mono (by omega), ?_⟩
 rw [aw,bg];omega
theorem C7 {n:Nat} {l:LB} (h:g5 n l):Bs' n l/\bg l<=299:=by
 induction l with
 |nil=>grind [af0,bg]
 |cons x l ih=>
  obtain ⟨i1,i2⟩:=ih fun x hx=>h x (by simp [hx])
  obtain ⟨t,e,h1,h2,h3,h4⟩:=h x (by simp)
  obtain ⟨f,ks⟩:=x
  have e:ks=[t]:=e
  subst e
  refine ⟨?_, ?_⟩
  ·refine ⟨?_, ?_, ?_⟩
   ·rw [bH,iH,bo,bo];exact ⟨⟨⟨h3,h4,by simp⟩,h1.ok,trivial⟩,i1.ok⟩
   ·rw [aX,g4,aK,aK,cM,Nat.succ_mul];have:=i1.siz;have:=h1.siz;omega
   grind [bg,iP,a7]
  grind [bg,iP,a7]
theorem Qr {g:Tm} (fg:Fm g) (hg:g.kind=16):bH (bU g)/\bg (bU g)<=bg g.sys/\aX (bU g)<=aX g.sys/\(bU g).length=g.sys.length/\c5 false (-1) 24 18 (bU g)=true/\(bU g).all (cO 18 24)=true:=by
 obtain ⟨hx,hl,_⟩:=fg.gl hg
 unfold bU
 generalize g.sys=l at hx
 clear hl
 induction l with
 |nil=>grind [bH,c5]
 |cons x l ih=>
  obtain ⟨i1,i2,i3,i4,i5,i6⟩:=ih fun b hb=>hx b (by simp [hb])
  obtain ⟨q1,q2,q3,q4⟩:=hx x (by simp)
  obtain ⟨f,ks⟩:=x
  have q1:ks=[ay ⟨f,ks⟩,k1 ⟨f,ks⟩]:=q1
  have r1:=kQ q4
  rw [List.map_cons]
  refine ⟨?_, ?_, ?_,by simp, ?_, ?_⟩
  ·rw [bH,iH,bo,bo];exact ⟨⟨⟨r1.1,r1.2,by simp⟩,q3.ok,trivial⟩,i1⟩
  ·grind [bg,iP,a7]
  ·grind [aX,g4,aK]
  ·rw [c5,mf,c_,c_,Bool.and_true,aZ]
   exact ⟨(h8 q3.2).2.2,i5⟩
  ·rw [List.all_cons,aZ]
   refine ⟨?_,i6⟩
   unfold cO
   rw [aZ,aZ]
   refine ⟨rfl,RFa.right ⟨q4.1,q4.2 rfl⟩, ?_⟩
   rw [an6 q4.1]
   exact fun c hc j hj=>by
    have:j<24:=hj.elim (Xr (q4.1.rc hc)) (Xq (q4.1.rc hc))
    omega
theorem uni_ok:OkT gP/\ax gP=1/\aw gP=1:=by
 refine ⟨?_, ?_, ?_⟩
 ·rw [OkT,bo,bH];exact ⟨⟨by unfold a6;omega,by unfold a6;omega,by decide,(fun c hc=>by cases hc),by simp,by simp,by simp⟩,trivial,trivial⟩
 all_goals rfl
theorem atg {g a:Tm} (fg:Fm g) (hg:g.kind=16) (fa:Fm a) (hz:ax a+aX g.sys+1<=20000) (hd:aw a+1<=200):Fm (cJ a (bU g)):=by
 obtain ⟨e1,e2,e3,e4,e5,e6⟩:=Qr fg hg
 obtain ⟨_,hl,_⟩:=fg.gl hg
 have hdg:bg g.sys+1<=aw g:=by cases g<;>grind [aw,Tm.sys]
 have hdd:=fg.dep
 have ho:OkT (cJ a (bU g)):=by
  rw [OkT,bo,bo]
  exact ⟨⟨by unfold a6;omega,by unfold a6;omega,by decide,(fun c hc=>by cases hc),by simp,by simp,by omega⟩,⟨fa.ok,trivial⟩,e1⟩
 refine ⟨ho,rG ?_ ?_ ?_⟩
 ·grind [aw,a7]
 ·grind [ax,aK]
 ·rw [bM,e5,cz,cz]
  have e0:cv 18 ((0:Nat):Int)=0:=rfl
  have e7:cF 18 ((0:Nat):Int)=0:=rfl
  rw [e0,e7,aty,Int.add_zero,(h8 fa.2).2.2]
  have:dE (-1) 24 (cJ a (bU g))=true:=by
   show (true&&((bU g).all (cO 18 24)&&true))=true
   grind
  grind
theorem ath:Fm gP:=⟨uni_ok.1,by kernel_rfl⟩
theorem Fa {g:Tm} (fg:Fm g) (hg:g.kind=16):Fm (cJ gP (bU g)):=by
 obtain ⟨_,_,a,ha,fa⟩:=fg.gl hg
 have hz:=fg.siz
 have h2:ax g=1+(ax a+0)+aX g.sys:=by
  obtain ⟨kd,n,nm,r,ks,sys⟩:=g
  have ha:ks=[a]:=ha
  subst ha
  rfl
 grind [l7,atg,ath,uni_ok]
theorem atx {a:Tm} {es:LB} {u:Tm} (h:av 0 1 (cJ a es)= .ok u): ∃a' es',u=cJ a' es':=by
 obtain ⟨m,h1,h2⟩:=aY h
 have key: ∀ {vb db v d:Int} {x:Tm} {l:LB} {y:Tm},bJ vb db v d (cJ x l)= .ok y-> ∃x' l',y=cJ x' l':=by
  intro vb db v d x l y h
  rw [bJ] at h
  split at h
  ·cases h
  obtain ⟨r1,e1,h⟩:=aY h
  obtain ⟨ks1,e2,h⟩:=aY h
  obtain ⟨sys1,e3,h⟩:=aY h
  injection h with h;subst h
  have hr:r1=[]:=kj.1 (XC e1 rfl)
  have hk:=anF e2
  obtain ⟨a',ha⟩: ∃a',ks1=[a']:=by
   match ks1,hk with
   |[a'],_=>simp
  grind
 grind
section
variable {g:Tm}
theorem arg (hk:F3 k) (fg:Fm g) (hg:g.kind=16) {x:Br Tm} (hx:x.kids=[ay x]) (c:Int) (Y:Br Tm×Int->OS S):
  DL k x (bU g) c Y=Y (⟨x.face,[oM (mM c (av 0 1 (cJ gP (bU g)))).1 [ay x]]⟩,(mM c (av 0 1 (cJ gP (bU g)))).2):=by
 have fe:=Fa fg hg
 have hgx:ai x.kids 0=some (ay x):=dw (n:=0) rfl (by grind)
 have hup:tp 0 1 (cJ gP (bU g))=av 0 1 (cJ gP (bU g)):=if_pos fe.2
 simp only [DL,al hk.fu,aA,fJ,rk,gi,gh]
 rw [M2 hk (fun _=>fe.isIn hk) (by omega) (by omega),hup,hgx]
 rfl
theorem amf (hk:F3 k) (fg:Fm g) (hg:g.kind=16) (Y:LB×Int->OS S) {l:LB} (hx: ∀b∈l,b.kids=[ay b]/\Fm (ay b)/\RX true b.face) (hl:l.length<=20000):
  ∀ (r p acc:LB) (m:Nat) (c:Int),l=p++r->r.length<m->acc.length+r.length<=20000->
   ∃l',uY k Y (bU g) l m c (p.length:Int) acc=Y (acc++l',kG (l9 c (gI (bU g) r)))/\l'.length=r.length/\g5 50000 l'/\ ∀l'',l9 c (gI (bU g) r)= .ok l''->l'=l'':=by
 intro r
 induction r with
 |nil=>
  intro p acc m c h hm ha
  obtain ⟨m,rfl,hm'⟩:=aq hm
  refine ⟨[], ?_,rfl,re _,fun l'' h=> ?_⟩
  ·simp only [uY,B1,cV h,ah,dZ]
   by_cases hc:c=0
   ·subst hc;rfl
   ·rw [fS hc];rfl
  grind [eX,gI,fS]
 |cons x r ih=>
  intro p acc m c h hm ha
  obtain ⟨m,rfl,hm'⟩:=aq hm
  obtain ⟨e1,e2,e3,e4⟩:=aR h (by omega)
  rw [cM] at ha
  simp only [uY,B1,e1,aj,e2,aJ,al hk.fu,e3,arg hk fg hg (hx x (by grind)).1]
  rw [bn (by grind)]
  obtain ⟨_,x2,x3⟩:=hx x (by grind)
  have hfn:FN (mM c (av 0 1 (cJ gP (bU g)))).1:=gH fun t h=>dK (by omega) (Fa fg hg) h
  obtain ⟨l',h1,h2,hb,h3⟩:=ih (p++[x]) (acc++[⟨x.face,[oM (mM c (av 0 1 (cJ gP (bU g)))).1 [ay x]]⟩]) m (mM c (av 0 1 (cJ gP (bU g)))).2 e4 hm' (by grind)
  refine ⟨⟨x.face,[oM (mM c (av 0 1 (cJ gP (bU g)))).1 [ay x]]⟩::l', ?_,by grind,rd (kQ x3) (Nh hfn x2).1 (Nh hfn x2).2 hb,fun l'' hl''=> ?_⟩
  ·refine h1.trans ?_
   rw [List.append_assoc,List.singleton_append]
   congr 2
   by_cases hc:c=0
   ·subst hc
    rw [dJ,eX,gI]
    cases hh:av 0 1 (cJ gP (bU g)) with
    |error e=>
     have he:=bN hh
     rw [show (tE (.error e)).2=e from rfl,fS (show e≠0 by omega)];rfl
    |ok u=>
     rw [show (tE (.ok u)).2=0 from rfl,eX,aF]
     cases gI (bU g) r<;>rfl
   grind [dz,fS]
  ·by_cases hc:c=0
   ·subst hc
    rw [eX,gI] at hl''
    obtain ⟨u,g1,hl''⟩:=aY hl''
    obtain ⟨l2,g2,hl''⟩:=aY hl''
    grind [dJ,tE,eX]
   grind [fS]
theorem arh (hk:F3 k) {x:Br Tm} (hx:x.kids=[ay x,k1 x]) (f0:Fm (ay x)) (f1:Fm (k1 x)) {b t:Tm} (fb:Fm b) (ft:Fm t) (c:Int) (Y:Br Tm×Int->OS S):
  DM k x b t c Y=Y (⟨x.face,[aD 6 [aD 9 [(mM c (av 0 1 (k1 x))).1],(mM (mM c (av 0 1 (k1 x))).2 (cj [ay x,b,bt t.sys] (d6 (ay x) b t.sys))).1]]⟩,(mM (mM c (av 0 1 (k1 x))).2 (cj [ay x,b,bt t.sys] (d6 (ay x) b t.sys))).2):=by
 have g0:ai x.kids 0=some (ay x):=dw (n:=0) rfl (by grind)
 have g1:ai x.kids 1=some (k1 x):=dw (n:=1) rfl (by grind)
 have hup:tp 0 1 (k1 x)=av 0 1 (k1 x):=if_pos f1.2
 simp only [DM,al hk.fu,aA,fJ,Jm,gh,g0,g1,aJ]
 rw [M2 hk (fun _=>f1.isIn hk) (by omega) (by omega),hup,Yo hk (fun _=>⟨f0.isIn hk,fb.isIn hk,Hm hk ft⟩) (fun e h=>Bg (fun e h=>mD h) h)]
 rfl
theorem amg (hk:F3 k) {b t:Tm} (fb:Fm b) (ft:Fm t) (Y:LB×Int->OS S) {l:LB} (hx: ∀b∈l,b.kids=[ay b,k1 b]/\Fm (ay b)/\Fm (k1 b)/\RX true b.face) (hl:l.length<=20000):
  ∀ (r p acc:LB) (m:Nat) (c:Int),l=p++r->r.length<m->acc.length+r.length<=20000->
   ∃l',uX k Y b t l m c (p.length:Int) acc=Y (acc++l',kG (l9 c (gn b t.sys r)))/\l'.length=r.length/\g5 500000 l'/\ ∀l'',l9 c (gn b t.sys r)= .ok l''->l'=l'':=by
 intro r
 induction r with
 |nil=>
  intro p acc m c h hm ha
  obtain ⟨m,rfl,hm'⟩:=aq hm
  refine ⟨[], ?_,rfl,re _,fun l'' h=> ?_⟩
  ·simp only [uX,B0,cV h,ah,dZ]
   by_cases hc:c=0
   ·subst hc;rfl
   ·rw [fS hc];rfl
  grind [eX,gn,fS]
 |cons x r ih=>
  intro p acc m c h hm ha
  obtain ⟨m,rfl,hm'⟩:=aq hm
  obtain ⟨e1,e2,e3,e4⟩:=aR h (by omega)
  rw [cM] at ha
  obtain ⟨x1,x2,x3,x4⟩:=hx x (by grind)
  simp only [uX,B0,e1,aj,e2,aJ,al hk.fu,aA,e3,arh hk x1 x2 x3 fb ft]
  rw [bn (by grind)]
  have fA:FN (mM c (av 0 1 (k1 x))).1:=gH fun t h=>dK (by omega) x3 h
  have fB: ∀c,FN (mM c (cj [ay x,b,bt t.sys] (d6 (ay x) b t.sys))).1:=fun c=>gH fun w h=>by
   obtain ⟨so,ff,hfe⟩:=qB h
   exact ⟨(uB hk x2 fb (kX (tk x2.ok fb.ok (Hm hk ft).1 so).2.2) hfe).1.1,ff⟩
  have fB:=fB (mM c (av 0 1 (k1 x))).2
  generalize hA:mM c (av 0 1 (k1 x))=A at fA fB ⊢
  generalize hB:mM A.2 (cj [ay x,b,bt t.sys] (d6 (ay x) b t.sys))=B at fB ⊢
  have q9:=tj (kd:=9) (by omega) (n:=20000) (ks:=[A.1]) (fun x hx=>by simp at hx;subst hx;exact ⟨fA.sm.1,by have:=fA.sm.2;omega⟩) (by simp)
  have q6:=tj (kd:=6) (by omega) (n:=80001) (ks:=[aD 9 [A.1],B.1]) (fun x hx=>by
   simp at hx
   rcases hx with rfl|rfl
   ·refine ⟨q9.1, ?_⟩
    unfold aD;rw [aw,a7,a7,bg];have:=fA.sm.2;omega
   ·exact ⟨fB.sm.1.mono (by omega),by have:=fB.sm.2;omega⟩) (by simp)
  obtain ⟨l',h1,h2,hb,h3⟩:=ih (p++[x]) (acc++[⟨x.face,[aD 6 [aD 9 [A.1],B.1]]⟩]) m B.2 e4 hm' (by grind)
  refine ⟨⟨x.face,[aD 6 [aD 9 [A.1],B.1]]⟩::l', ?_,by grind,rd (kQ x4) (q6.1.mono (by omega)) (by omega) hb,fun l'' hl''=> ?_⟩
  ·refine h1.trans ?_
   rw [List.append_assoc,List.singleton_append]
   congr 2
   subst hB;subst hA
   by_cases hc:c=0
   ·subst hc
    rw [dJ,eX,gn]
    cases hh:av 0 1 (k1 x) with
    |error e=>
     have he:=bN hh
     rw [show (tE (.error e)).2=e from rfl,dz (show e≠0 by omega),fS (show e≠0 by omega)];rfl
    |ok u=>
     rw [show (tE (.ok u)).2=0 from rfl,dJ,aF]
     cases hw:cj [ay x,b,bt t.sys] (d6 (ay x) b t.sys) with
     |error e=>
      have he:=Bg (fun e h=>mD h) hw
      rw [show (tE (.error e)).2=e from rfl,fS he];rfl
     |ok w=>
      rw [show (tE (.ok w)).2=0 from rfl,eX,aF]
      cases gn b t.sys r<;>rfl
   grind [dz,fS]
  ·by_cases hc:c=0
   ·subst hc
    rw [eX,gn] at hl''
    obtain ⟨u,g1,hl''⟩:=aY hl''
    obtain ⟨w,g2,hl''⟩:=aY hl''
    obtain ⟨l2,g3,hl''⟩:=aY hl''
    grind [dJ,tE,eX]
   grind [fS]
end
theorem al6 (hk:F3 k) (Y:LB->OS S) {l:LB} (hx: ∀b∈l,b.kids=[ay b,k1 b]) (hl:l.length<=20000):
  ∀ (r p acc:LB) (m:Nat),l=p++r->r.length<m->acc.length+r.length<=20000->
   uZ k Y l m (p.length:Int) acc=Y (acc++r.map fun x=>⟨x.face,[k1 x]⟩):=by
 intro r
 induction r with
 |nil=>
  intro p acc m h hm ha
  obtain ⟨m,rfl,hm'⟩:=aq hm
  grind [uZ,B2,ah]
 |cons x r ih=>
  intro p acc m h hm ha
  obtain ⟨m,rfl,hm'⟩:=aq hm
  obtain ⟨e1,e2,e3,e4⟩:=aR h (by omega)
  rw [cM] at ha
  have g1:ai x.kids 1=some (k1 x):=dw (n:=1) rfl (by grind)
  simp only [uZ,B2,e1,aj,e2,aJ,al hk.fu,e3,Jn,g1,aA,gh]
  grind [bn]
theorem amh (hk:F3 k) (Y:LB->OS S) {b t:Tm} {l:LB} (hx: ∀b∈l,b.kids=[ay b,k1 b]) (hl:l.length<=20000):
  ∀ (r p acc:LB) (m:Nat),l=p++r->r.length<m->acc.length+r.length<=20000->
   uW k Y t b l m (p.length:Int) acc=Y (acc++kJ b t.sys r):=by
 intro r
 induction r with
 |nil=>
  intro p acc m h hm ha
  obtain ⟨m,rfl,hm'⟩:=aq hm
  grind [uW,BZ,ah,kJ]
 |cons x r ih=>
  intro p acc m h hm ha
  obtain ⟨m,rfl,hm'⟩:=aq hm
  obtain ⟨e1,e2,e3,e4⟩:=aR h (by omega)
  rw [cM] at ha
  have g0:ai x.kids 0=some (ay x):=dw (n:=0) rfl (by grind)
  simp only [uW,BZ,e1,aj,e2,aJ,al hk.fu,e3,Jj,g0,aA,gh,gi]
  rw [bn (by grind),ih (p++[x]) _ m e4 hm' (by grind),List.append_assoc];rfl
theorem asu {t x b:Tm} (ft:Fm t) (fx:Fm x) (fb:Fm b):Sm 60001 (.mk 15 0 au [] [x,b] t.sys)/\aw (.mk 15 0 au [] [x,b] t.sys)<=299:=by
 obtain ⟨o1,o2,o3,o4,o5,o6,o7⟩:=ft.ok.no
 have hs:bH t.sys:=by have:=ft.ok;cases t;rw [OkT] at this;exact this.2.2
 have hd:bg t.sys+1<=aw t:=by cases t<;>grind [aw,Tm.sys]
 have hz:aX t.sys+1<=ax t:=by cases t<;>grind [ax,Tm.sys]
 have:=ft.siz;have:=ft.dep;have:=fx.siz;have:=fx.dep;have:=fb.siz;have:=fb.dep
 refine ⟨(qA (kd:=15) (by omega) (r:=[]) ⟨(fun c hc=>by cases hc),by simp⟩ (ks:=[x,b]) (sys:=t.sys) (n:=40000) (m:=20000) (fun y hy=>by
  simp at hy
  rcases hy with rfl|rfl
  ·exact ⟨fx.ok,by omega⟩
  ·exact ⟨fb.ok,by omega⟩) (by simp) (by grind [aK]) hs o7 (by omega) (by omega)), ?_⟩
 grind [aw,a7]
theorem akr {t b:Tm} (ft:Fm t) (fb:Fm b): ∀ {l:LB},(∀b∈l,Fm (ay b)/\RX true b.face)->g5 60001 (kJ b t.sys l):=by
 intro l
 induction l with
 |nil=>intro _;exact re _
 |cons x l ih=>
  intro h
  obtain ⟨h1,h2⟩:=h x (by simp)
  have q:=asu ft h1 fb
  exact rd (kQ h2) q.1 q.2 (ih fun x hx=>h x (by simp [hx]))
theorem TU (hk:F3 k) {t g b a:Tm} {l1 l2:LB} (ft:Fm t) (fg:Fm g) (hg:g.kind=16) (ha:g.kids.getD 0 aH=a) (fa:Fm a) (fb:Fm b) (h1:g5 50000 l1) (n1:l1.length<=20000) (h2:g5 500000 l2) (n2:l2.length<=20000):In k (sI g b t.sys l1 l2):=by
 obtain ⟨hx,hl,_⟩:=fg.gl hg
 obtain ⟨e1,e2,e3,e4,_,_⟩:=Qr fg hg
 have hdg:bg g.sys+1<=aw g:=by cases g<;>grind [aw,Tm.sys]
 have hzg:aX g.sys+1<=ax g:=by cases g<;>grind [ax,Tm.sys]
 have:=fg.dep;have:=fg.siz
 have bd:=fb.dep;have bz:=fb.siz;have ad:=fa.dep;have az:=fa.siz
 have u1:Sm 40001 (cJ b (bU g))/\aw (cJ b (bU g))<=202:=by
  refine ⟨qA (kd:=18) (by omega) (r:=[]) ⟨(fun c hc=>by cases hc),by simp⟩ (ks:=[b]) (sys:=bU g) (n:=20000) (m:=20000) (fun y hy=>by simp at hy;subst hy;exact ⟨fb.ok,by omega⟩) (by simp) (by grind [aK]) e1 (by omega) (by omega) (by omega), ?_⟩
  grind [aw,a7]
 obtain ⟨b1,b2⟩:=C7 (n:=500000) (IU (fun x hx=>by obtain ⟨t,q1,q2,q3⟩:=h1 x hx;exact ⟨t,q1,q2.mono (by omega),q3⟩) h2)
 have hz:aX (l1++l2)<=40000*500000:=er b1.siz (jG _ (by grind))
 have h15:=qA (kd:=15) (by omega) (r:=[]) ⟨(fun c hc=>by cases hc),by simp⟩ (ks:=[a,cJ b (bU g)]) (sys:=l1++l2) (n:=60001) (m:=40000*500000) (fun y hy=>by
  simp at hy
  rcases hy with rfl|rfl
  ·exact ⟨fa.ok,by omega⟩
  ·exact ⟨u1.1.ok,by omega⟩) (by simp) (by rw [aK,aK,aK];have:=u1.1.siz;omega) b1.ok (by grind) b2 hz
 obtain ⟨c1,c2⟩:=C7 (akr ft fb (l:=g.sys) fun x hx'=>⟨(hx x hx').2.1,(hx x hx').2.2.2⟩)
 have hlen:(kJ b t.sys g.sys).length=g.sys.length:=by grind [kJ]
 have hz3:aX (kJ b t.sys g.sys)<=20000*60001:=er c1.siz (jG _ (by omega))
 unfold sI
 rw [ha]
 have hd15:aw (.mk 15 0 au [] [a,cJ b (bU g)] (l1++l2))<=300:=h15.dep
 refine ⟨?_,hk.fd ?_, ?_⟩
 ·rw [OkT,bo,bo]
  exact ⟨⟨by unfold a6;omega,by unfold a6;omega,by decide,(fun c hc=>by cases hc),by simp,by simp,by omega⟩,⟨h15.ok,trivial⟩,c1.ok⟩
 all_goals grind [aw,a7,ax,aK]
theorem arf (hk:F3 k) {t:Tm} (ht:In k t) (Y:Tm×Bool×Int->OS S):DK k t Y=Y (Lr t):=by
 have hfu:4294968296<=k:=hk
 simp only [DK,al hk.fu,aA,jc ht.1 ht.2.1 ht.dep]
 unfold Lr
 by_cases h0:ck t=0
 case neg=>rw [dT h0,ca,aj,if_pos h0];rfl
 rw [h0,show (!((0:Int)==0))=false from rfl,ah,if_neg (by simp)]
 have ft:Fm t:=⟨ht.1,h0⟩
 by_cases h15:t.kind=15
 case neg=>rw [beq_false_of_ne h15,ca,aj,if_neg (fun h=>h15 h.1)];rfl
 rw [h15,show (!((15:Int)==15))=false from rfl,ah]
 obtain ⟨g,b,hkd⟩:=ma (jq ft h15 (n:=2) rfl)
 obtain ⟨g0,g1⟩:=pD hkd
 obtain ⟨d0,d1⟩:=iR hkd
 have fg:Fm g:=ft.kid (by grind)
 have fb:Fm b:=ft.kid (by grind)
 obtain ⟨sy,syl⟩:=ft.sy h15
 rw [g0,aJ,d0]
 by_cases h16:g.kind=16
 case neg=>rw [beq_false_of_ne h16,ca,aj,if_neg (fun h=>h16 h.2)];rfl
 rw [h16,show (!((16:Int)==16))=false from rfl,ah,td t ht.1 _ ht.2.1,g0,aJ,g1,aJ,aJ,if_pos ⟨rfl,rfl⟩]
 obtain ⟨hx,hl,a,hak,fa⟩:=fg.gl h16
 have ga:ai g.kids 0=some a:=dw (n:=0) rfl (by grind)
 have had:g.kids.getD 0 aH=a:=by grind
 have hes: ∀q:LB->OS S,DN k g q=q (bU g):=fun q=>by
  simp only [DN,al hk.fu,Jl,NK]
  exact al6 hk q (fun b hb=>(hx b hb).1) hl g.sys [] [] k rfl (by omega) (by grind)
 rw [hes]
 obtain ⟨l1,i1,i2,i3,i4⟩:=amf hk fg h16 (fun r8=>Jk k g.sys b t r8.2 fun r9=>ag (aS 1099511627776 r8.1.length r9.1.length) fun x10=>ag (ai g.kids 0) fun x11=>rk k b (bU g) fun r12=>gi k 15 (r8.1++r9.1) [x11,(Tm.mk r12.1 r12.2.1 r12.2.2.1 [] r12.2.2.2.1 r12.2.2.2.2)] fun r13=>yz k g.sys t b fun r14=>gi k 17 r14 [(Tm.mk r13.1 r13.2.1 r13.2.2.1 [] r13.2.2.2.1 r13.2.2.2.2)] fun r15=>jg k (Tm.mk r15.1 r15.2.1 r15.2.2.1 [] r15.2.2.2.1 r15.2.2.2.2) r9.2 fun r16=>Y (r16.1,r16.2.1,r16.2.2.1)) (l:=t.sys) sy syl t.sys [] [] k 0 rfl (by omega) (by grind)
 refine ak (b:=_) ?_ (i1.trans ?_)
 ·rfl
 rw [dG,eX]
 rw [eX] at i4
 obtain ⟨l2,j1,j2,j3,j4⟩:=amg hk fb ft (fun r9=>ag (aS 1099511627776 l1.length r9.1.length) fun x10=>ag (ai g.kids 0) fun x11=>rk k b (bU g) fun r12=>gi k 15 (l1++r9.1) [x11,(Tm.mk r12.1 r12.2.1 r12.2.2.1 [] r12.2.2.2.1 r12.2.2.2.2)] fun r13=>yz k g.sys t b fun r14=>gi k 17 r14 [(Tm.mk r13.1 r13.2.1 r13.2.2.1 [] r13.2.2.2.1 r13.2.2.2.2)] fun r15=>jg k (Tm.mk r15.1 r15.2.1 r15.2.2.1 [] r15.2.2.2.1 r15.2.2.2.2) r9.2 fun r16=>Y (r16.1,r16.2.1,r16.2.2.1)) (l:=g.sys) hx hl g.sys [] [] k (kG (gI (bU g) t.sys)) rfl (by omega) (by grind)
 refine ak (b:=_) ?_ (j1.trans ?_)
 ·rfl
 rw [dG]
 dsimp only
 rw [bn (by omega),ga,aJ]
 simp only [rk,gi,al hk.fu,aA,yz,NJ]
 have hin:=TU hk ft fg h16 had fa fb i3 (by omega) j3 (by omega)
 have h3:=fun q:LB->OS S=>amh hk q (b:=b) (t:=t) (fun b hb=>(hx b hb).1) hl g.sys [] [] k rfl (by omega) (by grind)
 refine (h3 _).trans ?_
 rw [dG]
 rw [show (Tm.mk 17 0 au [] [Tm.mk 15 0 au [] [a,Tm.mk 18 0 au [] [b] (bU g)] (l1++l2)] (kJ b t.sys g.sys))=sI g b t.sys l1 l2 from by grind [sI],A_ hk hin]
 unfold oB
 rw [d0,d1]
 cases q1:gI (bU g) t.sys with
 |error e=>
  have he:=Q0 q1
  rw [show kG (.error e:Except Int (LB))=e from rfl,fS (show e≠0 by omega),cA]
  exact I7 (show e≠0 by omega) Y
 |ok m1=>
  have:=i4 m1 q1
  subst this
  rw [show kG (.ok l1:Except Int (LB))=0 from rfl,eX,aF]
  rw [q1,show kG (.ok l1:Except Int (LB))=0 from rfl,eX] at j4
  cases q2:gn b t.sys g.sys with
  |error e=>
   have he:=Q1 q2
   rw [show kG (.error e:Except Int (LB))=e from rfl,cA]
   exact I7 (show e≠0 by omega) Y
  |ok m2=>
   simp_all [kG,aF,PB]
def dk {α β:Type} (F:α->Except Int β):List α->Except Int (List β)
 |[]=> .ok []
 |x::l=>bE (F x) fun b=>bE (dk F l) fun l'=> .ok (b::l')
theorem Aq {α β:Type} {F:α->Except Int β}: ∀ {l:List α} {e:Int},(∀x∈l,∀e,F x= .error e->0<e/\e<=1000)->dk F l= .error e->0<e/\e<=1000:=by
 intro l
 induction l<;>grind [dk,ba]
theorem JW {l:LB} {L:Nat->Int->Int->LB->OS S} {Y:LB×Int->OS S} {g:Int->Br Tm->Br Tm×Int} {F:Br Tm->Except Int (Br Tm)} {Q:Br Tm->Prop} (hl:l.length<=20000)
  (hend: ∀ (m:Nat) (c:Int) (acc:LB),acc.length<=20000->L (m+1) c (l.length:Int) acc=Y (acc,c))
  (hstep: ∀ (m:Nat) (c:Int) (x:Br Tm) (p r acc:LB),l=p++x::r->acc.length<20000->L (m+1) c (p.length:Int) acc=L m (g c x).2 (((p++[x]).length:Nat):Int) (acc++[(g c x).1]))
  (h0: ∀x∈l,∀b,F x= .ok b->g 0 x=(b,0)) (h1: ∀x∈l,∀e,F x= .error e->e≠0/\(g 0 x).2=e) (h2: ∀x∈l,∀c,c≠0->(g c x).2=c) (hq: ∀x∈l,∀c,Q (g c x).1):
  ∀ (r p acc:LB) (m:Nat) (c:Int),l=p++r->r.length<m->acc.length+r.length<=20000->
   ∃l',L m c (p.length:Int) acc=Y (acc++l',kG (l9 c (dk F r)))/\l'.length=r.length/\(∀y∈l',Q y)/\ ∀l'',l9 c (dk F r)= .ok l''->l'=l'':=by
 intro r
 induction r with
 |nil=>
  intro p acc m c h hm ha
  obtain ⟨m,rfl,hm'⟩:=aq hm
  refine ⟨[], ?_,rfl,(fun y hy=>by cases hy),fun l'' h=> ?_⟩
  ·rw [dZ] at h
   subst h
   rw [hend m c acc (by omega),dZ]
   by_cases hc:c=0
   ·subst hc;rfl
   ·rw [fS hc];rfl
  grind [eX,dk,fS]
 |cons x r ih=>
  intro p acc m c h hm ha
  obtain ⟨m,rfl,hm'⟩:=aq hm
  rw [cM] at ha
  have hx:x∈l:=by grind
  rw [hstep m c x p r acc h (by omega)]
  obtain ⟨l',i1,i2,i3,i4⟩:=ih (p++[x]) (acc++[(g c x).1]) m (g c x).2 (by grind) hm' (by grind)
  refine ⟨(g c x).1::l', ?_,by grind,fun y hy=> ?_,fun l'' hl''=> ?_⟩
  ·rw [i1,List.append_assoc,List.singleton_append]
   congr 2
   by_cases hc:c=0
   ·subst hc
    rw [eX,dk]
    cases hF:F x with
    |error e=>
     obtain ⟨q1,q2⟩:=h1 x hx e hF
     rw [q2,fS q1];rfl
    |ok b=>
     rw [h0 x hx b hF,eX,aF]
     cases dk F r<;>rfl
   grind [fS]
  ·grind
  ·by_cases hc:c=0
   ·subst hc
    rw [eX,dk] at hl''
    obtain ⟨b,g1,hl''⟩:=aY hl''
    obtain ⟨l2,g2,hl''⟩:=aY hl''
    grind [eX]
   grind [fS]
def lR (x:Br Tm):Except Int (Br Tm):=bE (av 1 0 (ay x)) fun u=> .ok ⟨x.face,[aD 6 [u,vN 0]]⟩
def oE (b a:Tm) (sys:LB):Except Int Tm:=bE (av 1 0 a) fun a'=>bE (dk lR sys) fun l=> .ok (aD 5 [.mk 15 0 au [] [b,aD 6 [a',vN 0]] l])
theorem Uh {b a:Tm} {sys:LB} {e:Int} (h:oE b a sys= .error e):0<e/\e<=1000:=by
 unfold oE at h
 rcases ba h with h|⟨_,_,h⟩
 ·exact bN h
 rcases ba h with h|⟨_,_,h⟩
 ·refine Aq (fun x _ e h=> ?_) h
  unfold lR at h
  rcases ba h with h|⟨_,_,h⟩
  ·exact bN h
  simp_all
 simp_all
section
variable {x1 x2:Int} {x3:BA} {x4:LC} {x5:LT} {x6 sys:LB}
theorem A8 (hk:F3 k) {t:Tm} (ft:Fm t) {a b c:Int} (ha:0<=a/\a<1000) (hb:0<=b/\b<1000) (Y:Tm×Int->OS S):gU k t a b c Y=Y (mM c (av a b t)):=by
 rw [M2 hk (fun _=>ft.isIn hk) ha hb,show tp a b t=av a b t from if_pos ft.2]
theorem arj (hk:F3 k) {u:Tm} (fu:Fm u) (c:Int) (Y:LT×Int->OS S):DP k u c x1 x2 x3 x4 x5 x6 sys Y=Y ([aD 6 [(mM c (av 1 0 u)).1,vN 0]],(mM c (av 1 0 u)).2):=by
 simp only [DP,al hk.fu,aA,A8 hk fu (show (0:Int)<=1/\(1:Int)<1000 by omega) (show (0:Int)<=0/\(0:Int)<1000 by omega),yE,fJ]
 rfl
end
theorem vn0_sm:Sm 1 (vN 0)/\aw (vN 0)=1:=by
 unfold vN
 refine ⟨⟨?_, ?_, ?_⟩, ?_⟩
 ·rw [OkT,bo,bH];exact ⟨⟨by unfold a6;omega,by unfold a6;omega,by decide,(fun c hc=>by cases hc),by simp,by simp,by simp⟩,trivial,trivial⟩
 all_goals grind [ax,aK,aX,aw,a7,bg]
theorem Ng {a:Tm} (ha:FN a):Sm 80001 (aD 6 [a,vN 0])/\aw (aD 6 [a,vN 0])<=201:=by
 have h:=tj (kd:=6) (by omega) (n:=20000) (ks:=[a,vN 0]) (fun x hx=>by
  simp at hx
  rcases hx with rfl|rfl
  ·exact ⟨ha.sm.1,by have:=ha.sm.2;omega⟩
  ·exact ⟨vn0_sm.1.mono (by omega),by rw [vn0_sm.2];omega⟩) (by simp)
 refine ⟨h.1, ?_⟩
 unfold aD;rw [aw,a7,a7,a7,bg,vn0_sm.2];have:=ha.sm.2;omega
theorem Nf {x y:Tm} {l:LB} {n m:Nat} (hx:Sm n x) (hy:Sm n y) (dx:aw x<=290) (dy:aw y<=290) (hn:n<=1000000) (hb:g5 m l) (hm:m<=1000000) (hl:l.length<=40000):Sm 50000000000 (.mk 15 0 au [] [x,y] l):=by
 obtain ⟨b1,b2⟩:=C7 hb
 have hz:aX l<=40000*1000000:=er b1.siz (Nat.mul_le_mul hl hm)
 exact (qA (kd:=15) (by omega) (r:=[]) ⟨(fun c hc=>by cases hc),by simp⟩ (ks:=[x,y]) (sys:=l) (n:=2000000) (m:=40000*1000000) (fun z hz=>by
  simp at hz
  rcases hz with rfl|rfl
  ·exact ⟨hx.ok,by omega⟩
  ·exact ⟨hy.ok,by omega⟩) (by simp) (by rw [aK,aK,aK];have:=hx.siz;have:=hy.siz;omega) b1.ok (by omega) b2 hz).mono (by omega)
theorem Q2 (hk:F3 k) {kd:Int} (hkd:0<=kd/\kd<=28) {x:Tm} (hx:Sm 50000000000 x):In k (aD kd [x]):=by
 have:=hx.dep;have:=hx.siz
 unfold aD
 refine ⟨?_,hk.fd ?_, ?_⟩
 ·rw [OkT,bo,bo,bH]
  exact ⟨⟨by unfold a6;omega,by unfold a6;omega,by decide,(fun c hc=>by cases hc),by simp,by simp,by simp⟩,⟨hx.ok,trivial⟩,trivial⟩
 all_goals grind [aw,a7,bg,ax,aK,aX]
theorem Hf {X:Except Int Tm} {y:Tm} {c:Int} (h0: ∀t,X= .ok t->y=t/\c=0) (h1: ∀e,X= .error e->e≠0/\c=e) (g:Tm×Bool×Int->OS S):g ((dM c y).1,(dM c y).2==0,(dM c y).2)=g (oP X):=by
 cases hX:X<;>simp_all [I7,PB]
section
variable {x1 x2:Int} {x3:BA} {x4:LC} {x5:LT} {x6 sys:LB}
def O8 (n:Nat) (x:Br Tm):Prop:= ∃t,x.kids=[t]/\Sm n t/\aw t<=299/\aI x.face/\x.face.length<1073741824
theorem Yh (hk:F3 k) {t p b:Tm} (hkd:t.kids=[p,b]) (fb:Fm b) (fa:Fm (Tm.mk x1 x2 x3 x4 x5 x6)) (sy: ∀b∈sys,b.kids=[ay b]/\Fm (ay b)/\RX true b.face) (syl:sys.length<=20000) (Y:Int×Int×BA×LT×Int->OS S):
  ∃y c,DQ k t 0 x1 x2 x3 x4 x5 x6 sys Y=Y (5,0,au,[y],c)/\In k (aD 5 [y])/\(∀z,oE b (Tm.mk x1 x2 x3 x4 x5 x6) sys= .ok z->aD 5 [y]=z/\c=0)/\ ∀e,oE b (Tm.mk x1 x2 x3 x4 x5 x6) sys= .error e->e≠0/\c=e:=by
 have hfu:4294968296<=k:=hk
 obtain ⟨g0,g1⟩:=pD hkd
 have key:=fun RET=>JW (S:=S) (l:=sys) (L:=fun m c i acc=>u5 k RET x1 x2 x3 x4 x5 x6 sys m c i acc) (Y:=RET) (g:=fun c x=>(⟨x.face,[aD 6 [(mM c (av 1 0 (ay x))).1,vN 0]]⟩,(mM c (av 1 0 (ay x))).2)) (F:=lR) (Q:=O8 80001) syl
  (fun m c acc _=>by
   grind [u5,B4,ah])
  (fun m c x p r acc h ha=>by
   obtain ⟨e1,e2,e3,_⟩:=aR h (by omega)
   obtain ⟨q1,q2,_⟩:=sy x (by grind)
   have hg:ai x.kids 0=some (ay x):=dw (n:=0) rfl (by grind)
   simp only [u5,B4,e1,aj,e2,aJ,hg,al hk.fu,aA,arj hk q2,gh,e3]
   grind [bn])
  (fun x hx b h=>by
   unfold lR at h
   obtain ⟨u,h1,h⟩:=aY h
   injection h with h;subst h
   rw [dJ,h1];rfl)
  (fun x hx e h=>by
   unfold lR at h
   rcases ba h with h|⟨_,_,h⟩
   ·have:=bN h;rw [dJ,h];exact ⟨by omega,rfl⟩
   simp_all)
  (fun x hx c hc=>by rw [dz hc])
  (fun x hx c=>by
   obtain ⟨q1,q2,q3⟩:=sy x hx
   have:=Ng (gH (c:=c) (x:=av 1 0 (ay x)) fun t h=>dK (by omega) q2 h)
   exact ⟨_,rfl,this.1,by omega,kQ q3⟩)
  sys [] [] k (mM 0 (av 1 0 (Tm.mk x1 x2 x3 x4 x5 x6))).2 rfl (by omega) (by grind)
 obtain ⟨l',h1,h2,h3,h4⟩:=key fun r4=>Y (5,0,au,[.mk 15 0 au [] [b,aD 6 [(mM 0 (av 1 0 (Tm.mk x1 x2 x3 x4 x5 x6))).1,vN 0]] r4.1],r4.2)
 have fA:FN (mM 0 (av 1 0 (Tm.mk x1 x2 x3 x4 x5 x6))).1:=gH fun t h=>dK (by omega) fa h
 refine ⟨_,kG (l9 (mM 0 (av 1 0 (Tm.mk x1 x2 x3 x4 x5 x6))).2 (dk lR sys)), ?_,Q2 hk (by omega) (Nf (n:=80001) (fb.sm.mono (by omega)) (Ng fA).1 (by have:=fb.dep;omega) (by grind [Ng]) (by omega) h3 (by omega) (by omega)), ?_⟩
 ·simp only [DQ,al hk.fu,aA,A8 hk fa (show (0:Int)<=1/\(1:Int)<1000 by omega) (show (0:Int)<=0/\(0:Int)<1000 by omega),yE,fJ,tW,NM,g1,aJ,gi]
  exact h1
 ·unfold oE
  rw [dJ] at h4 ⊢
  cases ha:av 1 0 (Tm.mk x1 x2 x3 x4 x5 x6) with
  |error e=>
   have he:=bN ha
   rw [show (tE (.error e)).2=e from rfl,fS (show e≠0 by omega)]
   exact ⟨fun z h=>(by cases h),fun e' h=>by injection h with h;subst h;exact ⟨by omega,rfl⟩⟩
  |ok A=>
   rw [ha,show (tE (.ok A)).2=0 from rfl,eX] at h4
   rw [show (tE (.ok A)).2=0 from rfl,eX,aF]
   cases hm:dk lR sys with
   |error e=>
    refine ⟨fun z h=>(by cases h),fun e' h=> ?_⟩
    injection h with h;subst h
    have:=Uh (b:=b) (a:=Tm.mk x1 x2 x3 x4 x5 x6) (sys:=sys) (e:=e) (by unfold oE;rw [ha,hm];rfl)
    exact ⟨by omega,rfl⟩
   |ok l=>
    have:=h4 l hm
    subst this
    exact ⟨fun z h=>by injection h with h;subst h;exact ⟨rfl,rfl⟩,fun e h=>by cases h⟩
end
def parts (kd:Int) (sys:LB):LB:=sys.map fun x=>⟨x.face,[aD kd [ay x]]⟩
theorem Bf {kd:Int} (hkd:0<=kd/\kd<=28) {a:Tm} (fa:FN a):Sm 80001 (aD kd [a])/\aw (aD kd [a])<=201:=by
 have h:=tj (kd:=kd) hkd (n:=20000) (ks:=[a]) (fun x hx=>by simp at hx;subst hx;exact ⟨fa.sm.1,by have:=fa.sm.2;omega⟩) (by simp)
 refine ⟨h.1, ?_⟩
 unfold aD;rw [aw,a7,a7,bg];have:=fa.sm.2;omega
theorem Ug {kd:Int} (hkd:0<=kd/\kd<=28) {sys:LB} (sy: ∀b∈sys,b.kids=[ay b]/\Fm (ay b)/\RX true b.face):g5 80001 (parts kd sys):=fun y hy=>by
 obtain ⟨x,hx,rfl⟩:=dS.1 hy
 obtain ⟨_,q2,q3⟩:=sy x hx
 have:=Bf hkd (.inl q2)
 grind [kQ]
theorem FR (hk:F3 k) {kd:Int} (hkd:0<=kd/\kd<=28) {sys:LB} (sy: ∀b∈sys,b.kids=[ay b]/\Fm (ay b)/\RX true b.face) (syl:sys.length<=20000):In k (bt (parts kd sys)):=by
 obtain ⟨b1,b2⟩:=C7 (Ug hkd sy)
 exact atI hk (by omega) b1 (by grind [parts]) b2
def qz (k0 k1 a:Tm) (sys:LB):Except Int Tm:=
 bE (cj [k0,aD 9 [a],bt (parts 9 sys)] (d6 k0 (aD 9 [a]) (parts 9 sys))) fun f=>bE (av 0 1 k1) fun b=>bE (jY 0 b f) fun line=>
 bE (cj [line,aD 10 [a],bt (parts 10 sys)] (g9 line (aD 10 [a]) (parts 10 sys))) fun y=> .ok (aD 8 [.mk 15 0 au [] [k0,aD 9 [a]] (parts 9 sys),y])
theorem asr {k0 k1 a:Tm} {sys:LB} {e:Int} (h:qz k0 k1 a sys= .error e):0<e/\e<=1000:=by
 unfold qz at h
 rcases ba h with h|⟨_,_,h⟩
 ·exact j_ (fun e h=>mD h) h
 rcases ba h with h|⟨_,_,h⟩
 ·exact bN h
 rcases ba h with h|⟨_,_,h⟩
 ·exact FX h
 rcases ba h with h|⟨_,_,h⟩
 ·exact j_ (fun e h=>tL h) h
 simp_all
section
variable {x1 x2:Int} {x3:BA} {x4:LC} {x5:LT} {x6 sys:LB}
theorem amA (hk:F3 k) (Y:LB->OS S) {c kd:Int} (sy: ∀b∈sys,b.kids=[ay b]) (syl:sys.length<=20000):
  ∀ (r p acc:LB) (m:Nat),sys=p++r->r.length<m->acc.length+r.length<=20000->
   u7 k Y c x1 x2 x3 x4 x5 x6 sys kd m (p.length:Int) acc=Y (acc++parts kd r):=by
 intro r
 induction r with
 |nil=>
  intro p acc m h hm ha
  obtain ⟨m,rfl,hm'⟩:=aq hm
  grind [u7,B6,ah,parts]
 |cons x r ih=>
  intro p acc m h hm ha
  obtain ⟨m,rfl,hm'⟩:=aq hm
  obtain ⟨e1,e2,e3,e4⟩:=aR h (by omega)
  rw [cM] at ha
  have g0:ai x.kids 0=some (ay x):=dw (n:=0) rfl (by grind)
  simp only [u7,B6,e1,aj,e2,aJ,al hk.fu,e3,Jo,g0,aA,gh,fJ]
  rw [bn (by grind),ih (p++[x]) _ m e4 hm' (by grind),List.append_assoc];rfl
theorem ark (hk:F3 k) {c kd:Int} (sy: ∀b∈sys,b.kids=[ay b]) (syl:sys.length<=20000) (Y:Int×Int×BA×LT×LB->OS S):
  yA k kd c x1 x2 x3 x4 x5 x6 sys Y=Y (kd,0,au,[Tm.mk x1 x2 x3 x4 x5 x6],parts kd sys):=by
 have hfu:4294968296<=k:=hk
 simp only [yA,al hk.fu,fJ,tY,NO]
 refine (amA hk _ sy syl sys [] [] k rfl (by omega) (by grind)).trans ?_
 rw [dG]
theorem ajV (hk:F3 k) {l a:Tm} {s:LB} (hl:In k l) (ha:In k a) (hs:In k (bt s)) (c:Int):FN (mM c (cj [l,a,bt s] (g9 l a s))).1:=gH fun t h=>by
 obtain ⟨so,ff,hx⟩:=qB h
 obtain ⟨f1,f2,f3⟩:=tk hl.1 ha.1 hs.1 so
 exact ⟨(Dc hk f1 f2 (kX f3) hx).1.1,ff⟩
theorem J_ (hk:F3 k) {l a:Tm} {s:LB} (hl:In k l) (ha:In k a) (hs:In k (bt s)) {t:Tm} (h:cj [l,a,bt s] (d6 l a s)= .ok t):Fm t:=by
 obtain ⟨so,ff,hx⟩:=qB h
 obtain ⟨f1,f2,f3⟩:=tk hl.1 ha.1 hs.1 so
 exact ⟨(uB hk f1 f2 (kX f3) hx).1.1,ff⟩
theorem akv (hk:F3 k) {kd:Int} (hkd:0<=kd/\kd<=28) {x y:Tm} (hx:Sm 50000000000 x) (hy:Sm 50000000000 y):In k (aD kd [x,y]):=by
 have:=hx.dep;have:=hx.siz;have:=hy.dep;have:=hy.siz
 unfold aD
 refine ⟨?_,hk.fd ?_, ?_⟩
 ·rw [OkT,bo,bo,bo,bH]
  exact ⟨⟨by unfold a6;omega,by unfold a6;omega,by decide,(fun c hc=>by cases hc),by simp,by simp,by simp⟩,⟨hx.ok,hy.ok,trivial⟩,trivial⟩
 all_goals grind [aw,a7,bg,ax,aK,aX]
theorem Yi (hk4:F4 k) {t k0 k1':Tm} (hkd:t.kids=[k0,k1']) (f0:Fm k0) (f1:Fm k1') (fa:Fm (Tm.mk x1 x2 x3 x4 x5 x6)) (sy: ∀b∈sys,b.kids=[ay b]/\Fm (ay b)/\RX true b.face) (syl:sys.length<=20000) (Y:Int×Int×BA×LT×Int->OS S):
  ∃ks c,DR k t 0 x1 x2 x3 x4 x5 x6 sys Y=Y (8,0,au,ks,c)/\In k (aD 8 ks)/\(∀z,qz k0 k1' (Tm.mk x1 x2 x3 x4 x5 x6) sys= .ok z->aD 8 ks=z/\c=0)/\ ∀e,qz k0 k1' (Tm.mk x1 x2 x3 x4 x5 x6) sys= .error e->e≠0/\c=e:=by
 have hk:=hk4.f3
 obtain ⟨g0,g1⟩:=pD hkd
 generalize ha:Tm.mk x1 x2 x3 x4 x5 x6=a at fa
 have p9:=FR hk (kd:=9) (by omega) sy syl
 have p10:=FR hk (kd:=10) (by omega) sy syl
 have a9:=Bf (kd:=9) (by omega) (.inl fa)
 have a10:=Bf (kd:=10) (by omega) (.inl fa)
 have i9:In k (aD 9 [a]):=a9.1.isIn hk (by omega)
 have i10:In k (aD 10 [a]):=a10.1.isIn hk (by omega)
 generalize hF:mM 0 (cj [k0,aD 9 [a],bt (parts 9 sys)] (d6 k0 (aD 9 [a]) (parts 9 sys)))=F
 generalize hB:mM F.2 (av 0 1 k1')=B
 generalize hL:mM B.2 (qk 0 B.1 F.1)=L
 generalize hC:mM L.2 (cj [L.1,aD 10 [a],bt (parts 10 sys)] (g9 L.1 (aD 10 [a]) (parts 10 sys)))=C
 have fF:FN F.1:=by rw [<-hF];exact gH fun t h=>J_ hk (f0.isIn hk) i9 p9 h
 have fB:FN B.1:=by rw [<-hB];exact gH fun t h=>dK (by omega) f1 h
 have fL:FN L.1:=by
  rw [<-hL]
  refine gH fun t h=> ?_
  unfold qk gm at h
  split at h
  case isFalse=>cases h
  rename_i q1
  split at h
  case isFalse=>cases h
  rename_i q2
  exact Uj (by omega) ⟨fB.sm.1.ok,q1⟩ ⟨fF.sm.1.ok,q2⟩ h
 have iF:In k F.1:=fF.sm.1.isIn hk (by omega)
 have iB:In k B.1:=fB.sm.1.isIn hk (by omega)
 have iL:In k L.1:=fL.sm.1.isIn hk (by omega)
 have fC:FN C.1:=by grind [ajV]
 have h15:=Nf (n:=80001) (f0.sm.mono (by omega)) a9.1 (by have:=f0.dep;omega) (by omega) (by omega) (Ug (kd:=9) (by omega) sy) (by omega) (by grind [parts])
 refine ⟨[.mk 15 0 au [] [k0,aD 9 [a]] (parts 9 sys),C.1],C.2, ?_,akv hk (by omega) h15 (fC.sm.1.mono (by omega)), ?_⟩
 ·simp only [DR,al hk.fu,aA,ark hk (fun b hb=>(sy b hb).1) syl,g0,g1,aJ,gi,fJ,ha]
  have e9:Tm.mk 9 0 au [] [a] []=aD 9 [a]:=rfl
  have e10:Tm.mk 10 0 au [] [a] []=aD 10 [a]:=rfl
  rw [e9,e10,Yo hk (fun _=>⟨f0.isIn hk,i9,p9⟩) (fun e h=>Bg (fun e h=>mD h) h),hF,arq hk (fun _=>f1),hB,arv hk4 (fun _=>⟨iB,iF⟩),hL,ars hk (fun _=>⟨iL,i10,p10⟩) (fun e h=>Bg (fun e h=>tL h) h),hC]
 ·unfold qz
  rw [dJ] at hF
  cases q1:cj [k0,aD 9 [a],bt (parts 9 sys)] (d6 k0 (aD 9 [a]) (parts 9 sys)) with
  |error e=>
   have he:=j_ (fun e h=>mD h) q1
   rw [q1] at hF;subst hF
   rw [show (tE (.error e)).2=e from rfl,dz (show e≠0 by omega)] at hB;subst hB
   dsimp only at hL
   rw [dz (show e≠0 by omega)] at hL;subst hL
   dsimp only at hC
   rw [dz (show e≠0 by omega)] at hC;subst hC
   exact ⟨fun z h=>(by cases h),fun e' h=>by injection h with h;omega⟩
  |ok f=>
   have ff:=J_ hk (f0.isIn hk) i9 p9 q1
   rw [q1] at hF;subst hF
   rw [show (tE (.ok f)).2=0 from rfl,dJ] at hB
   rw [aF]
   cases q2:av 0 1 k1' with
   |error e=>
    have he:=bN q2
    rw [q2] at hB;subst hB
    rw [show (tE (.error e)).2=e from rfl,dz (show e≠0 by omega)] at hL;subst hL
    dsimp only at hC
    rw [dz (show e≠0 by omega)] at hC;subst hC
    exact ⟨fun z h=>(by cases h),fun e' h=>by injection h with h;omega⟩
   |ok b=>
    have fb:=dK (by omega) f1 q2
    rw [q2] at hB;subst hB
    rw [show (tE (.ok b)).2=0 from rfl,show (tE (.ok b)).1=b from rfl,show (tE (.ok f)).1=f from rfl,dJ,show qk 0 b f=jY 0 b f from by unfold qk gm;rw [if_pos fb.2,if_pos ff.2]] at hL
    rw [aF]
    cases q3:jY 0 b f with
    |error e=>
     have he:=FX q3
     rw [q3] at hL;subst hL
     rw [show (tE (.error e)).2=e from rfl,dz (show e≠0 by omega)] at hC;subst hC
     exact ⟨fun z h=>(by cases h),fun e' h=>by injection h with h;omega⟩
    |ok line=>
     rw [q3] at hL;subst hL
     rw [show (tE (.ok line)).2=0 from rfl,show (tE (.ok line)).1=line from rfl,dJ] at hC
     rw [aF]
     cases q4:cj [line,aD 10 [a],bt (parts 10 sys)] (g9 line (aD 10 [a]) (parts 10 sys)) with
     |error e=>
      have he:=j_ (fun e h=>tL h) q4
      rw [q4] at hC;subst hC
      exact ⟨fun z h=>(by cases h),fun e' h=>by injection h with h;subst h;exact ⟨by omega,rfl⟩⟩
     |ok y=>
      rw [q4] at hC;subst hC
      exact ⟨fun z h=>by injection h with h;subst h;exact ⟨rfl,rfl⟩,fun e h=>by cases h⟩
end
abbrev jX (r:LC) (u lo hi:Tm):Tm:= .mk 13 0 au r [u,lo,hi] []
def iw (l r:Tm) (x:Br Tm):Except Int (Br Tm):=
 bE (d9 (bP x.face 0 1)) fun f=>bE (bJ 0 1 0 1 (ay x)) fun u=>bE (av 0 2 l) fun lo=>bE (av 0 2 r) fun hi=> .ok ⟨f,[jX [⟨2,0⟩] u lo hi]⟩
def qj (k0 l r a:Tm) (sys:LB):Except Int Tm:=
 bE (av 0 1 a) fun p=>bE (av 0 1 l) fun lo=>bE (av 0 1 r) fun hi=>bE (dk (iw l r) sys) fun bs=>bE (av 0 2 l) fun l2=>bE (av 0 2 r) fun r2=>
 .ok (aD 12 [.mk 15 0 au [] [k0,jX [⟨1,0⟩] p lo hi] (bs++[⟨[⟨0,1⟩],[l2]⟩]++[⟨[⟨1,0⟩],[r2]⟩])])
theorem FT {l r:Tm} {x:Br Tm} {e:Int} (h:iw l r x= .error e):0<e/\e<=1000:=by
 unfold iw at h
 rcases ba h with h|⟨_,_,h⟩
 ·exact OT (sG _ _ _) h
 rcases ba h with h|⟨_,_,h⟩
 ·exact iX _ h
 rcases ba h with h|⟨_,_,h⟩
 ·exact bN h
 rcases ba h with h|⟨_,_,h⟩
 ·exact bN h
 simp_all
theorem apd {k0 l r a:Tm} {sys:LB} {e:Int} (h:qj k0 l r a sys= .error e):0<e/\e<=1000:=by
 unfold qj at h
 rcases ba h with h|⟨_,_,h⟩
 ·exact bN h
 rcases ba h with h|⟨_,_,h⟩
 ·exact bN h
 rcases ba h with h|⟨_,_,h⟩
 ·exact bN h
 rcases ba h with h|⟨_,_,h⟩
 ·exact Aq (fun x _ e h=>FT h) h
 rcases ba h with h|⟨_,_,h⟩
 ·exact bN h
 rcases ba h with h|⟨_,_,h⟩
 ·exact bN h
 simp_all
theorem AB {a b:Int} (ha:0<=a/\a<4294967296) (hb:0<=b/\b<4294967296):aI [⟨a,b⟩]/\[(⟨a,b⟩:Cl)].length<1073741824:=⟨fun c hc=>by rw [List.mem_singleton] at hc;subst hc;exact ⟨ha,hb⟩,by simp⟩
theorem YS {r:LC} (hr:aI r/\r.length<1073741824) {u lo hi:Tm} (f1:FN u) (f2:FN lo) (f3:FN hi):Sm 60001 (jX r u lo hi)/\aw (jX r u lo hi)<=201:=by
 have a1:=f1.sm;have a2:=f2.sm;have a3:=f3.sm
 refine ⟨(qA (kd:=13) (by omega) hr (ks:=[u,lo,hi]) (sys:=[]) (n:=60000) (m:=0) (fun x hx=>by
  simp at hx
  rcases hx with rfl|rfl|rfl
  ·exact ⟨a1.1.ok,by omega⟩
  ·exact ⟨a2.1.ok,by omega⟩
  ·exact ⟨a3.1.ok,by omega⟩) (by simp) (by rw [aK,aK,aK,aK];have:=a1.1.siz;have:=a2.1.siz;have:=a3.1.siz;omega) (by rw [bH];trivial) (by simp) (by rw [bg];omega) (by rw [aX];omega)).mono (by omega), ?_⟩
 grind [aw,a7,bg]
section
variable {x1 x2:Int} {x3:BA} {x4:LC} {x5:LT} {x6 sys:LB}
def qi (l r:Tm) (c:Int) (x:Br Tm):Br Tm×Int:=
 let R:=if c=0 then bP x.face 0 1 else ([],c)
 let U:=mM R.2 (bJ 0 1 0 1 (ay x))
 let A:=mM U.2 (av 0 2 l)
 let B:=mM A.2 (av 0 2 r)
 (⟨R.1,[jX [⟨2,0⟩] U.1 A.1 B.1]⟩,B.2)
theorem apa {l r:Tm} {x:Br Tm} {b:Br Tm} (h:iw l r x= .ok b):qi l r 0 x=(b,0):=by
 unfold iw at h
 obtain ⟨f,h1,h⟩:=aY h
 obtain ⟨u,h2,h⟩:=aY h
 obtain ⟨lo,h3,h⟩:=aY h
 obtain ⟨hi,h4,h⟩:=aY h
 injection h with h;subst h
 obtain ⟨p0,rfl⟩:=qF h1
 unfold qi
 simp only [if_pos,p0,dJ,h2,h3,h4]
 rfl
theorem apb {l r:Tm} {x:Br Tm} {e:Int} (h:iw l r x= .error e):e≠0/\(qi l r 0 x).2=e:=by
 have he:=FT h
 refine ⟨by omega, ?_⟩
 have hne:e≠0:=by omega
 unfold iw at h
 unfold qi
 simp only [if_pos]
 by_cases p0:(bP x.face 0 1).2=0
 ·rw [kV p0,aF] at h
  rw [p0,dJ]
  cases q2:bJ 0 1 0 1 (ay x) with
  |error e'=>
   grind [cA,tE,dz]
  |ok u=>
   rw [q2,aF] at h
   rw [show (tE (.ok u)).2=0 from rfl,dJ]
   cases q3:av 0 2 l with
   |error e'=>
    grind [cA,tE,dz]
   |ok lo=>
    rw [q3,aF] at h
    rw [show (tE (.ok lo)).2=0 from rfl,dJ]
    cases q4:av 0 2 r with
    |error e'=>rw [q4,cA] at h;injection h with h
    |ok hi=>grind [aF]
 grind [kg,cA,dz]
theorem apc {l r:Tm} {x:Br Tm} {c:Int} (hc:c≠0):(qi l r c x).2=c:=by
 grind [qi,dz]
theorem Yg (hk:F3 k) {t k0 l r:Tm} (hkd:t.kids=[k0,l,r]) (f0:Fm k0) (f1:Fm l) (f2:Fm r) (fa:Fm (Tm.mk x1 x2 x3 x4 x5 x6)) (sy: ∀b∈sys,b.kids=[ay b]/\Fm (ay b)/\RX true b.face) (syl:sys.length<=19000) (Y:Int×Int×BA×LT×Int->OS S):
  ∃y c,DO k t 0 x1 x2 x3 x4 x5 x6 sys Y=Y (12,0,au,[y],c)/\In k (aD 12 [y])/\(∀z,qj k0 l r (Tm.mk x1 x2 x3 x4 x5 x6) sys= .ok z->aD 12 [y]=z/\c=0)/\ ∀e,qj k0 l r (Tm.mk x1 x2 x3 x4 x5 x6) sys= .error e->e≠0/\c=e:=by
 have hfu:4294968296<=k:=hk
 have g0:ai t.kids 0=some k0:=dw (n:=0) rfl (by grind)
 have g1:ai t.kids 1=some l:=dw (n:=1) rfl (by grind)
 have g2:ai t.kids 2=some r:=dw (n:=2) rfl (by grind)
 generalize ha:Tm.mk x1 x2 x3 x4 x5 x6=a at fa
 have u01: ∀ {t:Tm} (ft:Fm t) (c:Int) (g:Tm×Int->OS S),gU k t 0 1 c g=g (mM c (av 0 1 t)):=fun ft c g=>A8 hk ft (by omega) (by omega) g
 have u02: ∀ {t:Tm} (ft:Fm t) (c:Int) (g:Tm×Int->OS S),gU k t 0 2 c g=g (mM c (av 0 2 t)):=fun ft c g=>A8 hk ft (by omega) (by omega) g
 generalize hP:mM 0 (av 0 1 a)=P
 generalize hLo:mM P.2 (av 0 1 l)=Lo
 generalize hHi:mM Lo.2 (av 0 1 r)=Hi
 have fP:FN P.1:=by rw [<-hP];exact gH fun t h=>dK (by omega) fa h
 have fLo:FN Lo.1:=by rw [<-hLo];exact gH fun t h=>dK (by omega) f1 h
 have fHi:FN Hi.1:=by rw [<-hHi];exact gH fun t h=>dK (by omega) f2 h
 have key:=fun RET=>JW (S:=S) (l:=sys) (L:=fun m c i acc=>u4 k Y x1 x2 x3 x4 x5 x6 sys t l r (13,0,au,[⟨1,0⟩],[P.1,Lo.1,Hi.1]) m c acc i) (Y:=RET) (g:=qi l r) (F:=iw l r) (Q:=O8 60001) (by omega)
 obtain ⟨l',h1,h2,h3,h4⟩:=key (fun q=>Y (12,0,au,[.mk 15 0 au [] [k0,jX [⟨1,0⟩] P.1 Lo.1 Hi.1] (q.1++[⟨[⟨0,1⟩],[(mM q.2 (av 0 2 l)).1]⟩]++[⟨[⟨1,0⟩],[(mM (mM q.2 (av 0 2 l)).2 (av 0 2 r)).1]⟩])],(mM (mM q.2 (av 0 2 l)).2 (av 0 2 r)).2))
  (fun m c acc hacc=>by
   have:=cV (l:=sys) (p:=sys) (by simp)
   simp only [u4,B3,this,ah,al hk.fu,aA,u02 f1,u02 f2,gh,gi,fJ]
   grind [bn])
  (fun m c x p q acc h hacc=>by
   obtain ⟨e1,e2,e3,_⟩:=aR h (by omega)
   obtain ⟨q1,q2,q3⟩:=sy x (by grind)
   have hg:ai x.kids 0=some (ay x):=dw (n:=0) rfl (by grind)
   have hd1:pu 1 1 (ay x)=bJ 0 1 0 1 (ay x):=if_pos q2.2
   simp only [u4,B3,e1,aj,e2,aJ,hg,al hk.fu,aA,u02 f1,u02 f2,gh,yF,e3]
   rw [arw hk q3.1.2 (kQ q3).2 (by omega),aru hk (b:=1) (fun _=>q2.isIn hk) (by omega),hd1,bn (by grind)]
   rfl)
  (fun x hx b h=>apa h) (fun x hx e h=>apb h) (fun x hx c hc=>apc hc)
  (fun x hx c=>by
   obtain ⟨q1,q2,q3⟩:=sy x hx
   unfold qi
   have fU: ∀c,FN (mM c (bJ 0 1 0 1 (ay x))).1:=fun c=>gH fun t h=>lM (by omega) q2 h
   have fA: ∀c,FN (mM c (av 0 2 l)).1:=fun c=>gH fun t h=>dK (by omega) f1 h
   have fB: ∀c,FN (mM c (av 0 2 r)).1:=fun c=>gH fun t h=>dK (by omega) f2 h
   have h13:=YS (AB (a:=2) (b:=0) (by omega) (by omega)) (fU (if c=0 then bP x.face 0 1 else ([],c)).2) (fA (mM (if c=0 then bP x.face 0 1 else ([],c)).2 (bJ 0 1 0 1 (ay x))).2) (fB (mM (mM (if c=0 then bP x.face 0 1 else ([],c)).2 (bJ 0 1 0 1 (ay x))).2 (av 0 2 l)).2)
   refine ⟨_,rfl,h13.1,by omega, ?_⟩
   show aI (if c=0 then bP x.face 0 1 else ([],c)).1/\_
   split
   ·exact anQ q3.1
   ·exact ⟨fun c hc=>(by cases hc),by simp⟩)
  sys [] [] k Hi.2 rfl (by omega) (by grind)
 generalize hE:kG (l9 Hi.2 (dk (iw l r) sys))=E at h1
 generalize hA:mM E (av 0 2 l)=A at h1
 generalize hB:mM A.2 (av 0 2 r)=B at h1
 have fA:FN A.1:=by rw [<-hA];exact gH fun t h=>dK (by omega) f1 h
 have fB:FN B.1:=by rw [<-hB];exact gH fun t h=>dK (by omega) f2 h
 have h13:=YS (AB (a:=1) (b:=0) (by omega) (by omega)) fP fLo fHi
 have hbr:g5 60001 (l'++[⟨[⟨0,1⟩],[A.1]⟩]++[⟨[⟨1,0⟩],[B.1]⟩]):=IU (IU h3 (rd (AB (by omega) (by omega)) (fA.sm.1.mono (by omega)) (by have:=fA.sm.2;omega) (re _))) (rd (AB (by omega) (by omega)) (fB.sm.1.mono (by omega)) (by have:=fB.sm.2;omega) (re _))
 refine ⟨_,B.2, ?_,Q2 hk (by omega) (Nf (n:=60001) (x:=k0) (y:=jX [⟨1,0⟩] P.1 Lo.1 Hi.1) (f0.sm.mono (by omega)) h13.1 (by have:=f0.dep;omega) (by omega) (by omega) hbr (by omega) (by simp;omega)), ?_⟩
 ·simp only [DO,NL,al hk.fu,aA,g1,g2,aJ,ha,u01 fa,u01 f1,u01 f2,yF,hP,hLo,hHi]
  exact h1
 ·unfold qj
  rw [dJ] at hP
  cases q1:av 0 1 a with
  |error e=>
   have he:=bN q1
   have hne:e≠0:=by omega
   rw [q1] at hP;subst hP
   rw [show (tE (.error e)).2=e from rfl,dz hne] at hLo;subst hLo
   dsimp only at hHi
   rw [dz hne] at hHi;subst hHi
   rw [fS hne] at hE
   have hE:e=E:=hE
   subst hE
   rw [dz hne] at hA;subst hA
   dsimp only at hB
   rw [dz hne] at hB;subst hB
   exact ⟨fun z h=>(by cases h),fun e' h=>by injection h with h;omega⟩
  |ok p=>
   rw [q1] at hP;subst hP
   rw [show (tE (.ok p)).2=0 from rfl,dJ] at hLo
   rw [aF]
   cases q2:av 0 1 l with
   |error e=>
    have he:=bN q2
    have hne:e≠0:=by omega
    rw [q2] at hLo;subst hLo
    rw [show (tE (.error e)).2=e from rfl,dz hne] at hHi;subst hHi
    rw [fS hne] at hE
    have hE:e=E:=hE
    subst hE
    rw [dz hne] at hA;subst hA
    dsimp only at hB
    rw [dz hne] at hB;subst hB
    exact ⟨fun z h=>(by cases h),fun e' h=>by injection h with h;omega⟩
   |ok lo=>
    rw [q2] at hLo;subst hLo
    rw [show (tE (.ok lo)).2=0 from rfl,dJ] at hHi
    rw [aF]
    cases q3:av 0 1 r with
    |error e=>
     have he:=bN q3
     have hne:e≠0:=by omega
     rw [q3] at hHi;subst hHi
     rw [show (tE (.error e)).2=e from rfl,fS hne] at hE
     have hE:e=E:=hE
     subst hE
     rw [dz hne] at hA;subst hA
     dsimp only at hB
     rw [dz hne] at hB;subst hB
     exact ⟨fun z h=>(by cases h),fun e' h=>by injection h with h;omega⟩
    |ok hi=>
     rw [q3] at hHi;subst hHi
     rw [show (tE (.ok hi)).2=0 from rfl,eX] at hE h4
     rw [aF]
     cases q4:dk (iw l r) sys with
     |error e=>
      have he:=Aq (fun x _ e h=>FT h) q4
      have hne:e≠0:=by omega
      rw [q4] at hE
      have hE:e=E:=hE
      subst hE
      rw [dz hne] at hA;subst hA
      dsimp only at hB
      rw [dz hne] at hB;subst hB
      exact ⟨fun z h=>(by cases h),fun e' h=>by injection h with h;omega⟩
     |ok bs=>
      have:=h4 bs q4
      subst this
      rw [q4] at hE
      have hE:0=E:=hE
      subst hE
      rw [dJ] at hA
      rw [aF]
      cases q5:av 0 2 l with
      |error e=>
       have he:=bN q5
       have hne:e≠0:=by omega
       rw [q5] at hA;subst hA
       rw [show (tE (.error e)).2=e from rfl,dz hne] at hB;subst hB
       exact ⟨fun z h=>(by cases h),fun e' h=>by injection h with h;omega⟩
      |ok l2=>
       rw [q5] at hA;subst hA
       rw [show (tE (.ok l2)).2=0 from rfl,dJ] at hB
       rw [aF]
       cases q6:av 0 2 r with
       |error e=>
        have he:=bN q6
        rw [q6] at hB;subst hB
        exact ⟨fun z h=>(by cases h),fun e' h=>by injection h with h;subst h;exact ⟨by omega,rfl⟩⟩
       |ok r2=>
        rw [q6] at hB;subst hB
        exact ⟨fun z h=>by injection h with h;subst h;exact ⟨rfl,rfl⟩,fun e h=>by cases h⟩
end
def rJ:Tm:=aD 8 uI
def jz (a:Tm) (x:Br Tm):Except Int (Br Tm):=
 bE (dY 0 [⟨0,0⟩] (ay x)) fun e=>bE (av 0 1 a) fun a'=>bE (cj [ay x,a'] (gk (ay x) a')) fun l=> .ok ⟨x.face,[e,aD 14 [l,rJ]]⟩
def qH (a:Tm) (sys:LB):Except Int Tm:=bE (dk (jz a) sys) fun bs=> .ok (.mk 16 0 au [] [a] bs)
theorem E9 {t a:Tm} {e:Int} (h:gk t a= .error e):0<e/\e<=1000:=by
 rcases ba h with h|⟨_,_,h⟩
 ·exact bN h
 rcases ba h with h|⟨_,_,h⟩
 ·grind
 rcases ba h with h|⟨_,_,h⟩
 ·exact bN h
 rcases ba h with h|⟨_,_,h⟩
 ·exact bN h
 rcases ba h with h|⟨_,_,h⟩
 ·exact Qw h
 rcases ba h with h|⟨_,_,h⟩
 ·rcases ba h with h|⟨_,_,h⟩
  ·exact bN h
  rcases ba h with h|⟨_,_,h⟩
  ·exact bN h
  simp_all
 simp_all
theorem Hg {a:Tm} {x:Br Tm} {e:Int} (h:jz a x= .error e):0<e/\e<=1000:=by
 unfold jz at h
 rcases ba h with h|⟨_,_,h⟩
 ·exact tl h
 rcases ba h with h|⟨_,_,h⟩
 ·exact bN h
 rcases ba h with h|⟨_,_,h⟩
 ·exact j_ (fun e h=>E9 h) h
 simp_all
theorem atl {a:Tm} {sys:LB} {e:Int} (h:qH a sys= .error e):0<e/\e<=1000:=by
 unfold qH at h
 rcases ba h with h|⟨_,_,h⟩
 ·exact Aq (fun x _ e h=>Hg h) h
 simp_all
theorem id_fm:Fm rJ:=⟨by
 have:=(show OkT (aD 8 uI) from by
  unfold uI LQ vN aD
  repeat' first|rw [OkT]|rw [bo]|rw [bH]|refine ⟨?_, ?_⟩|refine ⟨⟨by unfold a6;omega,by unfold a6;omega,by decide, ?_,by simp,by simp,by simp⟩, ?_, ?_⟩|trivial|exact (AB (by omega) (by omega)).1|exact (fun c hc=>by cases hc))
 exact this,ajM⟩
section
variable {x1 x2:Int} {x3:BA} {x4:LC} {x5:LT} {x6 sys:LB}
def qG (a:Tm) (c:Int) (x:Br Tm):Br Tm×Int:=
 let E:=mM c (dY 0 [⟨0,0⟩] (ay x))
 let A:=mM E.2 (av 0 1 a)
 let Q:=mM A.2 (cj [ay x,A.1] (gk (ay x) A.1))
 (⟨x.face,[E.1,aD 14 [Q.1,rJ]]⟩,Q.2)
theorem ati {a:Tm} {x b:Br Tm} (h:jz a x= .ok b):qG a 0 x=(b,0):=by
 unfold jz at h
 obtain ⟨e,h1,h⟩:=aY h
 obtain ⟨a',h2,h⟩:=aY h
 obtain ⟨l,h3,h⟩:=aY h
 injection h with h;subst h
 unfold qG
 simp only [dJ,h1,h2]
 show (_,(mM 0 (cj [ay x,a'] (gk (ay x) a'))).2)=_
 rw [dJ,h3]
 show (Br.mk x.face [e,aD 14 [(mM 0 (cj [ay x,a'] (gk (ay x) a'))).1,rJ]],(0:Int))=_
 rw [dJ,h3];rfl
theorem atj {a:Tm} {x:Br Tm} {e:Int} (h:jz a x= .error e):e≠0/\(qG a 0 x).2=e:=by
 have he:=Hg h
 have hne:e≠0:=by omega
 refine ⟨hne, ?_⟩
 unfold jz at h
 unfold qG
 dsimp only
 rw [dJ]
 cases q1:dY 0 [⟨0,0⟩] (ay x) with
 |error e'=>
  grind [cA,tE,dz]
 |ok v=>
  rw [q1,aF] at h
  rw [show (tE (.ok v)).2=0 from rfl,dJ]
  cases q2:av 0 1 a with
  |error e'=>
   grind [cA,tE,dz]
  |ok a'=>
   rw [q2,aF] at h
   show (mM 0 (cj [ay x,a'] (gk (ay x) a'))).2=e
   rw [dJ]
   cases q3:cj [ay x,a'] (gk (ay x) a') with
   |error e'=>rw [q3,cA] at h;injection h with h
   |ok l=>grind [aF]
theorem atk {a:Tm} {x:Br Tm} {c:Int} (hc:c≠0):(qG a c x).2=c:=by
 grind [qG,dz]
theorem zq {t:Tm} (h:Fm t) (hz:ax t<=150):Fd2 150 150 t:=⟨h.ok,h.f2.2.1,by have:=nI t;omega,hz⟩
theorem T3:ax aH<=150:=by grind [aH,ax,aK,aX]
theorem aqZ (hk:F3 k) {t a:Tm} {c:Int} (ht:In k t) (ha:In k a) (zt:ax t<=150) (za:ax a<=150) (Y:Tm×Int->OS S):D7 k t a c Y=Y (mM c (cj [t,a] (gk t a))):=by
 simp only [D7,al hk.fu,eb,aA,m8]
 exact sJ c (fun h g=>aqF hk ht ha zt za g) (fun e h=>Bg (fun e h=>E9 h) h) Y
theorem J9 {t a:Tm} (ft:Fm t) (fa:Fm a) (zt:ax t<=150) (za:ax a<=150) {y:Tm} (h:cj [t,a] (gk t a)= .ok y):Fm y:=by
 obtain ⟨so,fy,hx⟩:=qB h
 exact ⟨(JY (by omega) (by omega) (zq ft zt) (zq fa za) hx).1,fy⟩
def O9 (x:Br Tm):Prop:= ∃t u,x.kids=[t,u]/\Sm 20000 t/\Sm 80001 u/\aw t<=200/\aw u<=201/\aI x.face/\x.face.length<1073741824
theorem af1 {l:LB} (h: ∀x∈l,O9 x):bH l/\aX l<=l.length*100001/\bg l<=201:=by
 induction l with
 |nil=>grind [bH,aX,bg]
 |cons x l ih=>
  obtain ⟨i1,i2,i3⟩:=ih fun x hx=>h x (by simp [hx])
  obtain ⟨t,u,e,h1,h2,d1,d2,h3,h4⟩:=h x (by simp)
  obtain ⟨f,ks⟩:=x
  have e:ks=[t,u]:=e
  subst e
  refine ⟨?_, ?_, ?_⟩
  ·rw [bH,iH,bo,bo,bo];exact ⟨⟨⟨h3,h4,by simp⟩,h1.ok,h2.ok,trivial⟩,i1⟩
  ·rw [aX,g4,aK,aK,aK,cM,Nat.succ_mul];have:=h1.siz;have:=h2.siz;omega
  grind [bg,iP,a7]
theorem Yj (hk:F3 k) (fa:Fm (Tm.mk x1 x2 x3 x4 x5 x6)) (za:ax (Tm.mk x1 x2 x3 x4 x5 x6)<=150) (sy: ∀b∈sys,b.kids=[ay b]/\Fm (ay b)/\RX true b.face) (zs: ∀b∈sys,ax (ay b)<=150) (syl:sys.length<=20000) (Y:Int×Int×BA×LT×LB×Int->OS S):
  ∃l c,DS k 0 x1 x2 x3 x4 x5 x6 sys Y=Y (16,0,au,[Tm.mk x1 x2 x3 x4 x5 x6],l,c)/\In k (.mk 16 0 au [] [Tm.mk x1 x2 x3 x4 x5 x6] l)/\(∀z,qH (Tm.mk x1 x2 x3 x4 x5 x6) sys= .ok z-> .mk 16 0 au [] [Tm.mk x1 x2 x3 x4 x5 x6] l=z/\c=0)/\ ∀e,qH (Tm.mk x1 x2 x3 x4 x5 x6) sys= .error e->e≠0/\c=e:=by
 have hfu:4294968296<=k:=hk
 obtain ⟨q,hq⟩: ∃q,k=q+100:=⟨k-100,by omega⟩
 have hid: ∀g:Int×Int×BA×LT->OS S,Dj k g=g (8,0,au,uI):=fun g=>by grind [akl]
 generalize ha:Tm.mk x1 x2 x3 x4 x5 x6=a at fa za
 have hA: ∀c,FN (mM c (av 0 1 a)).1/\ax (mM c (av 0 1 a)).1<=150:=fun c=>by
  refine ⟨gH fun t h=>dK (by omega) fa h, ?_⟩
  unfold mM
  split
  ·cases h:av 0 1 a with
   |error e=>exact T3
   |ok a'=>exact ((zq fa za).up (by omega) h).2.2.2
  ·exact T3
 have key:=fun RET=>JW (S:=S) (l:=sys) (L:=fun m c i acc=>u6 k RET x1 x2 x3 x4 x5 x6 sys m c i acc) (Y:=RET) (g:=qG a) (F:=jz a) (Q:=O9) syl
  (fun m c acc _=>by
   grind [u6,B5,ah])
  (fun m c x p r acc h hacc=>by
   obtain ⟨e1,e2,e3,_⟩:=aR h (by omega)
   have hx:x∈sys:=by grind
   obtain ⟨q1,q2,_⟩:=sy x hx
   have hg:ai x.kids 0=some (ay x):=dw (n:=0) rfl (by grind)
   have htk:wN 0 [⟨0,0⟩] (ay x)=dY 0 [⟨0,0⟩] (ay x):=if_pos q2.2
   simp only [u6,B5,e1,aj,e2,aJ,hg,al hk.fu,aA,Jp,ha,gh,fJ,e3,hid]
   rw [art hk (fun _=>q2.isIn hk),htk,A8 hk fa (by omega) (by omega),aqZ hk (q2.isIn hk) ((hA _).1.sm.1.isIn hk (by omega)) (zs x hx) (hA _).2,bn (by grind)]
   rfl)
  (fun x hx b h=>ati h) (fun x hx e h=>atj h) (fun x hx c hc=>atk hc)
  (fun x hx c=>by
   obtain ⟨q1,q2,q3⟩:=sy x hx
   have fE:FN (mM c (dY 0 [⟨0,0⟩] (ay x))).1\/True:= .inr trivial
   have sE:Sm 20000 (mM c (dY 0 [⟨0,0⟩] (ay x))).1/\aw (mM c (dY 0 [⟨0,0⟩] (ay x))).1<=200:=by
    unfold mM
    split
    ·cases hh:dY 0 [⟨0,0⟩] (ay x) with
     |error e=>exact (FN.sm (.inr rfl))
     |ok e=>
      obtain ⟨w1,w2,w3⟩:=Y7 q2 hh
      exact ⟨⟨w1,w3,(show aw e<=300 by omega)⟩,w2⟩
    ·exact (FN.sm (.inr rfl))
   unfold qG
   dsimp only
   generalize hE:mM c (dY 0 [⟨0,0⟩] (ay x))=E at sE
   have hA':=hA E.2
   generalize hA2:mM E.2 (av 0 1 a)=A at hA'
   have fQ:FN (mM A.2 (cj [ay x,A.1] (gk (ay x) A.1))).1:=gH fun t h=>by
    rcases hA'.1 with hf|hf
    ·grind [J9]
    ·obtain ⟨so,_,_⟩:=qB h
     have:=qC (l:=[ay x,A.1]) (fun y hy=>by
      simp at hy
      rcases hy with rfl|rfl
      ·exact q2.ok
      ·exact hA'.1.sm.1.ok) so A.1 (by simp)
     grind [J9]
   have h14:=tj (kd:=14) (by omega) (n:=20000) (ks:=[(mM A.2 (cj [ay x,A.1] (gk (ay x) A.1))).1,rJ]) (fun y hy=>by
    simp at hy
    rcases hy with rfl|rfl
    ·exact ⟨fQ.sm.1,by have:=fQ.sm.2;omega⟩
    ·exact ⟨id_fm.sm,by have:=id_fm.dep;omega⟩) (by simp)
   refine ⟨_,_,rfl,sE.1,h14.1,sE.2, ?_,kQ q3⟩
   unfold aD;rw [aw,a7,a7,a7,bg];have:=fQ.sm.2;have:=id_fm.dep;omega)
  sys [] [] k 0 rfl (by omega) (by grind)
 obtain ⟨l',h1,h2,h3,h4⟩:=key fun r1=>Y (16,0,au,[a],r1.1,r1.2)
 obtain ⟨b1,b2,b3⟩:=af1 h3
 have hz:aX l'<=20000*100001:=er b2 (jG _ (by omega))
 refine ⟨l',kG (l9 0 (dk (jz a) sys)), ?_, ?_, ?_⟩
 ·simp only [DS,al hk.fu,tX,NN,ha,gi]
  exact h1
 ·have:=fa.dep;have:=fa.siz
  refine ⟨?_,hk.fd ?_, ?_⟩
  ·rw [OkT,bo,bo]
   exact ⟨⟨by unfold a6;omega,by unfold a6;omega,by decide,(fun c hc=>by cases hc),by simp,by simp,by omega⟩,⟨fa.ok,trivial⟩,b1⟩
  all_goals grind [aw,a7,ax,aK]
 ·unfold qH
  rw [eX] at h4 ⊢
  cases hm:dk (jz a) sys with
  |error e=>
   have he:=Aq (fun x _ e h=>Hg h) hm
   exact ⟨fun z h=>(by cases h),fun e' h=>by injection h with h;subst h;exact ⟨by omega,rfl⟩⟩
  |ok l=>
   have:=h4 l hm
   subst this
   exact ⟨fun z h=>by injection h with h;subst h;exact ⟨rfl,rfl⟩,fun e h=>by cases h⟩
end
def nV (t:Tm):Except Int Tm:=
 let k0:=t.kids.getD 0 aH
 let a:=t.kids.getD 1 aH
 if k0.kind=4 then oE (k0.kids.getD 1 aH) a t.sys
 else if k0.kind=7 then qz (k0.kids.getD 0 aH) (k0.kids.getD 1 aH) a t.sys
 else if k0.kind=11 then qj (k0.kids.getD 0 aH) (k0.kids.getD 1 aH) (k0.kids.getD 2 aH) a t.sys
 else if k0.kind=3 then qH a t.sys
 else oB t
def uH (t:Tm):Tm×Bool×Int:=
 if ck t≠0 then (aH,false,ck t) else
 if t.kind=15/\((t.kids.getD 0 aH).kind=4\/(t.kids.getD 0 aH).kind=7\/(t.kids.getD 0 aH).kind=11\/(t.kids.getD 0 aH).kind=3\/(t.kids.getD 0 aH).kind=16) then oP (nV t) else (aH,false,0)
theorem YQ {t x:Tm} (h:x∈t.kids):ax x<=ax t:=by have:=m_ t;have:=kS h;omega
theorem arl (hk4:F4 k) {t:Tm} (ht:In k t) (hz:ax t<=150) (Y:Tm×Bool×Int->OS S):o_ k t Y=Y (uH t):=by
 have hk:=hk4.f3
 simp only [o_,al hk.fu,aA,jc ht.1 ht.2.1 ht.dep]
 unfold uH
 by_cases h0:ck t=0
 case neg=>rw [dT h0,ca,aj,if_pos h0];rfl
 rw [h0,show (!((0:Int)==0))=false from rfl,ah,if_neg (by simp)]
 have ft:Fm t:=⟨ht.1,h0⟩
 by_cases h15:t.kind=15
 case neg=>rw [beq_false_of_ne h15,ca,aj,if_neg (fun h=>h15 h.1)];rfl
 rw [h15,show (!((15:Int)==15))=false from rfl,ah,td t ht.1 _ ht.2.1]
 obtain ⟨k0,a,hkd⟩:=ma (jq ft h15 (n:=2) rfl)
 obtain ⟨g0,g1⟩:=pD hkd
 obtain ⟨d0,d1⟩:=iR hkd
 have fk:Fm k0:=ft.kid (by grind)
 have fa:Fm a:=ft.kid (by grind)
 have za:ax a<=150:=er (YQ (t:=t) (by grind)) hz
 obtain ⟨sy,syl⟩:=ft.sy h15
 have zs: ∀b∈t.sys,ax (ay b)<=150:=fun b hb=>by
  have h1:=ti hb
  have h2:ay b∈b.kids:=by grind
  have h3:=kS h2
  grind [m_]
 have syl2:t.sys.length<=19000:=by
  have h4:=m_ t
  have: ∀ {l:LB},(∀b∈l,b.kids=[ay b])->l.length<=aX l:=by
   intro l
   induction l with
   |nil=>simp
   |cons b l ih=>
    intro hl
    have:=ih fun b hb=>hl b (by simp [hb])
    have hb:=hl b (by simp)
    obtain ⟨f,ks⟩:=b
    grind [aX,g4,aK,l7]
  grind
 have ea:Tm.mk a.kind a.n a.name a.r a.kids a.sys=a:=by cases a;rfl
 have fa':Fm (Tm.mk a.kind a.n a.name a.r a.kids a.sys):=by grind
 simp only [g0,g1,aJ]
 unfold nV
 rw [d0,d1]
 dsimp only
 by_cases h4:k0.kind=4
 ·obtain ⟨p,b,hb⟩:=ma (jq fk h4 (n:=2) rfl)
  obtain ⟨w1,i1,i2,i3,i4,i5⟩:=Yh hk hb (fk.kid (by grind)) fa' sy syl (fun r5=>jg k (Tm.mk r5.1 r5.2.1 r5.2.2.1 [] r5.2.2.2.1 []) r5.2.2.2.2 fun r6=>Y (r6.1,r6.2.1,r6.2.2.1))
  rw [if_pos ⟨trivial,.inl h4⟩,if_pos h4,h4,show ((4:Int)==4)=true from rfl,aj]
  refine i2.trans ?_
  refine (A_ hk i3 _).trans ?_
  rw [(iR hb).2]
  rw [ea] at i4 i5
  exact Hf i4 i5 Y
 rw [if_neg h4,beq_false_of_ne h4,ah]
 by_cases h7:k0.kind=7
 ·obtain ⟨p,b,hb⟩:=ma (jq fk h7 (n:=2) rfl)
  obtain ⟨w1,i1,i2,i3,i4,i5⟩:=Yi hk4 hb (fk.kid (by grind)) (fk.kid (by grind)) fa' sy syl (fun r5=>jg k (Tm.mk r5.1 r5.2.1 r5.2.2.1 [] r5.2.2.2.1 []) r5.2.2.2.2 fun r6=>Y (r6.1,r6.2.1,r6.2.2.1))
  rw [if_pos ⟨trivial,.inr (.inl h7)⟩,if_pos h7,h7,show ((7:Int)==7)=true from rfl,aj]
  refine i2.trans ?_
  refine (A_ hk i3 _).trans ?_
  rw [(iR hb).1,(iR hb).2]
  rw [ea] at i4 i5
  exact Hf i4 i5 Y
 rw [if_neg h7,beq_false_of_ne h7,ah]
 by_cases h11:k0.kind=11
 ·obtain ⟨p,l,r,hb⟩: ∃p l r,k0.kids=[p,l,r]:=by
   have:=jq fk h11 (n:=3) rfl
   match h:k0.kids,this with
   |[p,l,r],_=>simp
  obtain ⟨w1,i1,i2,i3,i4,i5⟩:=Yg hk hb (fk.kid (by grind)) (fk.kid (by grind)) (fk.kid (by grind)) fa' sy syl2 (fun r5=>jg k (Tm.mk r5.1 r5.2.1 r5.2.2.1 [] r5.2.2.2.1 []) r5.2.2.2.2 fun r6=>Y (r6.1,r6.2.1,r6.2.2.1))
  rw [if_pos ⟨trivial,.inr (.inr (.inl h11))⟩,if_pos h11,h11,show ((11:Int)==11)=true from rfl,aj]
  refine i2.trans ?_
  refine (A_ hk i3 _).trans ?_
  rw [hb]
  rw [ea] at i4 i5
  exact Hf i4 i5 Y
 rw [if_neg h11,beq_false_of_ne h11,ah]
 by_cases h3:k0.kind=3
 ·obtain ⟨w1,i1,i2,i3,i4,i5⟩:=Yj hk fa' (by grind) sy zs syl (fun r11=>jg k (Tm.mk r11.1 r11.2.1 r11.2.2.1 [] r11.2.2.2.1 r11.2.2.2.2.1) r11.2.2.2.2.2 fun r6=>Y (r6.1,r6.2.1,r6.2.2.1))
  rw [if_pos ⟨trivial,.inr (.inr (.inr (.inl h3)))⟩,if_pos h3,h3,show ((3:Int)==3)=true from rfl,aj]
  refine i2.trans ?_
  refine (A_ hk i3 _).trans ?_
  rw [ea] at i4 i5 ⊢
  exact Hf i4 i5 Y
 rw [if_neg h3,beq_false_of_ne h3,ah]
 by_cases h16:k0.kind=16
 ·grind [aj,arf,Lr]
 ·rw [beq_false_of_ne h16,ah,if_neg (fun h=>by omega)];rfl
theorem uo {l:LB} {N:Nat} {L:Nat->LB->Int->OS S} {fin:LB->OS S} {bad:Int->OS S} {F:Br Tm->Except Int (Br Tm)}
  (hend: ∀ (m:Nat) (acc:LB),acc.length<=N->L (m+1) acc (l.length:Int)=fin acc)
  (hok: ∀ (m:Nat) (x:Br Tm) (p r acc:LB) (b:Br Tm),l=p++x::r->acc.length<N->F x= .ok b->L (m+1) acc (p.length:Int)=L m (acc++[b]) (((p++[x]).length:Nat):Int))
  (hbad: ∀ (m:Nat) (x:Br Tm) (p r acc:LB) (e:Int),l=p++x::r->acc.length<N->F x= .error e->0<m->L (m+1) acc (p.length:Int)=bad e):
  ∀ (r p acc:LB) (m:Nat),l=p++r->r.length<m->acc.length+r.length<=N->L m acc (p.length:Int)=match dk F r with| .ok l'=>fin (acc++l')| .error e=>bad e:=by
 intro r
 induction r with
 |nil=>
  intro p acc m h hm ha
  obtain ⟨m,rfl,hm'⟩:=aq hm
  rw [dZ] at h
  subst h
  rw [hend m acc (by simpa using ha),dk]
  dsimp only
  rw [dZ]
 |cons x r ih=>
  intro p acc m h hm ha
  obtain ⟨m,rfl,hm'⟩:=aq hm
  rw [cM] at ha hm'
  rw [dk]
  cases hF:F x with
  |error e=>rw [hbad m x p r acc e h (by omega) hF (by omega),cA]
  |ok b=>
   rw [hok m x p r acc b h (by omega) hF,aF,ih (p++[x]) (acc++[b]) m (by rw [h];simp) hm' (by rw [List.length_append,List.length_singleton];omega)]
   cases dk F r with
   |error e=>rfl
   |ok l'=>rw [aF];dsimp only;rw [List.append_assoc];rfl
theorem ako (es:LB): ∀l:LB,gI es l=dk (fun x=>bE (av 0 1 (cJ gP es)) fun u=> .ok ⟨x.face,[oM u [ay x]]⟩) l:=by
 intro l
 induction l with
 |nil=>rfl
 |cons x l ih=>
  rw [gI,dk,ih]
  cases av 0 1 (cJ gP es) with
  |error e=>rfl
  |ok u=>rfl
theorem akq (b:Tm) (sys:LB): ∀l:LB,gn b sys l=dk (fun x=>bE (av 0 1 (k1 x)) fun f=>bE (cj [ay x,b,bt sys] (d6 (ay x) b sys)) fun w=> .ok ⟨x.face,[aD 6 [aD 9 [f],w]]⟩) l:=by
 intro l
 induction l with
 |nil=>rfl
 |cons x l ih=>
  rw [gn,dk,ih]
  cases av 0 1 (k1 x) with
  |error e=>rfl
  |ok u=>
   rw [aF,aF]
   cases cj [ay x,b,bt sys] (d6 (ay x) b sys) with
   |error e=>rfl
   |ok w=>rfl

structure ElimP (k:Nat) (t:Tm) (f b line:Tm) (l:LB) (y:Tm):Prop where
 so:cE [(lL t).kids.getD 0 aH,(lL t).kids.getD 1 aH,bt (lL t).sys]=0
 fill:d6 ((lL t).kids.getD 0 aH) ((lL t).kids.getD 1 aH) (lL t).sys= .ok f
 up:av 0 1 (t.kids.getD 0 aH)= .ok b
 plug:jY 0 b f= .ok line
 brs:Qo t.kind b (FL t) (lL t).sys= .ok l
 so2:cE [line,E4 t.kind (t.kids.getD 0 aH) (FL t) ((lL t).kids.getD 1 aH),bt l]=0
 comp:g9 line (E4 t.kind (t.kids.getD 0 aH) (FL t) ((lL t).kids.getD 1 aH)) l= .ok y
 fy:ck y=0
 ff:Fm f
 fb:Fm b
 fl:Fm line
 fa:Fm (E4 t.kind (t.kids.getD 0 aH) (FL t) ((lL t).kids.getD 1 aH))
 fw:Fm (bt l)
 bs:l.map (·.face)=(lL t).sys.map (·.face)
 yin:In k y
theorem M5 (hk:F3 k) {kd:Int} {x:Except Int Tm} (hx:Gd x) (Y:Tm->OS S):ee k kd (rE x) Y=Y (rE (bE x fun a=> .ok (aD kd [a]))):=by
 have hfu:4294968296<=k:=hk
 simp only [ee,al hk.fu,aA,rq,Bp]
 have:=KJ hk.fu Y (kd:=kd) (l:=[rE x]) (by simp) [rE x] [] k rfl (by grind)
 refine ak this ?_
 congr 1
 rw [List.find?_cons]
 cases x with
 |error e=>rw [show rE (.error e)=bD e from rfl,fj (hx.en e rfl).1];rfl
 |ok a=>rw [show rE (.ok a)=a from rfl,decide_eq_false (by have:=hx.kd a rfl;omega)];rfl
theorem tg (hk:F3 k) {kd:Int} {a:Tm} (ha:0<=a.kind) (Y:Tm->OS S):ee k kd a Y=Y (aD kd [a]):=M5 hk (x:= .ok a) (h9 ha) Y
theorem wJ (hk:F3 k) {kd:Int} {a b:Tm} (ha:0<=a.kind) (hb:0<=b.kind) (Y:Tm->OS S):cG k kd a b Y=Y (aD kd [a,b]):=jy hk (x:= .ok a) (y:= .ok b) (h9 ha) (h9 hb) Y
theorem Ba (hk:F3 k) {kd n:Int} {nm:BA} {r:LC} {ks:LT} {acc:LB} (hkd:0<=kd) (hacc:acc.length<1073741824) {f:LC} {y:Tm} (hy:0<=y.kind) (Y:Tm->OS S):
  eU k (.mk kd n nm r ks acc) f y Y=Y (.mk kd n nm r ks (acc++[.mk f [y]])):=qx hk hkd hacc (x:= .ok y) (h9 hy) Y
theorem GX (hk:F3 k) {a:Tm} (ha:0<=a.kind) (es:LB) (Y:Tm->OS S):ug k a es Y=Y (cJ a es):=by
 simp only [ug,al hk.fu,aA,tg hk ha]
 rfl
theorem ar3 (hk:F3 k) {t a:Tm} (ht:0<=t.kind) (ha:0<=a.kind) (sys:LB) (Y:Tm->OS S):EB k t a sys Y=Y (.mk 15 0 au [] [t,a] sys):=by
 simp only [EB,al hk.fu,aA,wJ hk ht ha]
 rfl
theorem amZ (hk:F3 k) (Y:LB->OS S) {g:Tm} (hx: ∀b∈g.sys,b.kids=[ay b,k1 b]) (hl:g.sys.length<=20000):
  ∀ (r p acc:LB) (m:Nat),g.sys=p++r->r.length<m->acc.length+r.length<=20000->
   vC k Y g m acc (p.length:Int)=Y (acc++r.map fun x=>⟨x.face,[k1 x]⟩):=by
 intro r
 induction r with
 |nil=>
  intro p acc m h hm ha
  obtain ⟨m,rfl,hm'⟩:=aq hm
  grind [vC,CS,ah]
 |cons x r ih=>
  intro p acc m h hm ha
  obtain ⟨m,rfl,hm'⟩:=aq hm
  obtain ⟨e1,e2,e3,e4⟩:=aR h (by omega)
  rw [cM] at ha
  have g1:ai x.kids 1=some (k1 x):=dw (n:=1) rfl (by grind)
  simp only [vC,CS,e1,aj,e2,aJ,g1,aA,e3]
  grind [bn]
theorem an_ {f:Br Tm->Br Tm}: ∀l:LB,dk (fun x=> .ok (f x)) l= .ok (l.map f):=by
 intro l
 induction l<;>grind [dk,aF]
section
variable {t g b a:Tm}
theorem asn {es:LB} {u w:Tm} (h:av 0 1 (cJ gP es)= .ok u):oM u [w]=cJ w u.sys:=by
 obtain ⟨a',es',rfl⟩:=atx h
 rfl
theorem am9 (hk:F3 k) (Y:Tm->OS S) (fb:Fm b) (hx: ∀b∈g.sys,b.kids=[ay b,k1 b]/\Fm (ay b)) (hl:g.sys.length<=20000) (H:Tm):p7 k Y t g b k (aD 17 [H]) 0=Y (.mk 17 0 au [] [H] (kJ b t.sys g.sys)):=by
 have hfu:4294968296<=k:=hk
 have key:=uo (S:=S) (l:=g.sys) (N:=20000) (L:=fun m acc i=>p7 k Y t g b m (.mk 17 0 au [] [H] acc) i) (fin:=fun acc=>Y (.mk 17 0 au [] [H] acc)) (bad:=fun e=>Y (bD e)) (F:=fun x=> .ok ⟨x.face,[.mk 15 0 au [] [ay x,b] t.sys]⟩)
  (fun m acc _=>by
   grind [p7,CR,ah,aA])
  (fun m x p r acc y h hacc hy=>by
   obtain ⟨e1,e2,e3,_⟩:=aR h (by omega)
   obtain ⟨q1,q2⟩:=hx x (by grind)
   have hg:ai x.kids 0=some (ay x):=dw (n:=0) rfl (by grind)
   injection hy with hy;subst hy
   simp only [p7,CR,e1,aj,e2,aJ,hg,al hk.fu,aA,ar3 hk q2.kd0 fb.kd0,e3]
   rw [show decide ((Tm.mk 17 0 au [] [H] acc).kind>=0)=true from rfl,aj,Ba hk (by omega) (by omega) (by show (0:Int)<=15;omega)])
  (fun m x p r acc e h hacc hy hm=>by cases hy)
  g.sys [] [] k rfl (by omega) (by grind)
 refine key.trans ?_
 rw [an_];rfl
theorem am8 (hk:F3 k) (Y:Tm->OS S) (ft:Fm t) (fb:Fm b) (hx: ∀b∈g.sys,b.kids=[ay b,k1 b]/\Fm (ay b)/\Fm (k1 b)/\RX true b.face) (hl:g.sys.length<=20000) {A:Tm} {l1:LB} (h1:l1.length<=20000):
  om k Y t g b k (.mk 15 0 au [] [A,cJ b (bU g)] l1) 0=Y (rE (bE (gn b t.sys g.sys) fun l2=> .ok (.mk 17 0 au [] [.mk 15 0 au [] [A,cJ b (bU g)] (l1++l2)] (kJ b t.sys g.sys)))):=by
 have hfu:4294968296<=k:=hk
 have hwx:=Hm hk ft
 have hend:=fun acc=>am9 (S:=S) (k:=k) (t:=t) (g:=g) (b:=b) hk Y fb (fun b hb=>⟨(hx b hb).1,(hx b hb).2.1⟩) hl (Tm.mk 15 0 au [] [A,cJ b (bU g)] acc)
 have key:=uo (S:=S) (l:=g.sys) (N:=40000) (L:=fun m acc i=>om k Y t g b m (.mk 15 0 au [] [A,cJ b (bU g)] acc) i) (fin:=fun acc=>Y (.mk 17 0 au [] [.mk 15 0 au [] [A,cJ b (bU g)] acc] (kJ b t.sys g.sys))) (bad:=fun e=>Y (bD e)) (F:=fun x=>bE (av 0 1 (k1 x)) fun f=>bE (cj [ay x,b,bt t.sys] (d6 (ay x) b t.sys)) fun w=> .ok ⟨x.face,[aD 6 [aD 9 [f],w]]⟩)
  (fun m acc hacc=>by
   have:=cV (l:=g.sys) (p:=g.sys) (by simp)
   simp only [om,tC,this,ah,al hk.fu,aA,tg hk (a:=Tm.mk 15 0 au [] [A,cJ b (bU g)] acc) (by show (0:Int)<=15;omega)]
   grind)
  (fun m x p r acc y h hacc hy=>by
   obtain ⟨e1,e2,e3,_⟩:=aR h (by omega)
   obtain ⟨q1,q2,q3,q4⟩:=hx x (by grind)
   have hg0:ai x.kids 0=some (ay x):=dw (n:=0) rfl (by grind)
   have hg1:ai x.kids 1=some (k1 x):=dw (n:=1) rfl (by grind)
   obtain ⟨f,g1,hy⟩:=aY hy
   obtain ⟨w,g2,hy⟩:=aY hy
   injection hy with hy;subst hy
   have ff:=dK (by omega) q3 g1
   obtain ⟨so,fw,hfe⟩:=qB g2
   have hwk:=(uB hk (tk q2.ok fb.ok hwx.1 so).1 fb (kX (tk q2.ok fb.ok hwx.1 so).2.2) hfe).2
   simp only [om,tC,e1,aj,e2,aJ,hg0,hg1,al hk.fu,aA,e3]
   rw [show decide ((Tm.mk 15 0 au [] [A,cJ b (bU g)] acc).kind>=0)=true from rfl,aj,fq hk q3 (by omega) (by omega),g1,show rE (.ok f)=f from rfl]
   simp only [Ez,al hk.fu,aA,tg hk ff.kd0]
   rw [show decide ((aD 9 [f]).kind<0)=false from rfl,ah,M4 hk (q2.isIn hk) (fb.isIn hk) hwx,g2,show (tE (.ok w)).2=0 from rfl,show (tE (.ok w)).1=w from rfl,show (!((0:Int)==0))=false from rfl,ah,wJ hk (by show (0:Int)<=9;omega) hwk,Ba hk (by omega) (by omega) (by show (0:Int)<=6;omega)])
  (fun m x p r acc e h hacc hy hm=>by
   obtain ⟨e1,e2,e3,_⟩:=aR h (by omega)
   obtain ⟨q1,q2,q3,q4⟩:=hx x (by grind)
   have hg0:ai x.kids 0=some (ay x):=dw (n:=0) rfl (by grind)
   have hg1:ai x.kids 1=some (k1 x):=dw (n:=1) rfl (by grind)
   simp only [om,tC,e1,aj,e2,aJ,hg0,hg1,al hk.fu,aA,e3]
   rw [show decide ((Tm.mk 15 0 au [] [A,cJ b (bU g)] acc).kind>=0)=true from rfl,aj,fq hk q3 (by omega) (by omega)]
   simp only [Ez,al hk.fu,aA,M5 hk (cP q3)]
   rcases ba hy with hy|⟨f,g1,hy⟩
   ·grind [bN,cA,rE,fj,aj]
   rcases ba hy with hy|⟨_,_,hy⟩
   ·have he:=j_ (fun e h=>mD h) hy
    have ff:=dK (by omega) q3 g1
    rw [g1,aF,show rE (.ok (aD 9 [f]))=aD 9 [f] from rfl,show decide ((aD 9 [f]).kind<0)=false from rfl,ah,M4 hk (q2.isIn hk) (fb.isIn hk) hwx,hy,show (tE (.error e)).2=e from rfl,dT (show e≠0 by omega),ca,aj,jb he];rfl
   grind)
  g.sys [] l1 k rfl (by omega) (by omega)
 refine key.trans ?_
 rw [<-akq]
 cases gn b t.sys g.sys with
 |error e=>rfl
 |ok l2=>rfl
theorem am7 (hk:F3 k) (Y:Tm->OS S) (ft:Fm t) (fg:Fm g) (hg:g.kind=16) (fb:Fm b) (sy: ∀b∈t.sys,b.kids=[ay b]/\Fm (ay b)/\RX true b.face) (syl:t.sys.length<=20000) {A:Tm} (hA:g.kids.getD 0 aH=A):
  pZ k Y t g b (bU g) k (.mk 15 0 au [] [A,cJ b (bU g)] []) 0=Y (rE (bE (gI (bU g) t.sys) fun l1=>bE (gn b t.sys g.sys) fun l2=> .ok (sI g b t.sys l1 l2))):=by
 have hfu:4294968296<=k:=hk
 obtain ⟨hx,hl,_⟩:=fg.gl hg
 have fe:=Fa fg hg
 have key:=uo (S:=S) (l:=t.sys) (N:=20000) (L:=fun m acc i=>pZ k Y t g b (bU g) m (.mk 15 0 au [] [A,cJ b (bU g)] acc) i) (fin:=fun acc=>Y (rE (bE (gn b t.sys g.sys) fun l2=> .ok (.mk 17 0 au [] [.mk 15 0 au [] [A,cJ b (bU g)] (acc++l2)] (kJ b t.sys g.sys))))) (bad:=fun e=>Y (bD e)) (F:=fun x=>bE (av 0 1 (cJ gP (bU g))) fun u=> .ok ⟨x.face,[oM u [ay x]]⟩)
  (fun m acc hacc=>by
   grind [pZ,tB,ah,aA,am8])
  (fun m x p r acc y h hacc hy=>by
   obtain ⟨e1,e2,e3,_⟩:=aR h (by omega)
   obtain ⟨q1,q2,q3⟩:=sy x (by grind)
   have hg0:ai x.kids 0=some (ay x):=dw (n:=0) rfl (by grind)
   obtain ⟨u,g1,hy⟩:=aY hy
   injection hy with hy;subst hy
   have fu:=dK (by omega) fe g1
   simp only [pZ,tB,e1,aj,e2,aJ,hg0,al hk.fu,aA,e3]
   rw [show decide ((Tm.mk 15 0 au [] [A,cJ b (bU g)] acc).kind>=0)=true from rfl,aj,GX hk (by show (0:Int)<=3;omega),fq hk fe (by omega) (by omega),g1,show rE (.ok u)=u from rfl,decide_eq_false (by have:=fu.kd0;omega),ah,GX hk q2.kd0,Ba hk (by omega) (by omega) (by show (0:Int)<=18;omega),asn g1])
  (fun m x p r acc e h hacc hy hm=>by
   obtain ⟨e1,e2,e3,_⟩:=aR h (by omega)
   simp only [pZ,tB,e1,aj,e2,aJ,al hk.fu,aA,e3]
   rcases ba hy with hy|⟨_,_,hy⟩
   ·have he:=bN hy
    rw [show decide ((Tm.mk 15 0 au [] [A,cJ b (bU g)] acc).kind>=0)=true from rfl,aj,GX hk (by show (0:Int)<=3;omega),fq hk fe (by omega) (by omega),hy,show rE (.error e)=bD e from rfl,fj he.1,aj]
   grind)
  t.sys [] [] k rfl (by omega) (by grind)
 refine key.trans ?_
 rw [<-ako]
 unfold sI
 rw [hA]
 cases gI (bU g) t.sys with
 |error e=>rfl
 |ok l1=>rfl
theorem ar5 (hk:F3 k) (ft:Fm t) (Y:Tm->OS S):EA k t Y=Y (if t.kind=15/\(t.kids.getD 0 aH).kind=16 then rE (oB t) else aH):=by
 have hfu:4294968296<=k:=hk
 simp only [EA,OA,al hk.fu,aA]
 by_cases h15:t.kind=15
 case neg=>rw [beq_false_of_ne h15,ca,aj,if_neg (fun h=>h15 h.1)];rfl
 rw [h15,show (!((15:Int)==15))=false from rfl,ah]
 obtain ⟨g,b,hkd⟩:=ma (jq ft h15 (n:=2) rfl)
 obtain ⟨g0,g1⟩:=pD hkd
 obtain ⟨d0,d1⟩:=iR hkd
 have fg:Fm g:=ft.kid (by grind)
 have fb:Fm b:=ft.kid (by grind)
 obtain ⟨sy,syl⟩:=ft.sy h15
 rw [g0,aJ,d0]
 by_cases h16:g.kind=16
 case neg=>rw [beq_false_of_ne h16,ca,aj,if_neg (fun h=>h16 h.2)];rfl
 rw [h16,show (!((16:Int)==16))=false from rfl,ah,aJ,g1,aJ,if_pos ⟨rfl,rfl⟩]
 obtain ⟨hx,hl,a,hak,fa⟩:=fg.gl h16
 have ga:ai g.kids 0=some a:=dw (n:=0) rfl (by grind)
 have had:g.kids.getD 0 aH=a:=by grind
 have hes: ∀q:LB->OS S,EC k g q=q (bU g):=fun q=>by
  simp only [EC,OB]
  exact amZ hk q (fun b hb=>(hx b hb).1) hl g.sys [] [] k rfl (by omega) (by grind)
 rw [hes,ga,aJ,GX hk fb.kd0,wJ hk fa.kd0 (by show (0:Int)<=18;omega)]
 refine (am7 hk Y ft fg h16 fb sy syl had).trans ?_
 grind [oB]
theorem akn (fg:Fm g) (hg:g.kind=16): ∀ {l l':LB},(∀b∈l,b.kids=[ay b]/\Fm (ay b)/\RX true b.face)->gI (bU g) l= .ok l'->g5 50000 l'/\l'.length=l.length:=by
 intro l
 induction l with
 |nil=>grind [gI,re]
 |cons x l ih=>
  intro l' hx h
  rw [gI] at h
  obtain ⟨u,g1,h⟩:=aY h
  obtain ⟨m,g2,h⟩:=aY h
  injection h with h;subst h
  obtain ⟨i1,i2⟩:=ih (fun b hb=>hx b (by simp [hb])) g2
  obtain ⟨q1,q2,q3⟩:=hx x (by simp)
  have:=Nh (u:=u) (.inl (dK (by omega) (Fa fg hg) g1)) q2
  grind [rd,kQ]
theorem akp (hk:F3 k) (ft:Fm t) (fb:Fm b): ∀ {l l':LB},(∀b∈l,b.kids=[ay b,k1 b]/\Fm (ay b)/\Fm (k1 b)/\RX true b.face)->gn b t.sys l= .ok l'->g5 500000 l'/\l'.length=l.length:=by
 intro l
 induction l with
 |nil=>grind [gn,re]
 |cons x l ih=>
  intro l' hx h
  rw [gn] at h
  obtain ⟨f,g1,h⟩:=aY h
  obtain ⟨w,g2,h⟩:=aY h
  obtain ⟨m,g3,h⟩:=aY h
  injection h with h;subst h
  obtain ⟨i1,i2⟩:=ih (fun b hb=>hx b (by simp [hb])) g3
  obtain ⟨q1,q2,q3,q4⟩:=hx x (by simp)
  have ff:=dK (by omega) q3 g1
  obtain ⟨so,fw',hfe⟩:=qB g2
  have hwx:=Hm hk ft
  have fw:Fm w:=⟨(uB hk q2 fb (kX (tk q2.ok fb.ok hwx.1 so).2.2) hfe).1.1,fw'⟩
  have q9:=tj (kd:=9) (by omega) (n:=20000) (ks:=[f]) (fun x hx=>by simp at hx;subst hx;exact ⟨ff.sm,by have:=ff.dep;omega⟩) (by simp)
  have q6:=tj (kd:=6) (by omega) (n:=80001) (ks:=[aD 9 [f],w]) (fun x hx=>by
   simp at hx
   rcases hx with rfl|rfl
   ·refine ⟨q9.1, ?_⟩
    unfold aD;rw [aw,a7,a7,bg];have:=ff.dep;omega
   ·exact ⟨fw.sm.mono (by omega),by have:=fw.dep;omega⟩) (by simp)
  exact ⟨rd (kQ q4) (q6.1.mono (by omega)) (by omega) i1,by grind⟩
end
theorem aoj (hk:F3 k) {t y:Tm} (ft:Fm t) (h15:t.kind=15) (h16:(t.kids.getD 0 aH).kind=16) (h:oB t= .ok y):In k y/\y.kind=17:=by
 obtain ⟨g,b,hkd⟩:=ma (jq ft h15 (n:=2) rfl)
 obtain ⟨d0,d1⟩:=iR hkd
 have fg:Fm g:=ft.kid (by grind)
 have fb:Fm b:=ft.kid (by grind)
 obtain ⟨sy,syl⟩:=ft.sy h15
 rw [d0] at h16
 obtain ⟨hx,hl,a,hak,fa⟩:=fg.gl h16
 unfold oB at h
 rw [d0,d1] at h
 obtain ⟨l1,e1,h⟩:=aY h
 obtain ⟨l2,e2,h⟩:=aY h
 injection h with h;subst h
 obtain ⟨b1,n1⟩:=akn fg h16 sy e1
 obtain ⟨b2,n2⟩:=akp hk ft fb hx e2
 exact ⟨TU hk ft fg h16 (by grind) fa fb b1 (by omega) b2 (by omega),rfl⟩
theorem j7 (t:Tm):rE (.ok t)=t:=rfl
theorem ja (e:Int):rE (.error e:Except Int Tm)=bD e:=rfl
theorem C5 {e:Int} (he:0<e):decide ((bD e).kind>=0)=false:=decide_eq_false (by show ¬ (-e>=0);omega)
theorem M3 (hk:F3 k) {x y z:Except Int Tm} (hx:Gd x) (hy:Gd y) (hz:Gd z) (r:LC) (Y:Tm->OS S):y8 k (rE x) (rE y) (rE z) r Y=Y (rE (bE x fun a=>bE y fun b=>bE z fun c=> .ok (jX r a b c))):=by
 simp only [y8,al hk.fu,aA,MT hk hx hy hz]
 cases x with
 |error e=>rw [cA,cA,ja,C5 (hx.en e rfl).1,ah]
 |ok a=>
 cases y with
 |error e=>rw [aF,cA,aF,cA,ja,C5 (hy.en e rfl).1,ah]
 |ok b=>
 cases z with
 |error e=>rw [aF,aF,cA,aF,aF,cA,ja,C5 (hz.en e rfl).1,ah]
 |ok c=>rfl
theorem M6 (hk:F3 k) {kd e:Int} (he:0<e/\e<=1000) (Y:Tm->OS S):ee k kd (bD e) Y=Y (bD e):=M5 hk (x:= .error e) ⟨fun e' h=>by grind,fun t h=>by cases h⟩ Y
theorem Fl {e:Int} (he:0<e/\e<=1000):Gd (.error e:Except Int Tm):=⟨fun e' h=>by grind,fun t h=>by cases h⟩
theorem Yx (hk:F3 k) {kd n:Int} {nm:BA} {r:LC} {ks:LT} {acc:LB} (hkd:0<=kd) (hacc:acc.length<1073741824) {f:LC} {e:Int} (he:0<e/\e<=1000) (Y:Tm->OS S):
  eU k (.mk kd n nm r ks acc) f (bD e) Y=Y (bD e):=qx hk hkd hacc (x:= .error e) (Fl he) Y
theorem GW (hk:F3 k) {kd:Int} {a:Tm} {y:Except Int Tm} (ha:0<=a.kind) (hy:Gd y) (Y:Tm->OS S):cG k kd a (rE y) Y=Y (rE (bE y fun b=> .ok (aD kd [a,b]))):=jy hk (x:= .ok a) (h9 ha) hy Y
theorem M9 (hk:F3 k) {kd:Int} {x:Except Int Tm} {b:Tm} (hx:Gd x) (hb:0<=b.kind) (Y:Tm->OS S):cG k kd (rE x) b Y=Y (rE (bE x fun a=> .ok (aD kd [a,b]))):=jy hk (y:= .ok b) hx (h9 hb) Y
section
variable {k0 a:Tm} {sys:LB}
theorem RG (hk:F3 k) (Y:Tm->OS S) {e:Int} (he:0<e/\e<=1000) {m:Nat} (hm:0<m) (i:Int):oq k Y sys m (bD e) i=Y (bD e):=by
 obtain ⟨m,rfl⟩: ∃q,m=q+1:=⟨m-1,by omega⟩
 grind [oq,tD,ah,aA,YO,C5,al,M6]
theorem arN (hk:F3 k) {p b:Tm} (hkd:k0.kids=[p,b]) (fb:Fm b) (fa:Fm a) (sy: ∀b∈sys,b.kids=[ay b]/\Fm (ay b)/\RX true b.face) (syl:sys.length<=20000) (Y:Tm->OS S):EF k k0 a sys Y=Y (rE (oE b a sys)):=by
 have hfu:4294968296<=k:=hk
 obtain ⟨g0,g1⟩:=pD hkd
 have hV: ∀g:Int×Int×BA->OS S,gV k 0 g=g (1,0,au):=fun g=>rfl
 have hV1:(0:Int)<=(vN 0).kind:=by show (0:Int)<=1;omega
 have hv:(Tm.mk 1 0 au [] [] []:Tm)=vN 0:=rfl
 simp only [EF,OC,g1,aJ,al hk.fu,aA,fq hk fa (show (0:Int)<=1/\(1:Int)<=1000000000 by omega) (show (0:Int)<=0/\(0:Int)<9223372036854775808 by omega),hV,hv]
 rw [M9 hk (cP fa) hV1]
 unfold oE
 cases ha:av 1 0 a with
 |error e=>
  have he:=bN ha
  rw [cA,GW hk fb.kd0 (Fl he),cA,cA,ja]
  grind [RG]
 |ok a'=>
  rw [aF,GW hk fb.kd0 (h9 (t:=aD 6 [a',vN 0]) (show (0:Int)<=6 by omega)),aF,aF,j7]
  have key:=uo (S:=S) (l:=sys) (N:=20000) (L:=fun m acc i=>oq k Y sys m (.mk 15 0 au [] [b,aD 6 [a',vN 0]] acc) i) (fin:=fun acc=>Y (aD 5 [.mk 15 0 au [] [b,aD 6 [a',vN 0]] acc])) (bad:=fun e=>Y (bD e)) (F:=lR)
   (fun m acc hacc=>by
    have:=cV (l:=sys) (p:=sys) (by simp)
    simp only [oq,tD,this,ah,al hk.fu,aA]
    exact tg hk (by show (0:Int)<=15;omega) Y)
   (fun m x p r acc y h hacc hy=>by
    obtain ⟨e1,e2,e3,_⟩:=aR h (by omega)
    obtain ⟨q1,q2,_⟩:=sy x (by grind)
    have hg:ai x.kids 0=some (ay x):=dw (n:=0) rfl (by grind)
    unfold lR at hy
    obtain ⟨u,h1,hy⟩:=aY hy
    injection hy with hy;subst hy
    have fu:=dK (by omega) q2 h1
    simp only [oq,tD,e1,aj,e2,aJ,hg,al hk.fu,aA,e3,hV,hv]
    rw [show decide ((Tm.mk 15 0 au [] [b,aD 6 [a',vN 0]] acc).kind>=0)=true from rfl,aj,fq hk q2 (by omega) (by omega),h1,j7,wJ hk fu.kd0 hV1,Ba hk (y:=aD 6 [u,vN 0]) (by omega) (by omega) (show (0:Int)<=6 by omega)])
   (fun m x p r acc e h hacc hy hm=>by
    obtain ⟨e1,e2,e3,_⟩:=aR h (by omega)
    obtain ⟨q1,q2,_⟩:=sy x (by grind)
    have hg:ai x.kids 0=some (ay x):=dw (n:=0) rfl (by grind)
    unfold lR at hy
    rcases ba hy with hy|⟨_,_,hy⟩
    ·have he:=bN hy
     simp only [oq,tD,e1,aj,e2,aJ,hg,al hk.fu,aA,e3,hV,hv]
     rw [show decide ((Tm.mk 15 0 au [] [b,aD 6 [a',vN 0]] acc).kind>=0)=true from rfl,aj,fq hk q2 (by omega) (by omega),hy,M9 hk (Fl he) hV1,cA,ja,Yx hk (by omega) (by omega) he]
     grind [RG]
    grind)
   sys [] [] k rfl (by omega) (by grind)
  refine key.trans ?_
  cases dk lR sys with
  |error e=>rfl
  |ok l=>rfl
theorem GS (hk:F3 k) {x:Except Int Tm} (hx: ∀e,x= .error e->0<e/\e<=1000) (Y:Tm->OS S):uh k (tE x).1 (tE x).2 Y=Y (rE x):=by
 simp only [uh,al hk.fu,aA]
 cases x with
 |error e=>
  have he:=hx e rfl
  rw [show (tE (.error e)).2=e from rfl,dT (show e≠0 by omega),ca,aj,jb he];rfl
 |ok t=>rfl
theorem arO (hk:F3 k) {kd:Int} (sy: ∀b∈sys,b.kids=[ay b]/\Fm (ay b)) (syl:sys.length<=20000) (Y:LB->OS S):y_ k kd sys Y=Y (parts kd sys):=by
 have hfu:4294968296<=k:=hk
 have key: ∀ (r p acc:LB) (m:Nat),sys=p++r->r.length<m->acc.length+r.length<=20000->vD k Y kd sys m acc (p.length:Int)=Y (acc++parts kd r):=by
  intro r
  induction r with
  |nil=>
   intro p acc m h hm ha
   obtain ⟨m,rfl,hm'⟩:=aq hm
   grind [vD,CT,ah,parts]
  |cons x r ih=>
   intro p acc m h hm ha
   obtain ⟨m,rfl,hm'⟩:=aq hm
   obtain ⟨e1,e2,e3,e4⟩:=aR h (by omega)
   obtain ⟨q1,q2⟩:=sy x (by grind)
   rw [cM] at ha
   have g0:ai x.kids 0=some (ay x):=dw (n:=0) rfl (by grind)
   simp only [vD,CT,e1,aj,e2,aJ,g0,al hk.fu,aA,e3,tg hk q2.kd0]
   rw [bn (by grind),ih (p++[x]) _ m e4 hm' (by grind),List.append_assoc];rfl
 simp only [y_,OD]
 exact (key sys [] [] k rfl (by omega) (by grind)).trans rfl
theorem arM (hk4:F4 k) {p b:Tm} (hkd:k0.kids=[p,b]) (f0:Fm p) (f1:Fm b) (fa:Fm a) (sy: ∀b∈sys,b.kids=[ay b]/\Fm (ay b)/\RX true b.face) (syl:sys.length<=20000) (Y:Tm->OS S):EE k k0 a sys Y=Y (rE (qz p b a sys)):=by
 have hk:=hk4.f3
 obtain ⟨g0,g1⟩:=pD hkd
 have sy': ∀b∈sys,b.kids=[ay b]/\Fm (ay b):=fun b hb=>⟨(sy b hb).1,(sy b hb).2.1⟩
 have p9:=FR hk (kd:=9) (by omega) sy syl
 have p10:=FR hk (kd:=10) (by omega) sy syl
 have i9:In k (aD 9 [a]):=(Bf (kd:=9) (by omega) (.inl fa)).1.isIn hk (by omega)
 have i10:In k (aD 10 [a]):=(Bf (kd:=10) (by omega) (.inl fa)).1.isIn hk (by omega)
 simp only [EE,al hk.fu,aA,arO hk sy' syl,g0,g1,aJ,tg hk fa.kd0,M4 hk (f0.isIn hk) i9 p9,GS hk (fun e h=>j_ (fun e h=>mD h) h)]
 unfold qz
 cases q1:cj [p,aD 9 [a],bt (parts 9 sys)] (d6 p (aD 9 [a]) (parts 9 sys)) with
 |error e=>
  have he:=j_ (fun e h=>mD h) q1
  grind [ja,fj,aj,cA]
 |ok f=>
 have ff:=J_ hk (f0.isIn hk) i9 p9 q1
 rw [j7,decide_eq_false (by have:=ff.kd0;omega),ah,aF]
 simp only [Jt,al hk.fu,aA]
 rw [decide_eq_false (by have:=f1.kd0;omega),ah,fq hk f1 (by omega) (by omega)]
 cases q2:av 0 1 b with
 |error e=>
  grind [bN,yS,aA,ja,fj,aj,cA]
 |ok b'=>
 have fb:=dK (by omega) f1 q2
 rw [j7,aF,arI hk4 fb ff (by omega)]
 cases q3:jY 0 b' f with
 |error e=>
  grind [FX,ja,fj,aj,cA]
 |ok line=>
 have fl:=Uj (by omega) fb ff q3
 rw [j7,decide_eq_false (by have:=fl.kd0;omega),ah,aF,wJ hk (b:=aD 9 [a]) f0.kd0 (show (0:Int)<=9 by omega),ar1 hk (fl.isIn hk) i10 p10,GS hk (fun e h=>j_ (fun e h=>tL h) h)]
 have h15:(0:Int)<=(Tm.mk (aD 15 [p,aD 9 [a]]).kind (aD 15 [p,aD 9 [a]]).n (aD 15 [p,aD 9 [a]]).name (aD 15 [p,aD 9 [a]]).r (aD 15 [p,aD 9 [a]]).kids (parts 9 sys)).kind:=by show (0:Int)<=15;omega
 have gC:Gd (cj [line,aD 10 [a],bt (parts 10 sys)] (g9 line (aD 10 [a]) (parts 10 sys))):=⟨fun e h=>j_ (fun e h=>tL h) h,fun t h=>by
  obtain ⟨so,ft,hx⟩:=qB h
  obtain ⟨c1,c2,c3⟩:=tk fl.ok i10.1 p10.1 so
  exact (Dc hk c1 c2 (kX c3) hx).2⟩
 rw [GW hk h15 gC]
 rfl
theorem RI (hk:F3 k) (Y:Tm->OS S) {l r:Tm} {e:Int} (he:0<e/\e<=1000) {m:Nat} (hm:0<m) (i:Int):ot k Y l r sys m (bD e) i=Y (bD e):=by
 obtain ⟨m,rfl⟩: ∃q,m=q+1:=⟨m-1,by omega⟩
 grind [ot,tF,ah,aj,aA,YO,fj]
theorem arP (hk:F3 k) {p l r:Tm} (hkd:k0.kids=[p,l,r]) (f0:Fm p) (f1:Fm l) (f2:Fm r) (fa:Fm a) (sy: ∀b∈sys,b.kids=[ay b]/\Fm (ay b)/\RX true b.face) (syl:sys.length<=19000) (Y:Tm->OS S):EG k k0 a sys Y=Y (rE (qj p l r a sys)):=by
 have hfu:4294968296<=k:=hk
 have g0:ai k0.kids 0=some p:=dw (n:=0) rfl (by grind)
 have g1:ai k0.kids 1=some l:=dw (n:=1) rfl (by grind)
 have g2:ai k0.kids 2=some r:=dw (n:=2) rfl (by grind)
 have u1: ∀ {t:Tm} (ft:Fm t) (g:Tm->OS S),cY k t 0 1 g=g (rE (av 0 1 t)):=fun ft g=>fq hk ft (by omega) (by omega) g
 have u2: ∀ {t:Tm} (ft:Fm t) (g:Tm->OS S),cY k t 0 2 g=g (rE (av 0 2 t)):=fun ft g=>fq hk ft (by omega) (by omega) g
 simp only [EG,OE,g0,g1,g2,aJ,al hk.fu,aA,u1 fa,u1 f1,u1 f2]
 rw [M3 hk (cP fa) (cP f1) (cP f2)]
 unfold qj
 generalize hX:(bE (av 0 1 a) fun a=>bE (av 0 1 l) fun b=>bE (av 0 1 r) fun c=>Except.ok (jX [⟨1,0⟩] a b c))=X
 have hR:(bE (av 0 1 a) fun p'=>bE (av 0 1 l) fun lo=>bE (av 0 1 r) fun hi=>bE (dk (iw l r) sys) fun bs=>bE (av 0 2 l) fun l2=>bE (av 0 2 r) fun r2=> .ok (aD 12 [.mk 15 0 au [] [p,jX [⟨1,0⟩] p' lo hi] (bs++[⟨[⟨0,1⟩],[l2]⟩]++[⟨[⟨1,0⟩],[r2]⟩])]))=
   bE X fun y=>bE (dk (iw l r) sys) fun bs=>bE (av 0 2 l) fun l2=>bE (av 0 2 r) fun r2=> .ok (aD 12 [.mk 15 0 au [] [p,y] (bs++[⟨[⟨0,1⟩],[l2]⟩]++[⟨[⟨1,0⟩],[r2]⟩])]):=by
  rw [<-hX]
  cases av 0 1 a<;>cases av 0 1 l<;>cases av 0 1 r<;>rfl
 rw [hR]
 have gX:Gd X:=by
  rw [<-hX]
  exact dU (cP fa) fun _ _=>dU (cP f1) fun _ _=>dU (cP f2) fun c _=>h9 (t:=jX [⟨1,0⟩] _ _ c) (show (0:Int)<=13 by omega)
 rw [GW hk f0.kd0 gX]
 cases X with
 |error e=>
  have he:=gX.en e rfl
  grind [cA,ja,RI]
 |ok y=>
  rw [aF,aF,j7]
  have key:=uo (S:=S) (l:=sys) (N:=20000) (L:=fun m acc i=>ot k Y l r sys m (.mk 15 0 au [] [p,y] acc) i) (fin:=fun acc=>Y (rE (bE (av 0 2 l) fun l2=>bE (av 0 2 r) fun r2=> .ok (aD 12 [.mk 15 0 au [] [p,y] (acc++[⟨[⟨0,1⟩],[l2]⟩]++[⟨[⟨1,0⟩],[r2]⟩])])))) (bad:=fun e=>Y (bD e)) (F:=iw l r)
   (fun m acc hacc=>by
    have:=cV (l:=sys) (p:=sys) (by simp)
    simp only [ot,tF,this,ah,al hk.fu,aA,u2 f1,u2 f2]
    rw [show decide ((Tm.mk 15 0 au [] [p,y] acc).kind<0)=false from rfl,ah,qx hk (by omega) (by omega) (cP f1)]
    cases h1:av 0 2 l with
    |error e=>
     grind [bN,cA,ja,IB,M6]
    |ok l2=>
     rw [aF,aF,j7,qx hk (by omega) (by grind) (cP f2)]
     cases h2:av 0 2 r with
     |error e=>grind [cA,ja,M6,bN]
     |ok r2=>
      rw [aF,aF,j7]
      exact tg hk (by show (0:Int)<=15;omega) _)
   (fun m x q s acc b h hacc hb=>by
    obtain ⟨e1,e2,e3,_⟩:=aR h (by omega)
    obtain ⟨q1,q2,q3⟩:=sy x (by grind)
    have hg:ai x.kids 0=some (ay x):=dw (n:=0) rfl (by grind)
    unfold iw at hb
    obtain ⟨f,h1,hb⟩:=aY hb
    obtain ⟨u,h2,hb⟩:=aY hb
    obtain ⟨lo,h3,hb⟩:=aY hb
    obtain ⟨hi,h4,hb⟩:=aY hb
    injection hb with hb;subst hb
    obtain ⟨z0,rfl⟩:=qF h1
    simp only [ot,tF,e1,aj,e2,aJ,hg,al hk.fu,aA,e3,u2 f1,u2 f2]
    rw [show decide ((Tm.mk 15 0 au [] [p,y] acc).kind>=0)=true from rfl,aj,wI hk.fu q3.1.2 (kQ q3).2 (by unfold a6;omega) (by unfold a6;omega),z0,show (!((0:Int)==0))=false from rfl,ah,Yt hk q2,M3 hk (Fo q2) (cP f1) (cP f2),h2,h3,h4]
    exact Ba hk (y:=jX [⟨2,0⟩] u lo hi) (by omega) (by omega) (show (0:Int)<=13 by omega) _)
   (fun m x q s acc e h hacc hb hm=>by
    obtain ⟨e1,e2,e3,_⟩:=aR h (by omega)
    obtain ⟨q1,q2,q3⟩:=sy x (by grind)
    have hg:ai x.kids 0=some (ay x):=dw (n:=0) rfl (by grind)
    have he:=FT hb
    simp only [ot,tF,e1,aj,e2,aJ,hg,al hk.fu,aA,e3,u2 f1,u2 f2]
    rw [show decide ((Tm.mk 15 0 au [] [p,y] acc).kind>=0)=true from rfl,aj,wI hk.fu q3.1.2 (kQ q3).2 (by unfold a6;omega) (by unfold a6;omega)]
    unfold iw at hb
    by_cases z0:(bP x.face 0 1).2=0
    case neg=>
     rw [kg z0,cA] at hb
     injection hb with hb;subst hb
     rw [dT z0,ca,aj,jb he];rfl
    rw [kV z0,aF] at hb
    rw [z0,show (!((0:Int)==0))=false from rfl,ah,Yt hk q2,M3 hk (Fo q2) (cP f1) (cP f2)]
    have hbad:(bE (bJ 0 1 0 1 (ay x)) fun a=>bE (av 0 2 l) fun b=>bE (av 0 2 r) fun c=>Except.ok (jX [⟨2,0⟩] a b c))= .error e:=by
     rcases ba hb with hb|⟨_,z1,hb⟩
     ·rw [hb];rfl
     rcases ba hb with hb|⟨_,z2,hb⟩
     ·rw [z1,hb];rfl
     rcases ba hb with hb|⟨_,z3,hb⟩
     ·rw [z1,z2,hb];rfl
     grind
    grind [ja,Yx,RI])
   sys [] [] k rfl (by omega) (by grind)
  refine key.trans ?_
  cases dk (iw l r) sys with
  |error e=>rfl
  |ok bs=>rfl
theorem ar6 (hk:F3 k) {kd:Int} {a:Tm} (ha:0<=a.kind) (Y:Pan Tm (Int×Int×BA×LT)->OS S):Ev k kd a Y=Y (.ok (kd,0,au,[a])):=by
 have hfu:4294968296<=k:=hk
 obtain ⟨q,rfl⟩: ∃q,k=q+2:=⟨k-2,by omega⟩
 have w:af .i64 ((0:Int)+1)=1:=by decide
 simp only [Ev,al hk.fu,aA,Jr,Oy,FE,IP]
 rw [show decide ((0:Int)<(([a]:LT).length:Int))=true from rfl,aj,show ai [a] 0=some a from rfl,aJ,decide_eq_false (by omega),ah,w,show decide ((1:Int)<(([a]:LT).length:Int))=false from rfl,ah];rfl
theorem arQ (hk:F3 k) (fa:Fm a) (za:ax a<=150) (sy: ∀b∈sys,b.kids=[ay b]/\Fm (ay b)/\RX true b.face) (zs: ∀b∈sys,ax (ay b)<=150) (syl:sys.length<=20000) (Y:Tm->OS S):EH k a sys Y=Y (rE (qH a sys)):=by
 have hfu:4294968296<=k:=hk
 obtain ⟨q,hq⟩: ∃q,k=q+100:=⟨k-100,by omega⟩
 have hid: ∀g:Tm->OS S,Jq k g=g rJ:=fun g=>by rw [hq];rfl
 simp only [EH,OF,al hk.fu,aA,ar6 hk fa.kd0]
 have key:=uo (S:=S) (l:=sys) (N:=20000) (L:=fun m acc i=>sq k Y a (16,0,au,[a]) sys m acc i) (fin:=fun acc=>Y (.mk 16 0 au [] [a] acc)) (bad:=fun e=>Y (bD e)) (F:=jz a)
  (fun m acc hacc=>by
   grind [sq,xW,ah])
  (fun m x p r acc y h hacc hy=>by
   obtain ⟨e1,e2,e3,_⟩:=aR h (by omega)
   have hx:x∈sys:=by grind
   obtain ⟨q1,q2,_⟩:=sy x hx
   have hg:ai x.kids 0=some (ay x):=dw (n:=0) rfl (by grind)
   unfold jz at hy
   obtain ⟨en,h1,hy⟩:=aY hy
   obtain ⟨a',h2,hy⟩:=aY hy
   obtain ⟨ln,h3,hy⟩:=aY hy
   injection hy with hy;subst hy
   have fe:0<=en.kind:=by rw [Ha h1];exact q2.kd0
   have fa':=dK (by omega) fa h2
   have za':ax a'<=150:=((zq fa za).up (by omega) h2).2.2.2
   have fl:=J9 q2 fa' (zs x hx) za' h3
   simp only [sq,xW,e1,aj,e2,aJ,hg,al hk.fu,aA,e3,hid]
   rw [show decide ((16:Int)>=0)=true from rfl,aj,GP hk q2 (by omega) A3,h1,j7,decide_eq_false (by omega),ah,fq hk fa (by omega) (by omega),h2,j7,decide_eq_false (by have:=fa'.kd0;omega),ah,YB hk (q2.isIn hk) (fa'.isIn hk) (zs x hx) za',GS hk (fun e h=>j_ (fun e h=>E9 h) h),h3,j7,wJ hk fl.kd0 id_fm.kd0,show decide ((aD 14 [ln,rJ]).kind<0)=false from rfl,ah,bn (by grind)])
  (fun m x p r acc e h hacc hy hm=>by
   obtain ⟨e1,e2,e3,_⟩:=aR h (by omega)
   have hx:x∈sys:=by grind
   obtain ⟨q1,q2,_⟩:=sy x hx
   have hg:ai x.kids 0=some (ay x):=dw (n:=0) rfl (by grind)
   have he:=Hg hy
   unfold jz at hy
   simp only [sq,xW,e1,aj,e2,aJ,hg,al hk.fu,aA,e3,hid]
   rw [show decide ((16:Int)>=0)=true from rfl,aj,GP hk q2 (by omega) A3]
   cases h1:dY 0 [⟨0,0⟩] (ay x) with
   |error e'=>
    grind [cA,ja,fj,aj]
   |ok en=>
   rw [h1,aF] at hy
   have fe:0<=en.kind:=by rw [Ha h1];exact q2.kd0
   rw [j7,decide_eq_false (by omega),ah,fq hk fa (by omega) (by omega)]
   cases h2:av 0 1 a with
   |error e'=>
    grind [cA,ja,fj,aj]
   |ok a'=>
   rw [h2,aF] at hy
   have fa':=dK (by omega) fa h2
   have za':ax a'<=150:=((zq fa za).up (by omega) h2).2.2.2
   rw [j7,decide_eq_false (by have:=fa'.kd0;omega),ah,YB hk (q2.isIn hk) (fa'.isIn hk) (zs x hx) za',GS hk (fun e h=>j_ (fun e h=>E9 h) h)]
   rcases ba hy with hy|⟨_,_,hy⟩
   ·rw [hy,M9 hk (Fl he) id_fm.kd0,cA,ja,fj he.1,aj]
   grind)
  sys [] [] k rfl (by omega) (by grind)
 refine key.trans ?_
 unfold qH
 cases dk (jz a) sys with
 |error e=>rfl
 |ok bs=>rfl
end
set_option maxRecDepth 100000
theorem atL {S:Type} (q:Nat) (Y:Bool->OS S):yB (q+400) Y=Y true:=by kernel_rfl
theorem ash (hk:F3 k) (Y:Bool->OS S):yB k Y=Y true:=by
 have hk:4294968296<=k:=hk
 obtain ⟨q,rfl⟩: ∃q,k=q+400:=⟨k-400,by omega⟩
 exact atL q Y
theorem ari (hk:F3 k) {t:Tm} (ht:In k t) (Y:Bool->OS S): ∃c,DU k t Y=Y c/\(c=false->ax t<=100):=by
 simp only [DU,aA]
 obtain ⟨w,h1,h2,h3,h4⟩:=ar0 t ht.1 100 (by unfold Mo;omega) (fun r1=>Y (decide (r1>100))) ht.2.1
 grind
theorem Y_ {t:Tm} (h:t.kids.length=3): ∃a b c,t.kids=[a,b,c]:=by
 match hk:t.kids,h with
 |[a,b,c],_=>simp
structure HcK (t k0 a:Tm):Prop where
 kids:t.kids=[k0,a]
 fk:Fm k0
 fa:Fm a
 za:ax a<=150
 sy: ∀b∈t.sys,b.kids=[ay b]/\Fm (ay b)/\RX true b.face
 zs: ∀b∈t.sys,ax (ay b)<=150
 syl:t.sys.length<=19000
theorem QY {t:Tm} (ft:Fm t) (h15:t.kind=15) (hz:ax t<=150): ∃k0 a,HcK t k0 a:=by
 obtain ⟨k0,a,hkd⟩:=ma (jq ft h15 (n:=2) rfl)
 obtain ⟨sy,syl⟩:=ft.sy h15
 refine ⟨k0,a,hkd,ft.kid (by grind),ft.kid (by grind),er (YQ (t:=t) (by grind)) hz,sy,fun b hb=> ?_, ?_⟩
 ·have h1:=ti hb
  have h2:ay b∈b.kids:=by grind
  have h3:=kS h2
  grind [m_]
 ·have h4:=m_ t
  have: ∀ {l:LB},(∀b∈l,b.kids=[ay b])->l.length<=aX l:=by
   intro l
   induction l with
   |nil=>simp
   |cons b l ih=>
    intro hl
    have:=ih fun b hb=>hl b (by simp [hb])
    have hb:=hl b (by simp)
    obtain ⟨f,ks⟩:=b
    grind [aX,g4,aK,l7]
  grind
theorem akh {t:Tm} {e:Int} (h:nV t= .error e):0<e/\e<=1000:=by
 unfold nV at h
 dsimp only at h
 split at h
 ·exact Uh h
 split at h
 ·exact asr h
 split at h
 ·exact apd h
 split at h
 ·exact atl h
 ·exact aoi h
theorem QZ (hk4:F4 k) {t y:Tm} (ft:Fm t) (h15:t.kind=15) (hz:ax t<=150) (hc:(t.kids.getD 0 aH).kind=4\/(t.kids.getD 0 aH).kind=7\/(t.kids.getD 0 aH).kind=11\/(t.kids.getD 0 aH).kind=3\/(t.kids.getD 0 aH).kind=16) (h:nV t= .ok y):In k y/\0<y.kind:=by
 have hk:=hk4.f3
 obtain ⟨k0,a,hx⟩:=QY ft h15 hz
 obtain ⟨d0,d1⟩:=iR hx.kids
 have fk:=hx.fk
 have ea:Tm.mk a.kind a.n a.name a.r a.kids a.sys=a:=by cases a;rfl
 have fa':Fm (Tm.mk a.kind a.n a.name a.r a.kids a.sys):=by rw [ea];exact hx.fa
 unfold nV at h
 rw [d0,d1] at h
 rw [d0] at hc
 dsimp only at h
 split at h
 ·rename_i h4
  obtain ⟨p,b,hb⟩:=ma (jq fk h4 (n:=2) rfl)
  obtain ⟨w1,i1,i2,i3,i4,i5⟩:=Yh (S:=Unit) hk hb (fk.kid (by grind)) fa' hx.sy (by have:=hx.syl;omega) (fun _=>none)
  rw [ea,<-(iR hb).2] at i4
  obtain ⟨rfl,_⟩:=i4 y h
  exact ⟨i3,show (0:Int)<5 by omega⟩
 split at h
 ·rename_i _ h7
  obtain ⟨p,b,hb⟩:=ma (jq fk h7 (n:=2) rfl)
  obtain ⟨w1,i1,i2,i3,i4,i5⟩:=Yi (S:=Unit) hk4 hb (fk.kid (by grind)) (fk.kid (by grind)) fa' hx.sy (by have:=hx.syl;omega) (fun _=>none)
  rw [(iR hb).2,(iR hb).1] at h
  rw [ea] at i4
  obtain ⟨rfl,_⟩:=i4 y h
  exact ⟨i3,show (0:Int)<8 by omega⟩
 split at h
 ·rename_i _ _ h11
  obtain ⟨p,l,r,hb⟩:=Y_ (jq fk h11 (n:=3) rfl)
  obtain ⟨w1,i1,i2,i3,i4,i5⟩:=Yg (S:=Unit) hk hb (fk.kid (by grind)) (fk.kid (by grind)) (fk.kid (by grind)) fa' hx.sy hx.syl (fun _=>none)
  rw [hb] at h
  rw [ea] at i4
  obtain ⟨rfl,_⟩:=i4 y h
  exact ⟨i3,show (0:Int)<12 by omega⟩
 split at h
 ·obtain ⟨w1,i1,i2,i3,i4,i5⟩:=Yj (S:=Unit) hk fa' (by rw [ea];exact hx.za) hx.sy hx.zs (by have:=hx.syl;omega) (fun _=>none)
  rw [ea] at i4 i3
  obtain ⟨rfl,_⟩:=i4 y h
  exact ⟨i3,show (0:Int)<16 by omega⟩
 grind [aoj]
theorem arL (hk4:F4 k) {t:Tm} (ft:Fm t) (hz:ax t<=150) (Y:Tm->OS S):ED k t Y=Y (if t.kind=15/\((t.kids.getD 0 aH).kind=4\/(t.kids.getD 0 aH).kind=7\/(t.kids.getD 0 aH).kind=11\/(t.kids.getD 0 aH).kind=3\/(t.kids.getD 0 aH).kind=16) then rE (nV t) else aH):=by
 have hk:=hk4.f3
 simp only [ED,al hk.fu,aA]
 by_cases h15:t.kind=15
 case neg=>rw [beq_false_of_ne h15,ca,aj,if_neg (fun h=>h15 h.1)];rfl
 obtain ⟨k0,a,hx⟩:=QY ft h15 hz
 obtain ⟨g0,g1⟩:=pD hx.kids
 obtain ⟨d0,d1⟩:=iR hx.kids
 have fk:=hx.fk
 rw [h15,show (!((15:Int)==15))=false from rfl,ah,g0,aJ,g1,d0]
 unfold nV
 rw [d0,d1]
 dsimp only
 by_cases h4:k0.kind=4
 ·obtain ⟨p,b,hb⟩:=ma (jq fk h4 (n:=2) rfl)
  rw [if_pos ⟨rfl,.inl h4⟩,if_pos h4,h4,show ((4:Int)==4)=true from rfl,aj,aJ,arN hk hb (fk.kid (by grind)) hx.fa hx.sy (by have:=hx.syl;omega),(iR hb).2]
 rw [if_neg h4,beq_false_of_ne h4,ah]
 by_cases h7:k0.kind=7
 ·obtain ⟨p,b,hb⟩:=ma (jq fk h7 (n:=2) rfl)
  rw [if_pos ⟨rfl,.inr (.inl h7)⟩,if_pos h7,h7,show ((7:Int)==7)=true from rfl,aj,aJ,arM hk4 hb (fk.kid (by grind)) (fk.kid (by grind)) hx.fa hx.sy (by have:=hx.syl;omega),(iR hb).2,(iR hb).1]
 rw [if_neg h7,beq_false_of_ne h7,ah]
 by_cases h11:k0.kind=11
 ·obtain ⟨p,l,r,hb⟩:=Y_ (jq fk h11 (n:=3) rfl)
  rw [if_pos ⟨rfl,.inr (.inr (.inl h11))⟩,if_pos h11,h11,show ((11:Int)==11)=true from rfl,aj,aJ,arP hk hb (fk.kid (by grind)) (fk.kid (by grind)) (fk.kid (by grind)) hx.fa hx.sy hx.syl,hb]
  rfl
 rw [if_neg h11,beq_false_of_ne h11,ah]
 by_cases h3:k0.kind=3
 ·rw [if_pos ⟨rfl,.inr (.inr (.inr (.inl h3)))⟩,if_pos h3,h3,show ((3:Int)==3)=true from rfl,aj,aJ,arQ hk hx.fa hx.za hx.sy hx.zs (by have:=hx.syl;omega)]
 grind [ah,ar5]
theorem arK (hk4:F4 k) {t:Tm} (ht:In k t) (hz:ax t<=150) (Y:Tm×Bool×Int->OS S):y9 k t Y=Y (uH t):=by
 have hk:=hk4.f3
 simp only [y9,al hk.fu,aA,Bc ht.1 ht.2.1 ht.2.2]
 unfold uH
 by_cases h0:ck t=0
 case neg=>rw [dT h0,ca,aj,if_pos h0];rfl
 rw [h0,show (!((0:Int)==0))=false from rfl,ah,if_neg (by simp)]
 have ft:Fm t:=⟨ht.1,h0⟩
 rw [arL hk4 ft hz]
 split
 case isTrue hc=>rw [aqS hk (fun e h=>akh h) (fun y h=>QZ hk4 ft hc.1 hz hc.2 h)]
 rfl
theorem akg (hk4:F4 k) {t:Tm} (ht:In k t) (hz:ax t<=150):In k (uH t).1:=by
 have hk:=hk4.f3
 unfold uH
 by_cases h0:ck t=0
 case neg=>grind [qc]
 rw [if_neg (by simp [h0])]
 have ft:Fm t:=⟨ht.1,h0⟩
 split
 case isTrue hc=>
  cases hh:nV t with
  |error e=>exact qc hk
  |ok y=>
   obtain ⟨h1,h2⟩:=QZ hk4 ft hc.1 hz hc.2 hh
   show In k (if ck y=0 then (y,true,(0:Int)) else (aH,false,ck y)).1
   grind [qc]
 grind [qc]
theorem aqK (hk4:F4 k) {t:Tm} (ht:In k t) (Y:Bool->OS S):DT k t Y=Y true:=by
 have hk:=hk4.f3
 simp only [DT,al hk.fu,aA,ash hk,ar2 t ht.1 _ ht.2.1]
 obtain ⟨c,h1,h2⟩:=ari hk ht fun r1=>ac r1 (Y true) (o_ k t fun r4=>y9 k t fun r5=>gG k r4.1 r5.1 fun r6=>ac r6 (ac (r4.2.1==r5.2.1) (ac (r4.2.2==r5.2.2) (gG k t t fun r7=>ac r7 (Y true) (Y false)) (Y false)) (Y false)) (Y false))
 refine h1.trans ?_
 cases c with
 |true=>rfl
 |false=>
  have hz:=h2 rfl
  have hres:=akg hk4 ht (by omega)
  rw [ah]
  simp only [arl hk4 ht (show ax t<=150 by omega),arK hk4 ht (show ax t<=150 by omega),YH _ hres.1 _ hres.2.1,YH t ht.1 _ ht.2.1,aj,beq_self_eq_true]
end Go.Proofs.YtgajalidbabccaaGreatDoor
namespace Go.Proofs.YtgajalidbabccaaGreatDoor
open Go PI Go.ChangeShapes Go.WideShapes Go.ChangeAt Go.RowKit
set_option maxRecDepth 100000
set_option maxHeartbeats 4000000
theorem aku {k:Nat} (hk:4296016872<=k) {H:Type} {t:Tm} {d:DataW H} (h:QT t d) (hb:Rows.uptoBulk d<=1048576):In k t:=by
 have h1:=h.1
 have h2:=nI t
 exact ⟨h.2 (by omega),by unfold Fd;omega,by omega⟩
theorem hrow (q:Nat) {a0 b0:Int} {c0:ByteArray} {d0:List Cl} {e0:List Tm} {f0:List (Br Tm)}:Gz (S:=Out UU) q [.agg (gg ET.T (Tm.mk a0 b0 c0 d0 e0 f0))] [] some=ab q (DT q (Tm.mk a0 b0 c0 d0 e0 f0)) fun r=>some (Out.ret (U:=UU) (.bool r) []):=by kernel_rfl
theorem anD {j:Nat} (hF:F4 (j+1)) {t0:Tm} (h0:In (j+1) t0):Gz (S:=Out UU) (j+1) [.agg (gg ET.T t0)] [] some=some (.ret (.bool true) []):=by
 obtain ⟨a0,b0,c0,d0,e0,f0⟩:=t0
 exact (hrow (j+1)).trans ((Pq (by omega) _ _).trans (aqK hF h0 fun r=>some (Out.ret (U:=UU) (.bool r) [])))
theorem anC {k:Nat} (hk:4296016872<=k) {o:Obj} (ho:ao o) {t0:Tm} (h0:In k t0):
  dm (LL o) 4 [.agg (gg ET.T t0)] [] (.ret (.bool true) []):=by
 have hF:F4 k:=by unfold F4;omega
 obtain ⟨j,rfl⟩: ∃j,k=j+1:=⟨k-1,by omega⟩
 obtain ⟨out,hout,hx⟩:=as6 (S:=Out UU) o ho (j+1) [.agg (gg ET.T t0)] [] some (.ret (.bool true) []) (anD hF h0)
 injection hx with hx
 exact hx▸hout
theorem anB (H:Type) (enc:TypeId×Value->H) (W:World) (base:Nat) (args:Array Value) (ds gs:List (DataW H)) (before:List MemPlace)
  (hval: ∀ (j:Nat) t v,Tryz.f4.params[j]? =some t->args[j]? =some v->Value.okWide Tryz.prog W .any base t v)
  (hW:DataW.Whole enc Tryz.prog Tryz.f4.params.toList Rows.hcompStepsSpec.vars false W args.toList ds gs before) (hL:laidMetH Tryz.prog Rows.hcompStepsRow.laid W) (hb:Rows.uptoBulkAll (ds++gs)<=1048576):
  Calls Tryz.prog 4 args W fun e W'=> ∃v,e= .returned v/\Rows.hcompStepsSpec.post enc Tryz.prog Tryz.f4 false true false false W args v W':=by
 have hW':=hW
 obtain ⟨p,q,hA0,hV,rfl,hfz,hnd⟩:=hW
 have hA:DataW.TrodAll enc Tryz.prog W 0 (fun _=>true) true Tryz.f4.params.toList args.toList ds p:=hA0
 rw [Tryz.params4] at hA hval
 obtain ⟨v0,vs0,d0,ds0,p0,q0,hargs,rfl,rfl,h0,r0⟩:=trodAll_cons hA
 obtain ⟨rfl,rfl,rfl⟩:=trodAll_nil r0
 obtain rfl:args= #[v0]:=by cases args;simp_all
 obtain ⟨rfl,rfl⟩:=trodVars_none hV
 obtain ⟨o,ho,hh⟩:=asZ hL
 simp only [dZ,Rows.uptoBulkAll,Nat.add_zero] at hb
 obtain ⟨t0,e0,k0⟩:=afK (o:=o) (g:=gB UU 0 fun _=>0) noN h0
 have hk:(4296016872:Nat)<=4296016872:=dC _
 generalize hkk:(4296016872:Nat)=k at hk
 have hok:=anC (k:=k) (by omega) ho (aku (by omega) k0 (by omega))
 refine (agf hok (akb hh rfl rfl fun j p hj=> ?_)).mono ?_
 ·match j,hj with
  |0,hj=>cases hj;exact e0
  |j+1,hj=>simp at hj
 ·rintro e W' ⟨rfl,hkept⟩
  refine ⟨_,rfl,apj rfl rfl (fun t ht=> ?_) rfl hW' hkept⟩
  rw [Tryz.params4] at ht
  have ht':t=26:=by simpa using ht
  rcases ht' with rfl<;>exact of_decide_eq_true (by kernel_rfl)
noncomputable def KP (os:Os):World:=
 {World.holding Tryz.prog os ⟨#[],#[],[]⟩ with heap:=(World.holding Tryz.prog os ⟨#[],#[],[]⟩).heap.modify 0 fun
   | .cells _ t frozen=> .cells (Lib.deBruijn32tab.map fun n:Nat=>Value.int .u8 n).toArray t frozen
   |o=>o}
def atY:Value:= .agg #[.int .i64 0,.int .i64 0,.string au,.slice none 0 0,.slice none 0 0,.slice none 0 0]
def zeroArgs:Array Value:= #[atY]
def atW {H:Type}:DataW H:= .agg [.lit (.int .i64 0),.lit (.int .i64 0),.lit (.string []),.nil,.nil,.nil]
theorem anx (os:Os):laidMet Tryz.prog Rows.hcompStepsRow.laid ((KP os).forCall (fun _ _=>0) ⟨#[],zeroArgs,[]⟩).memory:=
 laidMet_of_run' 8 (by kernel_rfl) (by kernel_rfl)
theorem aqa (os:Os) {H:Type} (enc:TypeId×Value->H): ∃places,DataW.whole enc Tryz.prog ((KP os).forCall (fun _ _=>0) ⟨#[],zeroArgs,[]⟩).memory Tryz.f4.params.toList Rows.hcompStepsSpec.vars false zeroArgs.toList 8=some ([atW],[],places):=
 ⟨[],by kernel_rfl⟩
theorem anZ (os:Os) (started:os.Started) (H:Type) (enc:TypeId×Value->H) (F:Stop.Interp):
  ReturnsInHanded {} Tryz.checked os 4 .any ((Rows.OpenSpec.upto Rows.hcompStepsSpec).preRow enc Tryz.prog Tryz.f4 Rows.hcompStepsUptoRow.domain false Rows.hcompStepsUptoRow.laid) (((Rows.OpenSpec.upto Rows.hcompStepsSpec).at F).post enc Tryz.prog Tryz.f4 false true false false):=by
 obtain ⟨places,hx⟩:=aqa os enc
 refine returnsInHanded_of_row (C:=Tryz.checked) (s:=Rows.OpenSpec.upto Rows.hcompStepsSpec) own started (by kernel_rfl) Tryz.func4
  (witness_row_at (enc:=enc) (C:=Tryz.checked) false (KP os) zeroArgs rfl (by kernel_rfl) (by kernel_rfl) (by kernel_rfl)
   (OpenSpec.preRow_of_cond 8 hx (by kernel_rfl) (fun k hk=>by cases hk;kernel_rfl) (by kernel_rfl) (anx os))) ?_
 intro W base args ds gs before hval hW _ hcond _ hL _ _
 exact anB H enc W base args ds gs before hval hW hL (of_decide_eq_true (hcond _ rfl))
theorem asi:Rows.HcompStepsUptoSaid:=
 OpenClaim.holds_of_cond 4 Tryz.f4 rfl rfl rfl rfl rfl rfl rfl ⟨rfl,rfl,rfl,rfl,rfl⟩ rfl rfl rfl rfl rfl (by as_aux_lemma=>kernel_rfl) Tryz.func4 akF
  (of_decide_eq_true (by as_aux_lemma=>kernel_rfl)) (by unfold Func.isWrapper;first|(rw [if_pos (by decide+kernel)];kernel_rfl)|(rw [if_neg (by decide+kernel)];exact ⟨rfl,rfl⟩))
  (fun os started H enc _ F=>by rw [OpenClaim.pre_eq_preRow];exact anZ os started H enc F)
theorem plain (f:FuncId) (fn:Func) (hf:Tryz.pinned.checked.prog.funcNamed "hypercube/hypercubelaw20.HcompSteps" =some f) (hfn:Tryz.pinned.checked.prog.funcs[f]? =some fn):
  true=Tryz.pinned.checked.prog.looks []/\ ∀ (j:Nat) t,fn.params[j]? =some t->Tryz.pinned.checked.prog.wantsStandIn t=false:=by
 obtain rfl:f=4:=Option.some.inj ((show Tryz.prog.funcNamed "hypercube/hypercubelaw20.HcompSteps" =some 4 by kernel_rfl).symm.trans hf)|>.symm
 obtain rfl:fn=Tryz.f4:=(Option.some.inj (Tryz.func4.symm.trans hfn)).symm
 refine ⟨by kernel_rfl,fun j t ht=> ?_⟩
 rw [Tryz.params4] at ht
 have ht':t=26:=by simpa using Array.mem_of_getElem? ht
 rcases ht' with rfl
 ·exact (show Tryz.prog.wantsStandIn 26=false by kernel_rfl)
theorem hcompSteps_holds:Rows.HcompStepsUptoCardSaid:=
 Claim7.holds_tied_plain_at .later [] _ _ _ _ asi (fun _ h=>by cases h) (by as_aux_lemma=>kernel_rfl) (fun _ h=>by cases h) hcompStepsUpto_row_tie rfl ⟨rfl,rfl⟩ (by as_aux_lemma=>kernel_rfl) rfl plain (by as_aux_lemma=>kernel_rfl)
#print axioms hcompSteps_holds
end Go.Proofs.YtgajalidbabccaaGreatDoor
