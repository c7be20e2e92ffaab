/- Part 5 of a proof: the sources, with their names and remarks, lie in wip/. -/
import Derived.Test.YtgajalidbabccaaGreatDoorX4
import Derived.KernelRfl
open Bool renaming and_eq_true→aZ,not_false→ca,not_true→bY,true_and→gR
open ByteArray renaming empty→au
open Eq renaming trans→ak
open Go.IntKind renaming wrap→af
open Int renaming toNat_natCast→gb
open List renaming all_eq_true→dA,append_nil→dZ,length_cons→cM,length_eq_zero_iff→kj,mem_cons→gc,nil_append→dG
open Nat renaming eq_of_testBit_eq→g6,le_refl→dC,mul_le_mul_right→jG,zero_add→g7
open Option renaming bind→ag,bind_some→aJ
set_option linter.unusedVariables false
set_option linter.unusedSimpArgs false
namespace Go.Proofs.YtgajalidbabccaaGreatDoor
open Go PI
variable {S:Type} {k:Nat}
abbrev f_:=Int->LC->Except Int (LC)
mutual
def bS (fo fa:f_) (d:Int):Tm->Except Int Tm
 | .mk kd n nm r ks sys=>bE (if kd=14 then fa d r else fo d r) fun r'=>bE (cK fo fa d kd 0 ks) fun ks'=>bE (bX fo fa d kd sys) fun sys'=> .ok (.mk kd n nm r' ks' sys')
def cK (fo fa:f_) (d kd:Int) (i:Nat):LT->Except Int (LT)
 |[]=> .ok []
 |t::l=>bE (bS fo fa (d+cF kd i) t) fun t'=>bE (cK fo fa d kd (i+1) l) fun l'=> .ok (t'::l')
def bX (fo fa:f_) (d kd:Int):LB->Except Int (LB)
 |[]=> .ok []
 |b::l=>bE (jB fo fa d kd b) fun o=>bE (bX fo fa d kd l) fun l'=> .ok (o++l')
def jB (fo fa:f_) (d kd:Int):Br Tm->Except Int (LB)
 | .mk f ks=>bE (fa d f) fun f'=>if f'.length=0 then .ok [] else bE (cQ fo fa d kd ks) fun ks'=> .ok [.mk f' ks']
def cQ (fo fa:f_) (d kd:Int):LT->Except Int (LT)
 |[]=> .ok []
 |t::l=>bE (bS fo fa (d+aW kd) t) fun t'=>bE (cQ fo fa d kd l) fun l'=> .ok (t'::l')
end
theorem atA {fo fa:f_} {d kd:Int} {R:Tm->Tm->Prop}: ∀ {l:LT} {i:Nat} {l':LT},(∀x∈l,∀d x',bS fo fa d x= .ok x'->R x x')->cK fo fa d kd i l= .ok l'->F2 R l l':=by
 intro l
 induction l with
 |nil=>intro i l' _ h;rw [cK] at h;injection h with h;subst h;exact .nil
 |cons t l ih=>
  intro i l' hr h
  rw [cK] at h
  obtain ⟨t',h1,h⟩:=aY h
  obtain ⟨m,h2,h⟩:=aY h
  injection h with h;subst h
  exact .cons (hr t (by simp) _ _ h1) (ih (fun x hx=>hr x (by simp [hx])) h2)
theorem atC {fo fa:f_} {d kd:Int} {R:Tm->Tm->Prop}: ∀ {l:LT} {l':LT},(∀x∈l,∀d x',bS fo fa d x= .ok x'->R x x')->cQ fo fa d kd l= .ok l'->F2 R l l':=by
 intro l
 induction l with
 |nil=>intro l' _ h;rw [cQ] at h;injection h with h;subst h;exact .nil
 |cons t l ih=>
  intro l' hr h
  rw [cQ] at h
  obtain ⟨t',h1,h⟩:=aY h
  obtain ⟨m,h2,h⟩:=aY h
  injection h with h;subst h
  exact .cons (hr t (by simp) _ _ h1) (ih (fun x hx=>hr x (by simp [hx])) h2)
def Wk (x x':Tm):Prop:=aw x'<=aw x/\ax x'<=ax x/\x'.kind=x.kind/\(OkT x->RowsT x->OkT x'/\RowsT x')
theorem Zz {l l':LT} (h:F2 Wk l l'):a7 l'<=a7 l:=by
 induction h with
 |nil=>simp
 |cons h1 _ ih=>rw [a7,a7];have:=h1.1;omega
theorem ZB {l l':LT} (h:F2 Wk l l'):aK l'<=aK l:=by
 induction h with
 |nil=>simp
 |cons h1 _ ih=>rw [aK,aK];have:=h1.2.1;omega
theorem ZA {l l':LT} (h:F2 Wk l l'):bo l->gx l->bo l'/\gx l':=by
 induction h with
 |nil=>grind
 |cons h1 _ ih=>
  rw [bo,bo,gx,gx]
  intro h g
  have a:=h1.2.2.2 h.1 g.1
  grind
theorem atG {fo fa:f_} {d kd:Int} (hfa: ∀d f g,RF f->fa d f= .ok g->RF g): ∀ {l l':LB},(∀b∈l,∀x∈b.kids,∀d x',bS fo fa d x= .ok x'->Wk x x')->bX fo fa d kd l= .ok l'->
  bg l'<=bg l/\aX l'<=aX l/\l'.length<=l.length/\(bH l->ig l->bH l'/\ig l'):=by
 intro l
 induction l with
 |nil=>grind [bX]
 |cons b l ih=>
  intro l' hr h
  rw [bX] at h
  obtain ⟨o,h1,h⟩:=aY h
  obtain ⟨m,h2,h⟩:=aY h
  injection h with h;subst h
  obtain ⟨i1,i2,i3,i4⟩:=ih (fun b hb=>hr b (by simp [hb])) h2
  cases b with
  |mk f ks=>
   rw [jB] at h1
   obtain ⟨f',h3,h1⟩:=aY h1
   split at h1
   ·grind [bg,aX,bH,ig]
   ·obtain ⟨ks',h4,h1⟩:=aY h1
    injection h1 with h1;subst h1
    have f2:F2 Wk ks ks':=atC (hr ⟨f,ks⟩ (by simp)) h4
    have hd:=Zz f2
    have hs:=ZB f2
    refine ⟨?_, ?_, ?_,fun ho hg=> ?_⟩
    ·grind [bg,iP]
    ·grind [aX,g4]
    ·grind
    ·rw [bH,iH] at ho;rw [ig,q_] at hg
     have a:=ZA f2 ho.1.2 hg.1.2
     have b:=i4 ho.2 hg.2
     have c:=hfa d f f' hg.1.1 h3
     show bH (Br.mk f' ks'::m)/\ig (Br.mk f' ks'::m)
     rw [bH,iH,ig,q_]
     exact ⟨⟨⟨⟨c.2,by have:=c.len;omega,by rw [f2.len];simp_all⟩,a.1⟩,b.1⟩,⟨c,a.2⟩,b.2⟩
theorem Zv {fo fa:f_} (hfo: ∀d f g,RF f->fo d f= .ok g->RF g) (hfa: ∀d f g,RF f->fa d f= .ok g->RF g) (h0: ∀d,fo d []= .ok []) (t:Tm): ∀d t',bS fo fa d t= .ok t'->Wk t t':=by
 induction t using kf with
 |h kd n nm r ks sys ih1 ih2=>
  intro d t' h
  rw [bS] at h
  obtain ⟨r',hr,h⟩:=aY h
  obtain ⟨ks',hk,h⟩:=aY h
  obtain ⟨sys',hs,h⟩:=aY h
  injection h with h;subst h
  have fk:F2 Wk ks ks':=atA ih1 hk
  obtain ⟨s1,s2,s3,s4⟩:=atG hfa ih2 hs
  refine ⟨?_, ?_,rfl,fun hok hro=> ?_⟩
  ·rw [aw,aw];have:=Zz fk;omega
  ·rw [ax,ax];have:=ZB fk;omega
  ·rw [OkT] at hok;rw [RowsT] at hro
   obtain ⟨⟨o1,o2,o3,o4,o5,o6,o7⟩,ok,os⟩:=hok
   obtain ⟨⟨a,b,z⟩,c,e⟩:=hro
   have hk:=ZA fk ok c
   have hs:=s4 os e
   have hrf:RF r':=by
    grind
   rw [OkT,RowsT]
   refine ⟨⟨⟨o1,o2,o3,hrf.2,by have:=hrf.len;omega,by rw [fk.len];exact o6,by omega⟩,hk.1,hs.1⟩,⟨hrf,fun h1=> ?_,z⟩,hk.2,hs.2⟩
   grind
section
variable {fo fa:f_} {G:Int->LC->LC}
def eM (f:f_) (G:Int->LC->LC):f_:=fun d l=>bE (f d l) fun m=> .ok (G d m)
def bj (G:Int->LC->LC):f_:=fun d l=> .ok (G d l)
theorem Hl (t:Tm): ∀d,∃t',bS (bj G) (bj G) d t= .ok t':=by
 induction t using kf with
 |h kd n nm r ks sys ih1 ih2=>
  intro d
  have hk: ∀ {l:LT} {i:Nat},(∀x∈l,∀d,∃t',bS (bj G) (bj G) d x= .ok t')-> ∃l',cK (bj G) (bj G) d kd i l= .ok l':=by
   intro l
   induction l with
   |nil=>simp_all [cK]
   |cons t l ih=>
    intro i h
    obtain ⟨t',e⟩:=h t (by simp) (d+cF kd i)
    obtain ⟨l',e'⟩:=ih (i:=i+1) fun x hx=>h x (by simp [hx])
    grind [cK,aF]
  have hm: ∀ {l:LT},(∀x∈l,∀d,∃t',bS (bj G) (bj G) d x= .ok t')-> ∃l',cQ (bj G) (bj G) d kd l= .ok l':=by
   intro l
   induction l with
   |nil=>simp_all [cQ]
   |cons t l ih=>
    intro h
    obtain ⟨t',e⟩:=h t (by simp) (d+aW kd)
    obtain ⟨l',e'⟩:=ih fun x hx=>h x (by simp [hx])
    grind [cQ,aF]
  have hs: ∀ {l:LB},(∀b∈l,∀x∈b.kids,∀d,∃t',bS (bj G) (bj G) d x= .ok t')-> ∃l',bX (bj G) (bj G) d kd l= .ok l':=by
   intro l
   induction l with
   |nil=>simp_all [bX]
   |cons b l ih=>
    intro h
    obtain ⟨l',e'⟩:=ih fun b hb=>h b (by simp [hb])
    cases b with
    |mk f ks=>
     obtain ⟨ks',e⟩:=hm (h ⟨f,ks⟩ (by simp))
     have: ∃o,jB (bj G) (bj G) d kd (.mk f ks)= .ok o:=by
      grind [jB,bj,aF]
     grind [bX,aF]
  obtain ⟨ks',ek⟩:=hk (i:=0) ih1
  obtain ⟨sys',es⟩:=hs ih2
  simp_all [bj,bS,aF]
theorem atB (d kd:Int): ∀ (l:LT) (i:Nat),∃l',cK (bj G) (bj G) d kd i l= .ok l':=by
 intro l
 induction l with
 |nil=>simp_all [cK]
 |cons t l ih=>
  intro i
  obtain ⟨t',e⟩:=Hl (G:=G) t (d+cF kd i)
  obtain ⟨l',e'⟩:=ih (i+1)
  grind [cK,aF]
theorem Zu (d kd:Int): ∀ (l:LT),∃l',cQ (bj G) (bj G) d kd l= .ok l':=by
 intro l
 induction l with
 |nil=>simp_all [cQ]
 |cons t l ih=>
  obtain ⟨t',e⟩:=Hl (G:=G) t (d+aW kd)
  grind [cQ,aF]
theorem atz (d kd:Int) (b:Br Tm): ∃o,jB (bj G) (bj G) d kd b= .ok o:=by
 cases b with
 |mk f ks=>
  obtain ⟨ks',e⟩:=Zu (G:=G) d kd ks
  rw [jB,bj,aF]
  split<;>simp_all [aF]
theorem atF (d kd:Int): ∀ (l:LB),∃l',bX (bj G) (bj G) d kd l= .ok l':=by
 intro l
 induction l with
 |nil=>simp_all [bX]
 |cons b l ih=>
  obtain ⟨l',e'⟩:=ih
  obtain ⟨o,e⟩:=atz (G:=G) d kd b
  grind [bX,aF]
theorem atD (d kd:Int): ∀ (a b:LB),bX fo fa d kd (a++b)=bE (bX fo fa d kd a) fun a'=>bE (bX fo fa d kd b) fun b'=> .ok (a'++b'):=by
 intro a
 induction a with
 |nil=>intro b;rw [dG,bX,aF];cases bX fo fa d kd b<;>rfl
 |cons x a ih=>
  intro b
  rw [List.cons_append,bX,bX,ih]
  cases jB fo fa d kd x with
  |error e=>rfl
  |ok o=>
   rw [aF,aF]
   cases bX fo fa d kd a with
   |error e=>rfl
   |ok a'=>
    rw [aF,aF]
    cases bX fo fa d kd b with
    |error e=>rfl
    |ok b'=>grind [aF]
theorem atH (hfa: ∀d f g,RF f->fa d f= .ok g->RF g) (hG: ∀d f,RF f->((G d f).length=0↔f.length=0)) (t:Tm): ∀d,RowsT t->bE (bS fo fa d t) (bS (bj G) (bj G) d)=bS (eM fo G) (eM fa G) d t:=by
 induction t using kf with
 |h kd n nm r ks sys ih1 ih2=>
  intro d hrows
  rw [RowsT] at hrows
  obtain ⟨_,hrk,hrs⟩:=hrows
  have hk: ∀ {l:LT} {i:Nat},(∀x∈l,∀d,RowsT x->bE (bS fo fa d x) (bS (bj G) (bj G) d)=bS (eM fo G) (eM fa G) d x)->gx l->bE (cK fo fa d kd i l) (cK (bj G) (bj G) d kd i)=cK (eM fo G) (eM fa G) d kd i l:=by
   intro l
   induction l with
   |nil=>grind [cK,aF]
   |cons t l ih=>
    intro i h hr
    rw [gx] at hr
    have h1:=h t (by simp) (d+cF kd i) hr.1
    have h2:=ih (i:=i+1) (fun x hx=>h x (by simp [hx])) hr.2
    rw [cK,cK,<-h1,<-h2]
    cases bS fo fa (d+cF kd i) t with
    |error e=>rfl
    |ok t'=>
     rw [aF,aF]
     obtain ⟨t'',e⟩:=Hl (G:=G) t' (d+cF kd i)
     rw [e,aF]
     cases cK fo fa d kd (i+1) l with
     |error e=>rfl
     |ok l'=>
      grind [aF,cK]
  have hm: ∀ {l:LT},(∀x∈l,∀d,RowsT x->bE (bS fo fa d x) (bS (bj G) (bj G) d)=bS (eM fo G) (eM fa G) d x)->gx l->bE (cQ fo fa d kd l) (cQ (bj G) (bj G) d kd)=cQ (eM fo G) (eM fa G) d kd l:=by
   intro l
   induction l with
   |nil=>grind [cQ,aF]
   |cons t l ih=>
    intro h hr
    rw [gx] at hr
    have h1:=h t (by simp) (d+aW kd) hr.1
    have h2:=ih (fun x hx=>h x (by simp [hx])) hr.2
    rw [cQ,cQ,<-h1,<-h2]
    cases bS fo fa (d+aW kd) t with
    |error e=>rfl
    |ok t'=>
     rw [aF,aF]
     obtain ⟨t'',e⟩:=Hl (G:=G) t' (d+aW kd)
     rw [e,aF]
     cases cQ fo fa d kd l with
     |error e=>rfl
     |ok l'=>
      grind [aF,cQ]
  have hb: ∀ {b:Br Tm},(∀x∈b.kids,∀d,RowsT x->bE (bS fo fa d x) (bS (bj G) (bj G) d)=bS (eM fo G) (eM fa G) d x)->q_ b->bE (jB fo fa d kd b) (bX (bj G) (bj G) d kd)=jB (eM fo G) (eM fa G) d kd b:=by
   intro b h hr
   cases b with
   |mk f ks'=>
    rw [q_] at hr
    have h2:=hm h hr.2
    rw [jB,jB]
    show _=bE (bE (fa d f) fun m=> .ok (G d m)) _
    cases hf:fa d f with
    |error e=>rfl
    |ok f'=>
     rw [aF,aF,aF]
     have hg:=hG d f' (hfa d f f' hr.1 hf)
     by_cases h0:f'.length=0
     ·grind [aF,bX]
     ·rw [if_neg h0,if_neg (fun h=>h0 (hg.1 h)),<-h2]
      cases cQ fo fa d kd ks' with
      |error e=>rfl
      |ok l'=>
       rw [aF,aF,aF,bX,jB]
       show bE (bE (.ok (G d f')) _) _=_
       rw [aF,if_neg (fun h=>h0 (hg.1 h))]
       obtain ⟨l'',e⟩:=Zu (G:=G) d kd l'
       grind [aF,bX]
  have hs: ∀ {l:LB},(∀b∈l,∀x∈b.kids,∀d,RowsT x->bE (bS fo fa d x) (bS (bj G) (bj G) d)=bS (eM fo G) (eM fa G) d x)->ig l->bE (bX fo fa d kd l) (bX (bj G) (bj G) d kd)=bX (eM fo G) (eM fa G) d kd l:=by
   intro l
   induction l with
   |nil=>grind [bX,aF]
   |cons b l ih=>
    intro h hr
    rw [ig] at hr
    have h1:=hb (h b (by simp)) hr.1
    have h2:=ih (fun b hb=>h b (by simp [hb])) hr.2
    rw [bX,bX,<-h1,<-h2]
    cases jB fo fa d kd b with
    |error e=>rfl
    |ok o=>
     rw [aF,aF]
     obtain ⟨o',e⟩:=atF (G:=G) d kd o
     rw [e,aF]
     cases bX fo fa d kd l with
     |error e=>rfl
     |ok l'=>
      grind [aF,atD]
  rw [bS,bS,<-hk (i:=0) ih1 hrk,<-hs ih2 hrs]
  have hrow:(if kd=14 then eM fa G d r else eM fo G d r)=bE (if kd=14 then fa d r else fo d r) fun m=> .ok (G d m):=by split<;>rfl
  rw [hrow]
  cases (if kd=14 then fa d r else fo d r) with
  |error e=>rfl
  |ok r'=>
   rw [aF,aF,aF]
   cases cK fo fa d kd 0 ks with
   |error e=>rfl
   |ok ks'=>
    rw [aF,aF]
    obtain ⟨ks'',ek⟩:=atB (G:=G) d kd ks' 0
    rw [ek,aF]
    cases bX fo fa d kd sys with
    |error e=>rfl
    |ok sys'=>
     grind [aF,bS,bj]
end
set_option maxRecDepth 20000
theorem RD (kd:Int):(kd<0\/kd>28)\/(∃n:Nat,n<29/\kd=n):=by
 by_cases h:kd<0\/kd>28
 ·omega
 ·exact .inr ⟨kd.toNat,by omega,by omega⟩
theorem aqL (kd:Int) (Y:Int->OS S):EJ k kd Y=Y (fK kd):=by
 simp only [EJ]
 rcases RD kd with h|⟨n,hn,rfl⟩
 ·simp only [dX,beq_iff_eq]
  unfold fK
  rw [if_pos h]
  repeat rw [if_neg (by omega)]
 ·unfold fK
  rw [if_neg (by omega),gb]
  match n,hn with
  |0,_=>rfl
  |1,_=>rfl
  |2,_=>rfl
  |3,_=>rfl
  |4,_=>rfl
  |5,_=>rfl
  |6,_=>rfl
  |7,_=>rfl
  |8,_=>rfl
  |9,_=>rfl
  |10,_=>rfl
  |11,_=>rfl
  |12,_=>rfl
  |13,_=>rfl
  |14,_=>rfl
  |15,_=>rfl
  |16,_=>rfl
  |17,_=>rfl
  |18,_=>rfl
  |19,_=>rfl
  |20,_=>rfl
  |21,_=>rfl
  |22,_=>rfl
  |23,_=>rfl
  |24,_=>rfl
  |25,_=>rfl
  |26,_=>rfl
  |27,_=>rfl
  |28,_=>rfl
  |n+29,h=>omega
theorem YC (kd:Int) (Y:Int->OS S):ue k kd Y=Y (fK kd):=by
 simp only [ue,bR]
 unfold fK
 rcases RD kd with h|⟨n,hn,rfl⟩
 ·grind
 ·rw [if_neg (by omega),if_neg (by omega),if_neg (by omega),Da (by omega),zA,gb]
  simp_all [kidsT]
theorem m7 (kd i:Int) (Y:Int×Int->OS S):kA k kd i Y=Y (cv kd i,cF kd i):=by
 simp only [kA,dX,beq_iff_eq]
 grind [cv,cF]
theorem Bb (hk:Fu k) (kd i:Int) (Y:Int×Int->OS S):pj k kd i Y=Y (cv kd i,cF kd i):=by
 obtain ⟨q,rfl⟩: ∃q,k=q+1:=⟨k-1,by omega⟩
 simp only [pj,Oe,KL,CB,FA,II,dX,beq_iff_eq]
 grind [cv,cF]
theorem X3 (kd:Int) (Y:Int->OS S):po k kd Y=Y (dF kd):=by
 grind [po,dX,dF]
theorem YF (kd:Int) (Y:Int->OS S):uf k kd Y=Y (dF kd):=by
 grind [uf,dX,dF]
theorem GV (kd:Int) (Y:Int->OS S):pm k kd Y=Y (aW kd):=by
 grind [pm,dX,aW]
theorem Pj (s t:BA):(s==t)=decide (s=t):=by
 obtain ⟨a⟩:=s;obtain ⟨b⟩:=t
 show (a==b)=_
 grind
theorem Ls (s:BA):(s==au)=decide (s.size=0):=by
 simp_all [Pj]
theorem wK (s:BA):(s.size:Int)=(s.data.toList.length:Int):=by
 rfl
def mQ (p:List UInt8) (r:List UInt8):Bool:=match p with
 |[]=>sK r
 |_::_=>r.all fun d=>oy d||um d
theorem TX (p:List UInt8) (x:UInt8) (r:List UInt8):mQ p (x::r)=((oy x||(decide (p≠[])&&um x))&&mQ (p++[x]) r):=by
 cases p<;>grind [mQ,sK]
theorem TY {p:List UInt8}:mQ p []=decide (p.length≠0):=by
 cases p with
 |nil=>rfl
 |cons c l=>rfl
theorem amv (hk:Fu k) (Y:Bool->OS S) {s:BA} (hs:s.size<2147483648):
  ∀ (r p:List UInt8) (m:Nat),s.data.toList=p++r->r.length<m->sD k Y s m (p.length:Int)=Y (mQ p r):=by
 obtain ⟨q,rfl⟩: ∃q,k=q+1:=⟨k-1,by omega⟩
 have hs':s.data.toList.length<2147483648:=by simp_all
 intro r
 induction r with
 |nil=>
  grind [aq,sD,yg,wK,ah,Ls,TY]
 |cons x r ih=>
  intro p m h hm
  obtain ⟨m,rfl,hm'⟩:=aq hm
  obtain ⟨e1,e2,e3,e4⟩:=aR h (by omega)
  have hi:=ih (p++[x]) m e4 hm'
  rw [TX]
  simp only [sD,yg,wK,e1,aj,e2,aJ,bR,FF,IQ,e3,hi]
  have hl: ∀b:Bool,b=oy x->ac (!b) (ac (((p.length:Nat):Int)==0) (Y false) (if ((x.toNat:Nat):Int)<48 then Y false else if ((x.toNat:Nat):Int)>57 then Y false else Y (mQ (p++[x]) r))) (Y (mQ (p++[x]) r))=Y ((oy x||(decide (p≠[])&&um x))&&mQ (p++[x]) r):=by
   grind [dX,List.length_pos_iff,um]
  grind [oy]
theorem ary (hk:Fu k) {s:BA} (hs:s.size<2147483648) (Y:Bool->OS S):EM k s Y=Y (sK s.data.toList):=by
 simp only [EM,OQ]
 have:=amv hk Y hs s.data.toList [] k rfl (by grind [wK])
 exact this
theorem anb (hk:Fu k) (Y:Bool->OS S) {s:BA} (hs:s.size<2147483648):
  ∀ (r p:List UInt8) (m:Nat),s.data.toList=p++r->r.length<m->si k Y s m (p.length:Int)=Y (mQ p r):=by
 obtain ⟨q,rfl⟩: ∃q,k=q+1:=⟨k-1,by omega⟩
 have hs':s.data.toList.length<2147483648:=by simp_all
 intro r
 induction r with
 |nil=>
  intro p m h hm
  obtain ⟨m,rfl,hm'⟩:=aq hm
  simp only [si,xL,wK,cV h,ah,TY]
  rw [h,dZ]
  congr 1
  grind
 |cons x r ih=>
  intro p m h hm
  obtain ⟨m,rfl,hm'⟩:=aq hm
  obtain ⟨e1,e2,e3,e4⟩:=aR h (by omega)
  have hi:=ih (p++[x]) m e4 hm'
  rw [TX]
  have hb: ∀n:Nat,(((n:Nat):Int)==95)=decide (n=95):=fun n=>by
   grind
  simp only [si,xL,wK,e1,aj,e2,aJ,bR,FB,IJ,e3,hi,hb]
  have hlt:oy x=(decide (97<=x.toNat)&&decide (x.toNat<=122)||decide (65<=x.toNat)&&decide (x.toNat<=90)||decide (x.toNat=95)):=rfl
  have hdt:um x=(decide (48<=x.toNat)&&decide (x.toNat<=57)):=rfl
  generalize mQ (p++[x]) r=z
  have hj:(ac (!decide (x.toNat=95)) (if ((x.toNat:Nat):Int)<97 then if ((x.toNat:Nat):Int)<65 then Y false else if ((x.toNat:Nat):Int)>90 then Y false else Y z
    else if ((x.toNat:Nat):Int)>122 then if ((x.toNat:Nat):Int)<65 then Y false else if ((x.toNat:Nat):Int)>90 then Y false else Y z else Y z) (Y z))=Y (oy x&&z):=by
   grind [ah,decide_eq_false,aj]
  grind [List.length_pos_iff]
theorem asa (hk:Fu k) {s:BA} (hs:s.size<2147483648) (Y:Bool->OS S):Eo k s Y=Y (sK s.data.toList):=by
 simp only [Eo,Ol]
 have:=anb hk Y hs s.data.toList [] k rfl (by grind [wK])
 exact this
theorem vQ (n:Nat):(((n:Nat):Int)==0)=decide (n=0):=by grind
theorem amz (hk:Fu k) (Y:Bool->OS S) {t:Tm} {dims:Int} (hd:0<=dims) (hd':dims<9223372036854775808) (hs: ∀b∈t.sys,aI b.face/\b.face.length<1073741824) (hlen:t.sys.length<1073741824):
  ∀ (r p:LB) (m:Nat),t.sys=p++r->r.length<m->ox k Y t dims m (p.length:Int)=Y (r.all (cO t.kind dims)&&decide (t.r.length=0)):=by
 intro r
 induction r with
 |nil=>
  grind [aq,ox,C4,ah,vQ]
 |cons x r ih=>
  intro p m h hm
  obtain ⟨m,rfl,hm'⟩:=aq hm
  obtain ⟨e1,e2,e3,e4⟩:=aR h (by omega)
  have hx:=hs x (by grind)
  have hb:((x.kids.length:Int)==dF t.kind)=decide ((x.kids.length:Int)=dF t.kind):=by rfl
  simp only [ox,C4,e1,aj,e2,aJ,al hk,X3,MZ hk hx.1 (show x.face.length<2147483648 by omega),YN hk hx.1 (show x.face.length<4294967296 by omega) hd hd',e3,ih (p++[x]) m e4 hm',List.all_cons,hb]
  grind [cO,decide,Int,ep,aj,ah]
theorem asj {S:Type} (b c:Bool) (Y:Bool->OS S):ac b (Y c) (Y false)=Y (b&&c):=by
 cases b<;>rfl
def sR (vars dims:Int) (t:Tm):Bool:=
 if t.kind=1 then decide (t.r.length=0)&&(decide (0<=t.n)&&decide (vars<0\/t.n<vars))
   else if t.kind=2 then decide (t.r.length=0)&&sK t.name.data.toList
   else if t.kind=13\/t.kind=21\/t.kind=26 then cD t.r&&eo t.r dims
   else if t.kind=14 then ep t.r&&eo t.r dims
   else t.sys.all (cO t.kind dims)&&decide (t.r.length=0)
theorem Uf (vars dims:Int) (t:Tm):dE vars dims t=((decide (fK t.kind=t.kids.length)&&(decide (t.kind=1\/t.n=0)&&(decide (t.kind=2\/t.name.size=0)&&decide (dF t.kind=0->t.sys.length=0))))&&sR vars dims t):=by
 cases t;rfl
def OkN (t:Tm):Prop:=a6 t.kind/\a6 t.n/\t.name.size<1073741824/\aI t.r/\t.r.length<1073741824/\t.kids.length<1073741824/\t.sys.length<1073741824
theorem OkT.no {t:Tm} (h:OkT t):OkN t:=by cases t;exact h.node
theorem OkT.ki {t x:Tm} (h:OkT t) (hx:x∈t.kids):OkT x:=by cases t;exact h.kid hx
theorem OkT.bi {t:Tm} {b:Br Tm} (h:OkT t) (hb:b∈t.sys):(aI b.face/\b.face.length<1073741824/\b.kids.length<1073741824)/\ ∀t∈b.kids,OkT t:=by cases t;exact h.br hb
theorem arE (hk:Fu k) {t:Tm} (ht:OkT t) {vars dims:Int} (hd:0<=dims) (hd':dims<9223372036854775808) (Y:Bool->OS S):FG k Y t vars dims k=Y (sR vars dims t):=by
 obtain ⟨o1,o2,o3,o4,o5,o6,o7⟩:=ht.no
 have hb:=fun b hb=>(ht.bi (b:=b) hb).1
 obtain ⟨q,hq⟩: ∃q,k=q+1:=⟨k-1,by omega⟩
 have: ∀j,j=q+1->FG k Y t vars dims j=yh k Y t vars dims (fun v109=>ox k Y t dims k v109):=by rintro j rfl;rfl
 rw [this k hq]
 have hl:=amz hk Y hd hd' (fun b h=>⟨(hb b h).1,(hb b h).2.1⟩) o7 t.sys [] k rfl (by omega)
 have hl:ox k Y t dims k 0=_:=hl
 simp only [yh,al hk,ary hk (show t.name.size<2147483648 by omega),wG hk o4 (show t.r.length<2147483648 by omega),MZ hk o4 (show t.r.length<2147483648 by omega),YN hk o4 (show t.r.length<4294967296 by omega) hd hd',hl,vQ,asj]
 grind [dX,sR]
theorem arD (hk:Fu k) {t:Tm} (ht:OkT t) {vars dims:Int} (hd:0<=dims) (hd':dims<9223372036854775808) (Y:Bool->OS S):zf k t vars dims Y=Y (dE vars dims t):=by
 have hq:(fK t.kind==(t.kids.length:Int))=decide (fK t.kind=t.kids.length):=by rfl
 have hp:(dF t.kind==0)=decide (dF t.kind=0):=cH _
 simp only [zf,OR,al hk,aqL,X3,arE hk ht hd hd',Ls,hq,hp,cH,Uf]
 have hsy:ac (decide (dF t.kind=0)) (ac (decide (((t.sys.length:Nat):Int)>0)) (Y false) (Y (sR vars dims t))) (Y (sR vars dims t))=Y (decide (dF t.kind=0->t.sys.length=0)&&sR vars dims t):=by
  rw [bR,bR]
  by_cases h1:dF t.kind=0
  ·rw [if_pos h1]
   by_cases h2:t.sys.length=0<;>grind
  grind
 grind [aj,ah,decide_eq_false]
abbrev Fd (k n:Nat):Prop:=4294967296+n<=k
theorem Fd.fu {n:Nat} (h:Fd k n):Fu k:=by omega
theorem Fd.pos {n:Nat} (h:Fd k n): ∃q,k=q+1/\ ∀j,j+1<=n->Fd q j:=⟨k-1,by omega,fun j hj=>by omega⟩
theorem Fd.pos' {n:Nat} (h:Fd k n) (hn:1<=n): ∃q,k=q+1/\Fu q/\ ∀j,j+1<=n->Fd q j:=⟨k-1,by omega,by omega,fun j hj=>by omega⟩
theorem du (t:Tm):1<=aw t:=by cases t;rw [aw];omega
theorem ul (t:Tm):aw t=max (a7 t.kids) (bg t.sys)+1:=by cases t;rfl
theorem Be (t:Tm):ax t=1+aK t.kids+aX t.sys:=by cases t;rfl
theorem dc {t x:Tm} (h:x∈t.kids):aw x+1<=aw t:=by rw [ul t];have:=JB h;omega
theorem di {t:Tm} {b:Br Tm} {x:Tm} (hb:b∈t.sys) (h:x∈b.kids):aw x+1<=aw t:=by rw [ul t];have:=JB h;have:=PG hb;omega
theorem eI {Q:Tm->Prop} (h: ∀t,(∀x∈t.kids,Q x)->(∀b∈t.sys,∀x∈b.kids,Q x)->Q t) (t:Tm):Q t:=kf (fun kd n nm r ks sys h1 h2=>h (.mk kd n nm r ks sys) h1 h2) t
theorem dcg {p q:Prop} [Decidable p] [Decidable q] (h:p↔q):decide p=decide q:=decide_eq_decide.2 h
theorem Na {α:Type} (b c:Bool) (x y:α):ac (!b) y (if c then x else y)=if b&&c then x else y:=by cases b<;>cases c<;>rfl
theorem oL {S:Type} (b c:Bool) (Y:Bool->OS S):ac (!b) (Y false) (Y c)=Y (b&&c):=by cases b<;>rfl
theorem akD {S:Type} (b c:Bool) (Y:Bool->OS S):(if b=true then Y c else Y false)=Y (b&&c):=by grind
theorem bw {n:Int} (h1: -9223372036854775808<=n) (h2:n<9223372036854775808):af .i64 n=n:=fW h1 h2
section
variable {hd:Tm->Int->(Bool->OS S)->OS S} {c0:Int} {t:Tm} {Q:Tm->Bool}
theorem al5 (hk:Fu k) (Y:Bool->OS S) (rec1:Int->Int->OS S) (hc: -9223372036854775807<=c0) (hc':c0<9223372036854775808) {v more:Int} {x:Br Tm} (hQ: ∀y∈x.kids,∀g,hd y (c0-1) g=g (Q y)) (hl:x.kids.length<1073741824):
  ∀ (r p:LT) (m:Nat),x.kids=p++r->r.length<m->sx hd k Y rec1 c0 t v x more m (p.length:Int)=if r.all Q then rec1 (af .i64 (v+1)) more else Y false:=by
 intro r
 induction r with
 |nil=>
  grind [aq,sx,C1,ah]
 |cons y r ih=>
  intro p m h hm
  obtain ⟨m,rfl,hm'⟩:=aq hm
  obtain ⟨e1,e2,e3,e4⟩:=aR h (by omega)
  have hy:=hQ y (by grind)
  simp only [sx,C1,e1,aj,e2,aJ,al hk,zg,aA,bw (show-9223372036854775808<=c0-1 by omega) (by omega),hy,e3,ih (p++[y]) m e4 hm',Na]
  rfl
theorem al4 (hk:Fu k) (Y:Bool->OS S) (hc: -9223372036854775807<=c0) (hc':c0<9223372036854775808) {more:Int} (hQ: ∀b∈t.sys,∀y∈b.kids,∀g,hd y (c0-1) g=g (Q y)) (hl:t.sys.length<1073741824) (hl': ∀b∈t.sys,b.kids.length<1073741824):
  ∀ (r p:LB) (m:Nat),t.sys=p++r->r.length<m->mN hd k Y c0 t m (p.length:Int) more=Y (r.all fun b=>b.kids.all Q):=by
 intro r
 induction r with
 |nil=>
  grind [aq,mN,yb,ah]
 |cons x r ih=>
  intro p m h hm
  obtain ⟨m,rfl,hm'⟩:=aq hm
  obtain ⟨e1,e2,e3,e4⟩:=aR h (by omega)
  have hx:x∈t.sys:=by grind
  have hlx:=hl' x hx
  have:=al5 (t:=t) hk Y (mN hd k Y c0 t m) (v:=(p.length:Int)) (more:=more) hc hc' (hQ x hx) hlx x.kids [] k rfl (by omega)
  simp only [mN,yb,e1,aj,e2,aJ,List.all_cons]
  refine ak this ?_
  rw [e3,ih (p++[x]) m e4 hm']
  cases x.kids.all Q<;>rfl
theorem al3 (hk:Fu k) (Y:Bool->OS S) (hc: -9223372036854775807<=c0) (hc':c0<9223372036854775808) (hQ: ∀y∈t.kids,∀g,hd y (c0-1) g=g (Q y)) (hQ': ∀b∈t.sys,∀y∈b.kids,∀g,hd y (c0-1) g=g (Q y)) (ht:OkT t):
  ∀ (r p:LT) (m:Nat),t.kids=p++r->r.length<m->vJ hd k Y c0 t m (p.length:Int)=Y (r.all Q&&t.sys.all fun b=>b.kids.all Q):=by
 obtain ⟨o1,o2,o3,o4,o5,o6,o7⟩:=ht.no
 intro r
 induction r with
 |nil=>
  intro p m h hm
  obtain ⟨m,rfl,hm'⟩:=aq hm
  have hs: ∀more:Int,mN hd k Y c0 t k 0 more=_:=fun more=>al4 hk Y hc hc' (more:=more) hQ' o7 (fun b hb=>(ht.bi hb).1.2.2) t.sys [] k rfl (by omega)
  simp only [vJ,ya,cV h,ah,hs]
  cases (t.kind==15)<;>rfl
 |cons y r ih=>
  intro p m h hm
  obtain ⟨m,rfl,hm'⟩:=aq hm
  obtain ⟨e1,e2,e3,e4⟩:=aR h (by omega)
  have hy:=hQ y (by grind)
  simp only [vJ,ya,e1,aj,e2,aJ,al hk,m7,zg,aA,bw (show-9223372036854775808<=c0-1 by omega) (by omega),hy,e3,ih (p++[y]) m e4 hm',oL,List.all_cons,Bool.and_assoc]
end
theorem PE {n:Int} (hn:0<=n): ∀ {l:LT},(l.all fun x=>decide ((aw x:Int)<=n))=decide ((a7 l:Int)<=n):=by
 intro l
 induction l<;>grind [a7]
theorem agF {n:Int} (hn:0<=n): ∀ {l:LB},(l.all fun b=>b.kids.all fun x=>decide ((aw x:Int)<=n))=decide ((bg l:Int)<=n):=by
 intro l
 induction l with
 |nil=>rw [bg];simp [hn]
 |cons b l ih=>rw [List.all_cons,ih,PE hn,bg,uk,Bool.eq_iff_iff];grind
theorem asd (t:Tm):OkT t-> ∀ {k:Nat} {left:Int} (Y:Bool->OS S),Fd k (aw t)-> -4611686018427387904<=left->left<4611686018427387904->mw k t left Y=Y (decide ((aw t:Int)<=left)):=by
 induction t using eI with
 |h t ih1 ih2=>
  intro ht k left Y hk h1 h2
  obtain ⟨q,rfl,hq,hf⟩:=hk.pos' (du t)
  simp only [mw,Y6,bR,aA,al hq]
  by_cases h0:left>0
  ·rw [if_pos h0]
   have hQ: ∀y∈t.kids,∀g:Bool->OS S,mw q y (left-1) g=g (decide ((aw y:Int)<=left-1)):=fun y hy g=>ih1 y hy (ht.ki hy) g (hf _ (dc hy)) (by omega) (by omega)
   have hQ': ∀b∈t.sys,∀y∈b.kids,∀g:Bool->OS S,mw q y (left-1) g=g (decide ((aw y:Int)<=left-1)):=fun b hb y hy g=>ih2 b hb y hy ((ht.bi hb).2 y hy) g (hf _ (di hb hy)) (by omega) (by omega)
   have:=al3 (Q:=fun y=>decide ((aw y:Int)<=left-1)) hq Y (by omega) (by omega) hQ hQ' ht t.kids [] q rfl (by have:=ht.no.2.2.2.2.2.1;omega)
   simp only [Jy,ON]
   refine ak this ?_
   rw [PE (by omega),agF (by omega),ul]
   congr 1
   rw [Bool.eq_iff_iff];simp;omega
  grind [du]
section
variable {hd:Tm->Int->(Bool×Int->OS S)->OS S} {t:Tm}
def wP (hd:Tm->Int->(Bool×Int->OS S)->OS S) (k:Nat) (y:Tm):Prop:= ∀ (c:Int) (g:Bool×Int->OS S),0<=c->c<4611686018427387904->
 ∃v,ui hd k y c g=g (decide ((ax y:Int)<=c),v)/\((ax y:Int)<=c->v=c-ax y)
theorem al2 (hk:Fu k) (Y:Bool×Int->OS S) (rec1:Int->Int->Int->OS S) {v more:Int} {x:Br Tm} (hQ: ∀y∈x.kids,wP hd k y) (hl:x.kids.length<1073741824):
  ∀ (r p:LT) (m:Nat) (c:Int),0<=c->c<4611686018427387904->x.kids=p++r->r.length<m->
  ((aK r:Int)<=c->ou hd k Y rec1 t v x more m c (p.length:Int)=rec1 (c-aK r) (af .i64 (v+1)) more)/\(¬ (aK r:Int)<=c-> ∃w,ou hd k Y rec1 t v x more m c (p.length:Int)=Y (false,w)):=by
 intro r
 induction r with
 |nil=>
  grind [aq,ou,CZ,ah,aK]
 |cons y r ih=>
  intro p m c h0 h1 h hm
  obtain ⟨m,rfl,hm'⟩:=aq hm
  obtain ⟨e1,e2,e3,e4⟩:=aR h (by omega)
  have hy:=hQ y (by grind)
  obtain ⟨w,hw,hw'⟩:=hy c (fun r1=>(fun r6:Bool×Int=>ac (!r6.1) (Y (false,r6.2)) (ou hd k Y rec1 t v x more m r6.2 (((p++[y]).length:Nat):Int))) (r1.1,r1.2)) h0 h1
  simp only [ou,CZ,e1,aj,e2,aJ,al hk,zh,aA,e3,aK]
  rw [hw]
  by_cases hs:(ax y:Int)<=c
  ·grind [ah]
  grind [aj]
theorem al1 (hk:Fu k) (Y:Bool×Int->OS S) {more:Int} (hQ: ∀b∈t.sys,∀y∈b.kids,wP hd k y) (hl:t.sys.length<1073741824) (hl': ∀b∈t.sys,b.kids.length<1073741824):
  ∀ (r p:LB) (m:Nat) (c:Int),0<=c->c<4611686018427387904->t.sys=p++r->r.length<m->
  ((aX r:Int)<=c->lJ hd k Y t m c (p.length:Int) more=Y (true,c-aX r))/\(¬ (aX r:Int)<=c-> ∃w,lJ hd k Y t m c (p.length:Int) more=Y (false,w)):=by
 intro r
 induction r with
 |nil=>
  grind [aq,lJ,xY,ah,aX]
 |cons x r ih=>
  intro p m c h0 h1 h hm
  obtain ⟨m,rfl,hm'⟩:=aq hm
  obtain ⟨e1,e2,e3,e4⟩:=aR h (by omega)
  have hx:x∈t.sys:=by grind
  have hlx:=hl' x hx
  have:=al2 (t:=t) hk Y (lJ hd k Y t m) (v:=(p.length:Int)) (more:=more) (hQ x hx) hlx x.kids [] k c h0 h1 rfl (by omega)
  simp only [lJ,xY,e1,aj,e2,aJ,aX,m9]
  obtain ⟨t1,t2⟩:=this
  rw [show (((([]:LT).length:Nat):Int))=0 from rfl] at t1 t2
  by_cases hs:(aK x.kids:Int)<=c
  ·obtain ⟨i1,i2⟩:=ih (p++[x]) m (c-aK x.kids) (by omega) (by omega) e4 hm'
   rw [t1 hs,e3]
   refine ⟨fun h=> ?_,fun h=>i2 (by omega)⟩
   rw [i1 (by omega),show c-(aK x.kids:Int)-(aX r:Int)=c-((aK x.kids+aX r:Nat):Int) by omega]
  ·exact ⟨fun h=>absurd (by omega) hs,fun _=>t2 hs⟩
theorem al0 (hk:Fu k) (Y:Bool×Int->OS S) (hQ: ∀y∈t.kids,wP hd k y) (hQ': ∀b∈t.sys,∀y∈b.kids,wP hd k y) (ht:OkT t):
  ∀ (r p:LT) (m:Nat) (c:Int),0<=c->c<4611686018427387904->t.kids=p++r->r.length<m->
  ∃w,sr hd k Y t m c (p.length:Int)=Y (decide (((aK r+aX t.sys:Nat):Int)<=c),w)/\(((aK r+aX t.sys:Nat):Int)<=c->w=c-((aK r+aX t.sys:Nat):Int)):=by
 obtain ⟨o1,o2,o3,o4,o5,o6,o7⟩:=ht.no
 intro r
 induction r with
 |nil=>
  intro p m c h0 h1 h hm
  obtain ⟨m,rfl,hm'⟩:=aq hm
  have hs: ∀more:Int,_:=fun more=>al1 hk Y (more:=more) hQ' o7 (fun b hb=>(ht.bi hb).1.2.2) t.sys [] k c h0 h1 rfl (by omega)
  have key: ∀more:Int,∃w,lJ hd k Y t k c 0 more=Y (decide (((aX t.sys:Nat):Int)<=c),w)/\(((aX t.sys:Nat):Int)<=c->w=c-((aX t.sys:Nat):Int)):=fun more=>by
   by_cases hc:(aX t.sys:Int)<=c
   ·simp_all
   ·obtain ⟨w,e⟩:=(hs more).2 hc
    grind
  have hz:aK []+aX t.sys=aX t.sys:=by rw [aK,g7]
  rw [hz]
  simp only [sr,xX,cV h,ah]
  cases (t.kind==15) with
  |true=>exact key 1
  |false=>exact key 0
 |cons y r ih=>
  intro p m c h0 h1 h hm
  obtain ⟨m,rfl,hm'⟩:=aq hm
  obtain ⟨e1,e2,e3,e4⟩:=aR h (by omega)
  have hy:=hQ y (by grind)
  obtain ⟨w,hw,hw'⟩:=hy c (fun r1=>(fun r3:Bool×Int=>ac (!r3.1) (Y (false,r3.2)) (sr hd k Y t m r3.2 (((p++[y]).length:Nat):Int))) (r1.1,r1.2)) h0 h1
  have hz:aK (y::r)+aX t.sys=ax y+aK r+aX t.sys:=by rw [aK]
  rw [hz]
  simp only [sr,xX,e1,aj,e2,aJ,al hk,m7,zh,aA,e3]
  rw [hw]
  by_cases hs:(ax y:Int)<=c
  ·have:=hw' hs
   subst this
   obtain ⟨u,i1,i2⟩:=ih (p++[y]) m (c-ax y) (by omega) (by omega) e4 hm'
   grind [ah]
  grind [aj,decide_eq_false]
end
theorem aq1 (t:Tm):OkT t-> ∀ {k:Nat} (c:Int) (Y:Bool×Int->OS S),Fd k (aw t)->0<=c->c<4611686018427387904->
  ∃w,jj k t c Y=Y (decide ((ax t:Int)-1<=c),w)/\((ax t:Int)-1<=c->w=c-((ax t:Int)-1)):=by
 induction t using eI with
 |h t ih1 ih2=>
  intro ht k c Y hk h1 h2
  obtain ⟨q,rfl,hq,hf⟩:=hk.pos' (du t)
  have cnt: ∀y,(∀ {k:Nat} (c:Int) (Y:Bool×Int->OS S),Fd k (aw y)->0<=c->c<4611686018427387904-> ∃w,jj k y c Y=Y (decide ((ax y:Int)-1<=c),w)/\((ax y:Int)-1<=c->w=c-((ax y:Int)-1)))->
    Fd q (aw y)->wP (S:=S) (jj q) q y:=by
   intro y hy hfy c g h0 h1
   simp only [ui,aA,bw (show-9223372036854775808<=c-1 by omega) (by omega),bR]
   have:=l7 y
   by_cases hc:c-1>=0
   ·rw [if_pos hc]
    obtain ⟨w,e,e'⟩:=hy (c-1) (fun r1=>g (r1.1,r1.2)) hfy (by omega) (by omega)
    grind
   ·rw [if_neg hc]
    exact ⟨c-1,by grind,fun h=>by omega⟩
  obtain ⟨w,e,e'⟩:=al0 hq Y (fun y hy=>cnt y (fun c Y=>ih1 y hy (ht.ki hy) c Y) (hf _ (dc hy))) (fun b hb y hy=>cnt y (fun c Y=>ih2 b hb y hy ((ht.bi hb).2 y hy) c Y) (hf _ (di hb hy))) ht t.kids [] q c h1 h2 rfl (by have:=ht.no.2.2.2.2.2.1;omega)
  grind [jj,OL,Be]
theorem asf {t:Tm} (ht:OkT t) (hk:Fd k (aw t)) {most:Int} (h0:0<most) (h1:most<4611686018427387904) (Y:Bool->OS S):EP k t most Y=Y (decide ((ax t:Int)<=most)):=by
 simp only [EP,al hk.fu,ui,aA,bw (show-9223372036854775808<=most-1 by omega) (by omega),bR]
 rw [if_pos (by omega)]
 obtain ⟨w,e,_⟩:=aq1 t ht (most-1) (fun r1=>Y (r1.1,r1.2).1) hk (by omega) (by omega)
 grind
def VW (vars dims:Int) (n:Nat):Prop:= -9223372036854775808<=vars/\vars<9223372036854775808/\0<=dims/\dims+n<4611686018427387904
section
variable {hd:Tm->Int->Int->Bool->(Bool->OS S)->OS S} {vars dims:Int} {bd:Bool} {t:Tm}
theorem X6 (hv:VW vars dims 1) {v d:Int} (h1:0<=v/\v<=1) (h2:0<=d/\d<=1) (y:Tm) (g:Bool->OS S):zd hd k y v d vars dims bd g=hd y (af .i64 (dL vars v)) (dims+d) bd g:=by
 obtain ⟨v1,v2,v3,v4⟩:=hv
 simp only [zd,aA,bR,bw (show-9223372036854775808<=dims+d by omega) (by omega)]
 unfold dL
 split
 ·rw [Int.add_zero]
 ·rfl
theorem alZ (hk:Fu k) (Y:Bool->OS S) (rec1:Int->Int->OS S) (hv:VW vars dims 1) {v more:Int} {x:Br Tm} (hm:more=aW t.kind) (hQ: ∀y∈x.kids,∀g,hd y vars (dims+more) bd g=g (bM bd vars (dims+more) y)) (hl:x.kids.length<1073741824):
  ∀ (r p:LT) (m:Nat),x.kids=p++r->r.length<m->p8 hd k Y rec1 vars dims bd t v x more m (p.length:Int)=if c_ bd vars dims t.kind r then rec1 (af .i64 (v+1)) more else Y false:=by
 subst hm
 intro r
 induction r with
 |nil=>
  intro p m h hm
  obtain ⟨m,rfl,hm'⟩:=aq hm
  simp only [p8,C0,cV h,ah];rfl
 |cons y r ih=>
  intro p m h hm
  obtain ⟨m,rfl,hm'⟩:=aq hm
  obtain ⟨e1,e2,e3,e4⟩:=aR h (by omega)
  have hy:=hQ y (by grind)
  have h0:af .i64 (dL vars 0)=vars:=by rw [show dL vars 0=vars by grind [dL]];exact bw hv.1 hv.2.1
  simp only [p8,C0,e1,aj,e2,aJ,al hk,aA,X6 hv (show (0:Int)<=0/\(0:Int)<=1 by omega) (fO t.kind),h0,hy,e3,ih (p++[y]) m e4 hm',Na]
  rw [c_]
theorem alY (hk:Fu k) (Y:Bool->OS S) (hv:VW vars dims 1) {more:Int} (hm:more=aW t.kind) (hQ: ∀b∈t.sys,∀y∈b.kids,∀g,hd y vars (dims+more) bd g=g (bM bd vars (dims+more) y)) (hl:t.sys.length<1073741824) (hl': ∀b∈t.sys,b.kids.length<1073741824):
  ∀ (r p:LB) (m:Nat),t.sys=p++r->r.length<m->lK hd k Y vars dims bd t m (p.length:Int) more=Y (c5 bd vars dims t.kind r):=by
 intro r
 induction r with
 |nil=>
  grind [aq,lK,x_,ah,c5]
 |cons x r ih=>
  intro p m h hml
  obtain ⟨m,rfl,hm'⟩:=aq hml
  obtain ⟨e1,e2,e3,e4⟩:=aR h (by omega)
  have hx:x∈t.sys:=by grind
  have hlx:=hl' x hx
  have:=alZ (t:=t) (bd:=bd) hk Y (lK hd k Y vars dims bd t m) hv (v:=(p.length:Int)) hm (hQ x hx) hlx x.kids [] k rfl (by omega)
  have this:p8 hd k Y (lK hd k Y vars dims bd t m) vars dims bd t (p.length:Int) x more k 0=_:=this
  simp only [lK,x_,e1,aj,e2,aJ,this,e3,ih (p++[x]) m e4 hm']
  have ea:c5 bd vars dims t.kind (x::r)=(c_ bd vars dims t.kind x.kids&&c5 bd vars dims t.kind r):=by cases x;rfl
  grind
theorem alX (hk:Fu k) (Y:Bool->OS S) (hv:VW vars dims 1) (hQ: ∀y∈t.kids,∀v d,0<=v/\v<=1->0<=d/\d<=1-> ∀g,hd y (af .i64 (dL vars v)) (dims+d) bd g=g (bM bd (dL vars v) (dims+d) y)) (hQ': ∀b∈t.sys,∀y∈b.kids,∀g,hd y vars (dims+aW t.kind) bd g=g (bM bd vars (dims+aW t.kind) y)) (ht:OkT t):
  ∀ (r p:LT) (m:Nat),t.kids=p++r->r.length<m->su hd k Y vars dims bd t m (p.length:Int)=Y (cz bd vars dims t.kind p.length r&&c5 bd vars dims t.kind t.sys):=by
 obtain ⟨o1,o2,o3,o4,o5,o6,o7⟩:=ht.no
 intro r
 induction r with
 |nil=>
  intro p m h hm
  obtain ⟨m,rfl,hm'⟩:=aq hm
  have hs:lK hd k Y vars dims bd t k 0 (aW t.kind)=_:=alY hk Y hv rfl hQ' o7 (fun b hb=>(ht.bi hb).1.2.2) t.sys [] k rfl (by omega)
  grind [su,xZ,cz,aW,dX]
 |cons y r ih=>
  intro p m h hm
  obtain ⟨m,rfl,hm'⟩:=aq hm
  obtain ⟨e1,e2,e3,e4⟩:=aR h (by omega)
  have b1:=lf t.kind p.length
  have b2:=jJ t.kind p.length
  have hy:=hQ y (by grind) (cv t.kind p.length) (cF t.kind p.length) b1 b2
  simp only [su,xZ,e1,aj,e2,aJ,al hk,m7,aA,X6 hv b1 b2,hy,e3,ih (p++[y]) m e4 hm',oL]
  grind [cz]
end
theorem w8 (bd:Bool) (vars dims:Int) (t:Tm):bM bd vars dims t=(!(bd&&decide (dims>24))&&(dE vars dims t&&(cz bd vars dims t.kind 0 t.kids&&c5 bd vars dims t.kind t.sys))):=by cases t;rfl
theorem Zr {vars v:Int} (h:0<=v/\v<=1):vars<=dL vars v/\dL vars v<=vars+1:=by grind [dL]
theorem afy {bd:Bool} (t:Tm):OkT t-> ∀ {V W D:Int},W<0->9223372036854775808<=V->bM bd W D t=bM bd V D t:=by
 induction t using kf with
 |h kd n nm r ks sys ih1 ih2=>
  intro ht V W D hW hV
  have ho:=ht
  rw [OkT] at ht
  obtain ⟨o1,o2,o3,o4,o5,o6,o7⟩:=ht.1
  have hk: ∀ {l:LT} {i:Nat},(∀x∈l,OkT x-> ∀ {V W D:Int},W<0->9223372036854775808<=V->bM bd W D x=bM bd V D x)->bo l->cz bd W D kd i l=cz bd V D kd i l:=by
   intro l
   induction l with
   |nil=>intro i _ _;rw [cz,cz]
   |cons t l ih=>
    intro i h hl
    rw [bo] at hl
    have hb:=lf kd i
    rw [cz,cz,ih (fun x hx=>h x (by simp [hx])) hl.2,h t (by simp) hl.1 (W:=dL W (cv kd i)) (V:=dL V (cv kd i)) (by unfold dL;split<;>omega) (by unfold dL;split<;>omega)]
  have hm: ∀ {l:LT},(∀x∈l,OkT x-> ∀ {V W D:Int},W<0->9223372036854775808<=V->bM bd W D x=bM bd V D x)->bo l->c_ bd W D kd l=c_ bd V D kd l:=by
   intro l
   induction l with
   |nil=>intro _ _;rw [c_,c_]
   |cons t l ih=>
    intro h hl
    rw [bo] at hl
    rw [c_,c_,ih (fun x hx=>h x (by simp [hx])) hl.2,h t (by simp) hl.1 hW hV]
  have hs: ∀ {l:LB},(∀b∈l,∀x∈b.kids,OkT x-> ∀ {V W D:Int},W<0->9223372036854775808<=V->bM bd W D x=bM bd V D x)->bH l->c5 bd W D kd l=c5 bd V D kd l:=by
   intro l
   induction l with
   |nil=>intro _ _;rw [c5,c5]
   |cons b l ih=>
    intro h hl
    obtain ⟨f,ks'⟩:=b
    rw [bH,iH] at hl
    rw [c5,c5,mf,mf,ih (fun b hb=>h b (by simp [hb])) hl.2,hm (l:=ks') (h ⟨f,ks'⟩ (by simp)) hl.1.2]
  have hw:dE W D (.mk kd n nm r ks sys)=dE V D (.mk kd n nm r ks sys):=by
   unfold dE
   have:decide (W<0\/n<W)=decide (V<0\/n<V):=by
    have hn:n<9223372036854775808:=by unfold a6 at o2;omega
    rw [decide_eq_true (.inl hW),decide_eq_true (.inr (by omega))]
   dsimp only
   rw [this]
  rw [bM,bM,hw,hk ih1 ht.2.1,hs ih2 ht.2.2]
theorem aqW (t:Tm):OkT t-> ∀ {k:Nat} {vars dims:Int} {bd:Bool} (Y:Bool->OS S),Fd k (aw t)->VW vars dims (aw t)->kB k t vars dims bd Y=Y (bM bd vars dims t):=by
 induction t using eI with
 |h t ih1 ih2=>
  intro ht k vars dims bd Y hk hv
  obtain ⟨q,rfl,hq,hf⟩:=hk.pos' (du t)
  have hp:=du t
  have hv':=hv
  unfold VW at hv'
  have hv1:VW vars dims 1:=by unfold VW;omega
  have hm:=fO t.kind
  have hQ: ∀y∈t.kids,∀v d,0<=v/\v<=1->0<=d/\d<=1-> ∀g:Bool->OS S,kB q y (af .i64 (dL vars v)) (dims+d) bd g=g (bM bd (dL vars v) (dims+d) y):=fun y hy v d h1 h2 g=>by
   have hd:=dc hy
   have hvb:=Zr (vars:=vars) h1
   by_cases hlt:dL vars v<9223372036854775808
   ·rw [bw (by omega) hlt]
    exact ih1 y hy (ht.ki hy) g (hf _ (dc hy)) (by unfold VW;omega)
   ·have e:dL vars v=9223372036854775808:=by omega
    rw [e,show af .i64 9223372036854775808= -9223372036854775808 from by decide,ih1 y hy (ht.ki hy) g (hf _ (dc hy)) (by unfold VW;omega),afy y (ht.ki hy) (by omega) (Int.le_refl _)]
  have hQ': ∀b∈t.sys,∀y∈b.kids,∀g:Bool->OS S,kB q y vars (dims+aW t.kind) bd g=g (bM bd vars (dims+aW t.kind) y):=fun b hb y hy g=>ih2 b hb y hy ((ht.bi hb).2 y hy) g (hf _ (di hb hy)) (by
   have:=di hb hy;unfold VW;omega)
  have:=alX (bd:=bd) hq Y hv1 hQ hQ' ht t.kids [] q rfl (by have:=ht.no.2.2.2.2.2.1;omega)
  have this:su (kB q) q Y vars dims bd t q 0=_:=this
  simp only [kB,Y5,aA,al hq,arD hq ht (show 0<=dims by omega) (show dims<9223372036854775808 by omega),EK,OM,this]
  rw [w8]
  cases bd with
  |true=>
   rw [aj,bR,gR]
   by_cases h24:dims>24
   ·grind
   ·rw [if_neg h24,decide_eq_false h24]
    cases dE vars dims t<;>rfl
  |false=>
   rw [ah]
   cases dE vars dims t<;>rfl
def VD (vars dims:Int) (n:Nat):Prop:= -4611686018427387904<=vars/\vars+n<4611686018427387904/\0<=dims/\dims+n<4611686018427387904
theorem aqV (t:Tm) (ht:OkT t) {k:Nat} {vars dims:Int} {bd:Bool} (Y:Bool->OS S) (hk:Fd k (aw t)) (hv:VD vars dims (aw t)):kB k t vars dims bd Y=Y (bM bd vars dims t):=
 aqW t ht Y hk (by obtain ⟨v1,v2,v3,v4⟩:=hv;exact ⟨by omega,by omega,v3,v4⟩)
theorem ase {t:Tm} (ht:OkT t) (hk:Fd k (aw t)) (Y:Int->OS S):EO k t Y=Y (if aw t>200 then 62 else if ax t>20000 then 221 else 0):=by
 simp only [EO,aA,asd t ht _ hk (show (-4611686018427387904:Int)<=200 by omega) (show (200:Int)<4611686018427387904 by omega),al hk.fu,asf ht hk (show (0:Int)<20000 by omega) (show (20000:Int)<4611686018427387904 by omega)]
 by_cases h1:aw t>200
 ·rw [if_pos h1,decide_eq_false (by omega)];rfl
 ·rw [if_neg h1,decide_eq_true (by omega),bY,ah]
  by_cases h2:ax t>20000
  ·rw [if_pos h2,decide_eq_false (by omega)];rfl
  ·rw [if_neg h2,decide_eq_true (by omega)];rfl
theorem jc {t:Tm} (ht:OkT t) (hk:Fd k (aw t)) (hdep:aw t<1099511627776) (Y:Int->OS S):ji k t Y=Y (ck t):=by
 simp only [ji,aA,al hk.fu,ase ht hk,aqV t ht _ hk (show VD (-1) 24 (aw t) by unfold VD;omega),cH]
 unfold ck
 by_cases h1:aw t>200
 ·rw [if_pos h1,if_pos h1];rfl
 ·rw [if_neg h1,if_neg h1]
  by_cases h2:ax t>20000
  ·rw [if_pos h2,if_pos h2];rfl
  ·rw [if_neg h2,if_neg h2,decide_eq_true rfl,bY,ah]
   cases bM false (-1) 24 t<;>rfl
theorem PF: ∀ {l:LT},(∀x∈l,aw x<=ax x)->a7 l<=aK l:=by
 intro l
 induction l<;>grind [a7,aK]
theorem agH: ∀ {l:LB},(∀b∈l,∀x∈b.kids,aw x<=ax x)->bg l<=aX l:=by
 intro l
 induction l<;>grind [bg,aX,uk,m9,PF]
theorem nI (t:Tm):aw t<=ax t:=by
 induction t using eI<;>grind [ul,Be,PF,agH]
section
variable {hd:Tm->(Int->OS S)->OS S} {t:Tm}
theorem ano (hk:Fu k) (Y:Int->OS S) (rec1:Int->Int->OS S) {v:Int} {x:Br Tm} (hv:ai t.sys v=some x) (hQ: ∀y∈x.kids,∀g,hd y g=g ((ax y:Nat):Int)) (hl:x.kids.length<1073741824):
  ∀ (r p:LT) (m a:Nat),x.kids=p++r->r.length<m->a+aK r<4611686018427387904->sh hd k Y rec1 t v m (a:Int) (p.length:Int)=rec1 ((a+aK r:Nat):Int) (af .i64 (v+1)):=by
 intro r
 induction r with
 |nil=>
  grind [aq,aK,sh,CG,ah]
 |cons y r ih=>
  intro p m a h hm ha
  obtain ⟨m,rfl,hm'⟩:=aq hm
  obtain ⟨e1,e2,e3,e4⟩:=aR h (by omega)
  have hy:=hQ y (by grind)
  have hz:a+aK (y::r)=(a+ax y)+aK r:=by rw [aK];omega
  rw [hz] at ha ⊢
  have hw:af .i64 ((a:Int)+((ax y:Nat):Int))=((a+ax y:Nat):Int):=by grind [bw]
  simp only [sh,CG,hv,e1,aj,e2,aJ,aA,hy,e3,hw,ih (p++[y]) m (a+ax y) e4 hm' ha]
theorem anm (hk:Fu k) (Y:Int->OS S) (hQ: ∀b∈t.sys,∀y∈b.kids,∀g,hd y g=g ((ax y:Nat):Int)) (hl:t.sys.length<1073741824) (hl': ∀b∈t.sys,b.kids.length<1073741824):
  ∀ (r p:LB) (m a:Nat),t.sys=p++r->r.length<m->a+aX r<4611686018427387904->og hd k Y t m (a:Int) (p.length:Int)=Y ((a+aX r:Nat):Int):=by
 intro r
 induction r with
 |nil=>
  grind [aq,aX,og,xK,ah]
 |cons x r ih=>
  intro p m a h hm ha
  obtain ⟨m,rfl,hm'⟩:=aq hm
  obtain ⟨e1,e2,e3,e4⟩:=aR h (by omega)
  have hx:x∈t.sys:=by grind
  have hlx:=hl' x hx
  have hz:a+aX (x::r)=(a+aK x.kids)+aX r:=by rw [aX,m9];omega
  rw [hz] at ha ⊢
  have:=ano (t:=t) hk Y (og hd k Y t m) e2 (hQ x hx) hlx x.kids [] k a rfl (by omega) (by omega)
  simp only [og,xK,e1,aj]
  refine ak this ?_
  rw [e3,ih (p++[x]) m (a+aK x.kids) e4 hm' ha]
theorem anl (hk:Fu k) (Y:Int->OS S) (hQ: ∀y∈t.kids,∀g,hd y g=g ((ax y:Nat):Int)) (hQ': ∀b∈t.sys,∀y∈b.kids,∀g,hd y g=g ((ax y:Nat):Int)) (ht:OkT t):
  ∀ (r p:LT) (m a:Nat),t.kids=p++r->r.length<m->a+aK r+aX t.sys<4611686018427387904->vt hd k Y t m (a:Int) (p.length:Int)=Y ((a+aK r+aX t.sys:Nat):Int):=by
 obtain ⟨o1,o2,o3,o4,o5,o6,o7⟩:=ht.no
 intro r
 induction r with
 |nil=>
  intro p m a h hm ha
  obtain ⟨m,rfl,hm'⟩:=aq hm
  have hz:a+aK []=a:=by rfl
  rw [hz] at ha ⊢
  have:=anm hk Y hQ' o7 (fun b hb=>(ht.bi hb).1.2.2) t.sys [] k a rfl (by omega) ha
  grind [vt,xJ,ah]
 |cons y r ih=>
  intro p m a h hm ha
  obtain ⟨m,rfl,hm'⟩:=aq hm
  obtain ⟨e1,e2,e3,e4⟩:=aR h (by omega)
  have hy:=hQ y (by grind)
  have hz:a+aK (y::r)=(a+ax y)+aK r:=by rw [aK];omega
  rw [hz] at ha ⊢
  have hw:af .i64 ((a:Int)+((ax y:Nat):Int))=((a+ax y:Nat):Int):=by grind [bw]
  simp only [vt,xJ,e1,aj,e2,aJ,aA,hy,e3,hw,ih (p++[y]) m (a+ax y) e4 hm' ha]
end
theorem M7 (t:Tm):OkT t-> ∀ {k:Nat} (Y:Int->OS S),Fd k (aw t)->ax t<4611686018427387904->jN k t Y=Y ((ax t:Nat):Int):=by
 induction t using eI with
 |h t ih1 ih2=>
  intro ht k Y hk hs
  obtain ⟨q,rfl,hq,hf⟩:=hk.pos' (du t)
  have hz:=Be t
  have:=anl hq Y (fun y hy g=>ih1 y hy (ht.ki hy) g (hf _ (dc hy)) (by have:=kS hy;omega)) (fun b hb y hy g=>ih2 b hb y hy ((ht.bi hb).2 y hy) g (hf _ (di hb hy)) (by have:=kS hy;have:=ti hb;omega)) ht t.kids [] q 1 rfl (by have:=ht.no.2.2.2.2.2.1;omega) (by omega)
  grind [jN,Oj]
section
variable {hd:Tm->(Int->OS S)->OS S} {t:Tm}
theorem TQ (a b:Nat) {α:Type} (f:Int->α):ac (decide (((b:Nat):Int)>(a:Int))) (f (b:Int)) (f (a:Int))=f ((max a b:Nat):Int):=by
 grind [bR]
theorem amW (hk:Fu k) (Y:Int->OS S) (rec1:Int->Int->OS S) {v:Int} {x:Br Tm} (hv:ai t.sys v=some x) (hQ: ∀y∈x.kids,∀g,hd y g=g ((aw y:Nat):Int)) (hl:x.kids.length<1073741824):
  ∀ (r p:LT) (m a:Nat),x.kids=p++r->r.length<m->pV hd k Y rec1 t v m (a:Int) (p.length:Int)=rec1 ((max a (a7 r):Nat):Int) (af .i64 (v+1)):=by
 intro r
 induction r with
 |nil=>
  grind [aq,a7,pV,CE,ah]
 |cons y r ih=>
  intro p m a h hm
  obtain ⟨m,rfl,hm'⟩:=aq hm
  obtain ⟨e1,e2,e3,e4⟩:=aR h (by omega)
  have hy:=hQ y (by grind)
  have hz:max a (a7 (y::r))=max (max a (aw y)) (a7 r):=by rw [a7];omega
  rw [hz]
  simp only [pV,CE,hv,e1,aj,e2,aJ,aA,hy,e3]
  rw [TQ a (aw y) (fun z=>pV hd k Y rec1 t v m z (((p++[y]).length:Nat):Int)),ih (p++[y]) m (max a (aw y)) e4 hm']
theorem amV (hk:Fu k) (Y:Int->OS S) (hQ: ∀b∈t.sys,∀y∈b.kids,∀g,hd y g=g ((aw y:Nat):Int)) (hl:t.sys.length<1073741824) (hl': ∀b∈t.sys,b.kids.length<1073741824):
  ∀ (r p:LB) (m a:Nat),t.sys=p++r->r.length<m->max a (bg r)<4611686018427387904->oe hd k Y t m (a:Int) (p.length:Int)=Y ((max a (bg r)+1:Nat):Int):=by
 intro r
 induction r with
 |nil=>
  intro p m a h hm ha
  obtain ⟨m,rfl,hm'⟩:=aq hm
  have hz:max a (bg [])=a:=by rw [bg];omega
  rw [hz] at ha ⊢
  have hw:af .i64 ((a:Int)+1)=((a+1:Nat):Int):=by grind [bw]
  grind [oe,xH,ah]
 |cons x r ih=>
  intro p m a h hm ha
  obtain ⟨m,rfl,hm'⟩:=aq hm
  obtain ⟨e1,e2,e3,e4⟩:=aR h (by omega)
  have hx:x∈t.sys:=by grind
  have hlx:=hl' x hx
  have hz:max a (bg (x::r))=max (max a (a7 x.kids)) (bg r):=by rw [bg,uk];omega
  rw [hz] at ha ⊢
  have:=amW (t:=t) hk Y (oe hd k Y t m) e2 (hQ x hx) hlx x.kids [] k a rfl (by omega)
  simp only [oe,xH,e1,aj]
  refine ak this ?_
  rw [e3,ih (p++[x]) m (max a (a7 x.kids)) e4 hm' ha]
theorem amU (hk:Fu k) (Y:Int->OS S) (hQ: ∀y∈t.kids,∀g,hd y g=g ((aw y:Nat):Int)) (hQ': ∀b∈t.sys,∀y∈b.kids,∀g,hd y g=g ((aw y:Nat):Int)) (ht:OkT t):
  ∀ (r p:LT) (m a:Nat),t.kids=p++r->r.length<m->max (max a (a7 r)) (bg t.sys)<4611686018427387904->sg hd k Y t m (a:Int) (p.length:Int)=Y ((max (max a (a7 r)) (bg t.sys)+1:Nat):Int):=by
 obtain ⟨o1,o2,o3,o4,o5,o6,o7⟩:=ht.no
 intro r
 induction r with
 |nil=>
  intro p m a h hm ha
  obtain ⟨m,rfl,hm'⟩:=aq hm
  have hz:max a (a7 [])=a:=by rw [a7];omega
  rw [hz] at ha ⊢
  have:=amV hk Y hQ' o7 (fun b hb=>(ht.bi hb).1.2.2) t.sys [] k a rfl (by omega) ha
  grind [sg,xG,ah]
 |cons y r ih=>
  intro p m a h hm ha
  obtain ⟨m,rfl,hm'⟩:=aq hm
  obtain ⟨e1,e2,e3,e4⟩:=aR h (by omega)
  have hy:=hQ y (by grind)
  have hz:max a (a7 (y::r))=max (max a (aw y)) (a7 r):=by rw [a7];omega
  rw [hz] at ha ⊢
  simp only [sg,xG,e1,aj,e2,aJ,aA,hy,e3]
  rw [TQ a (aw y) (fun z=>sg hd k Y t m z (((p++[y]).length:Nat):Int)),ih (p++[y]) m (max a (aw y)) e4 hm' ha]
end
theorem Yy (t:Tm):OkT t-> ∀ {k:Nat} (Y:Int->OS S),Fd k (aw t)->aw t<4611686018427387904->kz k t Y=Y ((aw t:Nat):Int):=by
 induction t using eI with
 |h t ih1 ih2=>
  intro ht k Y hk hs
  obtain ⟨q,rfl,hq,hf⟩:=hk.pos' (du t)
  have hz:=ul t
  have:=amU hq Y (fun y hy g=>ih1 y hy (ht.ki hy) g (hf _ (dc hy)) (by have:=dc hy;omega)) (fun b hb y hy g=>ih2 b hb y hy ((ht.bi hb).2 y hy) g (hf _ (di hb hy)) (by have:=di hb hy;omega)) ht t.kids [] q 0 rfl (by have:=ht.no.2.2.2.2.2.1;omega) (by omega)
  grind [kz,Oh]
section
variable {hd:Tm->Int->Int->Bool->(Bool->OS S)->OS S} {vars dims:Int} {bd:Bool} {t:Tm}
theorem amP (hk:Fu k) (Y:Bool->OS S) (rec5:Int->OS S) (hv:VD vars dims 1) {v:Int} {x:Br Tm} (hQ: ∀y∈x.kids,∀g,hd y vars (dims+aW t.kind) bd g=g (bM bd vars (dims+aW t.kind) y)) (hl:x.kids.length<1073741824):
  ∀ (r p:LT) (m:Nat),x.kids=p++r->r.length<m->pU hd k Y rec5 x t vars v dims bd m (p.length:Int)=if c_ bd vars dims t.kind r then rec5 (af .i64 (v+1)) else Y false:=by
 have hmo:=fO t.kind
 unfold VD at hv
 intro r
 induction r with
 |nil=>
  intro p m h hm
  obtain ⟨m,rfl,hm'⟩:=aq hm
  simp only [pU,CA,cV h,ah];rfl
 |cons y r ih=>
  intro p m h hm
  obtain ⟨m,rfl,hm'⟩:=aq hm
  obtain ⟨e1,e2,e3,e4⟩:=aR h (by omega)
  have hy:=hQ y (by grind)
  simp only [pU,CA,e1,aj,e2,aJ,al hk,aA,GV,bw (n:=dims+aW t.kind) (by omega) (by omega),hy,e3,ih (p++[y]) m e4 hm',Na]
  rw [c_]
theorem amO (hk:Fu k) (Y:Bool->OS S) (hv:VD vars dims 1) (hQ: ∀b∈t.sys,∀y∈b.kids,∀g,hd y vars (dims+aW t.kind) bd g=g (bM bd vars (dims+aW t.kind) y)) (ht:OkT t):
  ∀ (r p:LB) (m:Nat),t.sys=p++r->r.length<m->lE hd k Y t vars dims bd m (p.length:Int)=Y (r.all fun b=>cO t.kind dims b&&c_ bd vars dims t.kind b.kids):=by
 obtain ⟨o1,o2,o3,o4,o5,o6,o7⟩:=ht.no
 have hv':=hv
 unfold VD at hv'
 intro r
 induction r with
 |nil=>
  grind [aq,lE,xA,ah]
 |cons x r ih=>
  intro p m h hml
  obtain ⟨m,rfl,hm'⟩:=aq hml
  obtain ⟨e1,e2,e3,e4⟩:=aR h (by omega)
  have hx:x∈t.sys:=by grind
  have hb:=(ht.bi hx).1
  have:=amP (t:=t) (bd:=bd) hk Y (lE hd k Y t vars dims bd m) hv (v:=(p.length:Int)) (hQ x hx) hb.2.2 x.kids [] k rfl (by omega)
  have this:pU hd k Y (lE hd k Y t vars dims bd m) x t vars (p.length:Int) dims bd k 0=_:=this
  have hq:((x.kids.length:Int)==dF t.kind)=decide ((x.kids.length:Int)=dF t.kind):=by rfl
  simp only [lE,xA,e1,aj,e2,aJ,al hk,YF,tf hk hb.1 (show x.face.length<2147483648 by omega),Ym hk hb.1 hb.2.1,this,e3,ih (p++[x]) m e4 hm',akD,oL,hq]
  grind [cO,decide,eo]
theorem amN (hk:Fu k) (Y:Bool->OS S) (hv:VD vars dims 1) (hQ: ∀y∈t.kids,∀v d,0<=v/\v<=1->0<=d/\d<=1-> ∀g,hd y (dL vars v) (dims+d) bd g=g (bM bd (dL vars v) (dims+d) y)) (hQ': ∀b∈t.sys,∀y∈b.kids,∀g,hd y vars (dims+aW t.kind) bd g=g (bM bd vars (dims+aW t.kind) y)) (ht:OkT t):
  ∀ (r p:LT) (m:Nat),t.kids=p++r->r.length<m->n9 hd k Y t vars dims bd m (p.length:Int)=Y (cz bd vars dims t.kind p.length r&&t.sys.all fun b=>cO t.kind dims b&&c_ bd vars dims t.kind b.kids):=by
 obtain ⟨o1,o2,o3,o4,o5,o6,o7⟩:=ht.no
 have hv':=hv
 unfold VD at hv'
 intro r
 induction r with
 |nil=>
  intro p m h hm
  obtain ⟨m,rfl,hm'⟩:=aq hm
  have hs:lE hd k Y t vars dims bd k 0=_:=amO hk Y hv hQ' ht t.sys [] k rfl (by omega)
  grind [n9,xz,ah,cz]
 |cons y r ih=>
  intro p m h hm
  obtain ⟨m,rfl,hm'⟩:=aq hm
  obtain ⟨e1,e2,e3,e4⟩:=aR h (by omega)
  have b1:=lf t.kind p.length
  have b2:=jJ t.kind p.length
  have hy:=hQ y (by grind) (cv t.kind p.length) (cF t.kind p.length) b1 b2
  simp only [n9,xz,e1,aj,e2,aJ,al hk,Bb hk,aA,bw (n:=dims+cF t.kind p.length) (by omega) (by omega),bw (n:=vars+0) (by omega) (by omega),bw (n:=vars+cv t.kind p.length) (by omega) (by omega),e3,ih (p++[y]) m e4 hm']
  have hvb:ac (decide (vars<0)) (hd y (vars+0) (dims+cF t.kind p.length) bd fun r8=>ac (!r8) (Y false) (Y (cz bd vars dims t.kind (p++[y]).length r&&t.sys.all fun b=>cO t.kind dims b&&c_ bd vars dims t.kind b.kids)))
    (hd y (vars+cv t.kind p.length) (dims+cF t.kind p.length) bd fun r10=>ac (!r10) (Y false) (Y (cz bd vars dims t.kind (p++[y]).length r&&t.sys.all fun b=>cO t.kind dims b&&c_ bd vars dims t.kind b.kids)))
    =hd y (dL vars (cv t.kind p.length)) (dims+cF t.kind p.length) bd fun r8=>ac (!r8) (Y false) (Y (cz bd vars dims t.kind (p++[y]).length r&&t.sys.all fun b=>cO t.kind dims b&&c_ bd vars dims t.kind b.kids)):=by
   grind [bR,dL]
  simp_all [oL,cz,Bool.and_assoc]
end
def nK (vars:Int) (t:Tm):Bool:=if t.kind=1 then decide (0<=t.n)&&decide (vars<0\/t.n<vars) else decide (t.n=0)
def vU (t:Tm):Bool:=if t.kind=2 then sK t.name.data.toList else decide (t.name.size=0)
def rK (t:Tm):Bool:=if t.kind=13\/t.kind=21\/t.kind=26 then cD t.r else if t.kind=14 then ep t.r else decide (t.r.length=0)
theorem KX (d:Int) (l:LC) (h:l.length=0):eo l d=true:=by
 grind [eo,mem_bitsN,EQ,mc]
theorem afz {α:Type} (l:List α) (f g:α->Bool):(l.all fun x=>f x&&g x)=(l.all f&&l.all g):=by
 grind
theorem afx {bd:Bool} {vars dims kd:Int}: ∀ {l:LB},(l.all fun b=>c_ bd vars dims kd b.kids)=c5 bd vars dims kd l:=by
 intro l
 induction l with
 |nil=>rfl
 |cons b l ih=>cases b<;>grind [c5,mf]
theorem ap_ (vars dims:Int) (t:Tm) (AK AS:Bool):
  (decide (fK t.kind=t.kids.length)&&(decide (0<t.sys.length->dF t.kind≠0)&&(nK vars t&&(vU t&&(rK t&&(eo t.r dims&&(AK&&(t.sys.all (cO t.kind dims)&&AS))))))))=(dE vars dims t&&(AK&&AS)):=by
 rw [Uf]
 have hp:decide (0<t.sys.length->dF t.kind≠0)=decide (dF t.kind=0->t.sys.length=0):=dcg ⟨fun h h0=>by
  omega,fun h h0 h1=>by omega⟩
 rw [hp]
 cases decide (fK t.kind=t.kids.length) with
 |false=>rfl
 |true=>
  simp only [gR]
  by_cases hs:dF t.kind=0->t.sys.length=0
  ·rw [decide_eq_true hs]
   have nosys:dF t.kind=0->t.sys.all (cO t.kind dims)=true:=fun h=>by
    grind
   unfold nK vU rK sR
   by_cases c1:t.kind=1
   ·simp only [c1,if_true,show ((1:Int)=2)=False from by simp,show ((1:Int)=13)=False from by simp,show ((1:Int)=14)=False from by simp,show ((1:Int)=21)=False from by simp,show ((1:Int)=26)=False from by simp,or_self,if_false,true_or,decide_true,gR,false_or]
    rw [c1] at nosys
    rw [nosys (by decide)]
    grind [KX]
   ·by_cases c2:t.kind=2
    ·simp only [c2,if_true,show ((2:Int)=1)=False from by simp,show ((2:Int)=13)=False from by simp,show ((2:Int)=14)=False from by simp,show ((2:Int)=21)=False from by simp,show ((2:Int)=26)=False from by simp,or_self,if_false,true_or,decide_true,gR,false_or]
     rw [c2] at nosys
     rw [nosys (by decide)]
     grind [KX]
    ·simp only [c1,c2,if_false,false_or,gR]
     by_cases c3:t.kind=13\/t.kind=21\/t.kind=26
     ·rw [if_pos c3,if_pos c3,nosys (by rcases c3 with h|h|h<;>rw [h]<;>decide)]
      grind
     ·rw [if_neg c3,if_neg c3]
      by_cases c4:t.kind=14
      ·rw [if_pos c4,if_pos c4,nosys (by rw [c4];decide)]
       grind
      grind [KX]
  grind
theorem arZ (t:Tm):OkT t-> ∀ {k:Nat} {vars dims:Int} {bd:Bool} (Y:Bool->OS S),Fd k (aw t)->VD vars dims (aw t)->eC k t vars dims bd Y=Y (bM bd vars dims t):=by
 induction t using eI with
 |h t ih1 ih2=>
  intro ht k vars dims bd Y hk hv
  obtain ⟨q,rfl,hq,hf⟩:=hk.pos' (du t)
  have hp:=du t
  have hv':=hv
  unfold VD at hv'
  have hv1:VD vars dims 1:=by unfold VD;omega
  have hm:=fO t.kind
  obtain ⟨o1,o2,o3,o4,o5,o6,o7⟩:=ht.no
  have hQ: ∀y∈t.kids,∀v d,0<=v/\v<=1->0<=d/\d<=1-> ∀g:Bool->OS S,eC q y (dL vars v) (dims+d) bd g=g (bM bd (dL vars v) (dims+d) y):=fun y hy v d h1 h2 g=>ih1 y hy (ht.ki hy) g (hf _ (dc hy)) (by
   have:=dc hy;have:=Zr (vars:=vars) h1;unfold VD;omega)
  have hQ': ∀b∈t.sys,∀y∈b.kids,∀g:Bool->OS S,eC q y vars (dims+aW t.kind) bd g=g (bM bd vars (dims+aW t.kind) y):=fun b hb y hy g=>ih2 b hb y hy ((ht.bi hb).2 y hy) g (hf _ (di hb hy)) (by
   have:=di hb hy;unfold VD;omega)
  have h4:n9 (eC q) q Y t vars dims bd q 0=_:=amN (bd:=bd) hq Y hv1 hQ hQ' ht t.kids [] q rfl (by omega)
  rw [afz,afx] at h4
  have h4:n9 (eC q) q Y t vars dims bd q 0=Y (cz bd vars dims t.kind 0 t.kids&&(t.sys.all (cO t.kind dims)&&c5 bd vars dims t.kind t.sys)):=h4
  generalize hAK:cz bd vars dims t.kind 0 t.kids=AK at h4
  generalize hAS:c5 bd vars dims t.kind t.sys=AS at h4
  generalize hw:(AK&&(t.sys.all (cO t.kind dims)&&AS))=W at h4
  obtain ⟨q',hq'⟩: ∃q',q=q'+1:=⟨q-1,by omega⟩
  have j3:vo (eC q) q Y t vars dims bd q=Y (eo t.r dims&&W):=by
   simp_all [vo,Cz,oL,al,Ym]
  have j2:vn (eC q) q Y t vars dims bd q=Y (rK t&&(eo t.r dims&&W)):=by
   have: ∀j,j=q'+1->vn (eC q) q Y t vars dims bd j=xy (eC q) q Y t vars dims bd (vo (eC q) q Y t vars dims bd q):=by rintro j rfl;rfl
   rw [this q hq',j3]
   simp only [xy,al hq,kR hq o4 (show t.r.length<2147483648 by omega),tf hq o4 (show t.r.length<2147483648 by omega),oL]
   have hr0:ac (decide (((t.r.length:Nat):Int)>0)) (Y false) (Y (eo t.r dims&&W))=Y (decide (t.r.length=0)&&(eo t.r dims&&W)):=by
    grind [bR,decide_eq_false]
   grind [dX,rK]
  have j1:zM (eC q) q Y t vars dims bd q=Y (vU t&&(rK t&&(eo t.r dims&&W))):=by
   have: ∀j,j=q'+1->zM (eC q) q Y t vars dims bd j=xx (eC q) q Y t vars dims bd (vn (eC q) q Y t vars dims bd q):=by rintro j rfl;rfl
   rw [this q hq',j2]
   simp only [xx,al hq,asa hq (show t.name.size<2147483648 by omega),Ls,oL]
   unfold vU
   by_cases c:t.kind=2
   ·simp_all [aj,ah,oL]
   grind [ah,aj]
  have j0:Fz (eC q) q Y t vars dims bd q=Y (nK vars t&&(vU t&&(rK t&&(eo t.r dims&&W)))):=by
   grind [Fz,Cy,nK,bR,decide_eq_false]
  simp only [eC,Od,aA,al hq,YC,YF,j0]
  have hkk:(fK t.kind==(t.kids.length:Int))=decide (fK t.kind=t.kids.length):=by rfl
  generalize hZ:(nK vars t&&(vU t&&(rK t&&(eo t.r dims&&W))))=Z
  have hsy:ac (decide (((t.sys.length:Nat):Int)>0)) (ac (dF t.kind==0) (Y false) (Y Z)) (Y Z)=Y (decide (0<t.sys.length->dF t.kind≠0)&&Z):=by
   grind [dX]
  rw [hsy,oL,hkk]
  have hfin:=ap_ vars dims t AK AS
  rw [hw,hZ] at hfin
  rw [hfin,w8,hAK,hAS]
  cases bd<;>grind [bR,ah]
theorem ar9 {t:Tm} (ht:OkT t) (hk:Fd k (aw t)) (hs:ax t<1099511627776) (Y:Int->OS S):Ep k t Y=Y (if aw t>200 then 62 else if ax t>20000 then 221 else 0):=by
 grind [nI,Ep,aA,bR,Yy,M7]
theorem Bc {t:Tm} (ht:OkT t) (hk:Fd k (aw t)) (hs:ax t<1099511627776) (Y:Int->OS S):pk k t Y=Y (ck t):=by
 have:=nI t
 simp only [pk,aA,al hk.fu,ar9 ht hk hs,arZ t ht _ hk (show VD (-1) 24 (aw t) by unfold VD;omega),cH]
 unfold ck
 by_cases h1:aw t>200
 ·rw [if_pos h1,if_pos h1];rfl
 ·rw [if_neg h1,if_neg h1]
  by_cases h2:ax t>20000
  ·rw [if_pos h2,if_pos h2];rfl
  ·rw [if_neg h2,if_neg h2,decide_eq_true rfl,aj]
   cases bM false (-1) 24 t<;>rfl
theorem anp (hk:Fu k) (Y:Bool->OS S) {l:LC} (hlen:l.length<2147483648):
  ∀ (r p:LC) (m:Nat),l=p++r->r.length<m->n8 k Y l l m (p.length:Int)=Y true:=by
 intro r
 induction r with
 |nil=>
  grind [aq,n8,tw,ah]
 |cons x r ih=>
  intro p m h hm
  obtain ⟨m,rfl,hm'⟩:=aq hm
  obtain ⟨e1,e2,e3,e4⟩:=aR h (by omega)
  grind [n8,tw,aj,ah]
theorem YJ (hk:Fu k) {l:LC} (hlen:l.length<2147483648) (Y:Bool->OS S):ph k l l Y=Y true:=by
 simp only [ph,G9,beq_self_eq_true,bY,ah]
 exact anp hk Y hlen l [] k rfl (by omega)
section
variable {hd:Tm->Tm->(Bool->OS S)->OS S}
theorem amp (hk:Fu k) (Y:Bool->OS S) {l:LT} (hlen:l.length<2147483648) (hQ: ∀y∈l,∀g,hd y y g=g true):
  ∀ (r p:LT) (m:Nat),l=p++r->r.length<m->vu hd k Y l l m (p.length:Int)=Y true:=by
 intro r
 induction r with
 |nil=>
  grind [aq,vu,CH,ah]
 |cons x r ih=>
  intro p m h hm
  obtain ⟨m,rfl,hm'⟩:=aq hm
  obtain ⟨e1,e2,e3,e4⟩:=aR h (by omega)
  grind [vu,CH,aj,aA,ah]
theorem Yl (hk:Fu k) (Y:Bool->OS S) {l:LT} (hlen:l.length<2147483648) (hQ: ∀y∈l,∀g,hd y y g=g true):yN hd k l l Y=Y true:=by
 simp only [yN,Ok,beq_self_eq_true,bY,ah]
 exact amp hk Y hlen hQ l [] k rfl (by omega)
theorem amM (hk:Fu k) (Y:Bool->OS S) {t:Tm} (ht:OkT t) (hQ: ∀b∈t.sys,∀y∈b.kids,∀g,hd y y g=g true):
  ∀ (r p:LB) (m:Nat),t.sys=p++r->r.length<m->vr hd k Y t t m (p.length:Int)=Y true:=by
 obtain ⟨o1,o2,o3,o4,o5,o6,o7⟩:=ht.no
 intro r
 induction r with
 |nil=>
  grind [aq,vr,CF,ah]
 |cons x r ih=>
  intro p m h hm
  obtain ⟨m,rfl,hm'⟩:=aq hm
  obtain ⟨e1,e2,e3,e4⟩:=aR h (by omega)
  have hx:x∈t.sys:=by grind
  have hb:=(ht.bi hx).1
  simp only [vr,CF,e1,aj,e2,aJ,al hk,YJ hk (show x.face.length<2147483648 by omega),Yl hk _ (show x.kids.length<2147483648 by omega) (hQ x hx),e3,ih (p++[x]) m e4 hm',bY,ah]
end
theorem YH (t:Tm):OkT t-> ∀ {k:Nat} (Y:Bool->OS S),Fd k (aw t)->gG k t t Y=Y true:=by
 induction t using eI with
 |h t ih1 ih2=>
  intro ht k Y hk
  obtain ⟨q,rfl,hq,hf⟩:=hk.pos' (du t)
  obtain ⟨o1,o2,o3,o4,o5,o6,o7⟩:=ht.no
  have hQ: ∀y∈t.kids,∀g:Bool->OS S,gG q y y g=g true:=fun y hy g=>ih1 y hy (ht.ki hy) g (hf _ (dc hy))
  have hQ': ∀b∈t.sys,∀y∈b.kids,∀g:Bool->OS S,gG q y y g=g true:=fun b hb y hy g=>ih2 b hb y hy ((ht.bi hb).2 y hy) g (hf _ (di hb hy))
  have:=amM hq Y ht hQ' t.sys [] q rfl (by omega)
  grind [gG,Pj,Oi,ah,al,YJ,Yl]
section
variable {hd:Tm->Int->(Int->OS S)->OS S} {t:Tm}
end
def pE {α:Type}:Except Int α->Pan Int α
 | .ok a=> .ok a
 | .error e=> .pan e
def eE {α β:Type} (x:Except Int α) (f:α->β) (g:Int->β):β:=match x with
 | .ok a=>f a
 | .error e=>g e
theorem lw {α β:Type} (x:Except Int α) (f:α->β) (g:Int->β):Pan.elim (pE x) f g=eE x f g:=by cases x<;>rfl
theorem bq {α β γ:Type} (x:Except Int α) (f:α->Except Int β) (u:β->γ) (w:Int->γ):eE (bE x f) u w=eE x (fun a=>eE (f a) u w) w:=by cases x<;>rfl
theorem bA {α β:Type} (a:α) (f:α->β) (g:Int->β):eE (.ok a) f g=f a:=rfl
theorem Xx {α:Type} (x:Except Int α) (Y:Pan Int α->OS S):Y (pE x)=eE x (fun a=>Y (.ok a)) fun e=>Y (.pan e):=by cases x<;>rfl
def aH:Tm:= .mk 0 0 au [] [] []
def bD (e:Int):Tm:= .mk (-e) 0 au [] [] []
def rE:Except Int Tm->Tm
 | .ok t=>t
 | .error e=>bD e
def tE:Except Int Tm->Tm×Int
 | .ok t=>(t,0)
 | .error e=>(aH,e)
theorem oJ (x:Except Int Tm) (Y:Tm->OS S):Y (rE x)=eE x Y fun e=>Y (bD e):=by cases x<;>rfl
theorem de {α β:Type} {x:Except Int α} {f f':α->β} {g g':Int->β} (h: ∀a,x= .ok a->f a=f' a) (h': ∀e,x= .error e->g e=g' e):eE x f g=eE x f' g':=by
 cases x with
 |ok a=>exact h a rfl
 |error e=>exact h' e rfl
theorem Yn (hk:Fu k) {a b d:Int} {f:LC} (hf:aI f) (hl:f.length<1073741824) (hd:a6 d) (hb:a6 b) (Y:Pan Int (LC)->OS S):yC k a b f d Y=Y (pE (d8 d b f)):=by
 simp only [yC,al hk,wF hk hf hl hd hb,cH,bR,bn (show 0+f.length<=1099511627776 by omega)]
 unfold d8
 by_cases h0:b=0
 ·rw [if_pos h0,if_pos (.inl h0)];rfl
 ·rw [if_neg h0]
  by_cases h1:d>=24
  ·rw [if_pos h1,if_pos (.inr h1)];rfl
  ·rw [if_neg h1,if_neg (show ¬ (b=0\/d>=24) by omega)]
   by_cases h2:(bP f d b).2=0
   ·rw [decide_eq_true h2,kV h2];rfl
   ·rw [decide_eq_false h2,kg h2];rfl
theorem Yr (hk:Fu k) {b d:Int} {f:LC} (hf:RF f) (hd:0<=d/\d<9223372036854775808) (hb:0<=b/\b<9223372036854775808) (Y:LC×Int->OS S): ∃z:LC×Int,d9 z=d8 d b f/\yQ k f d b Y=Y z:=by
 have hl:=hf.len
 simp only [yQ,al hk,wI hk hf.2 (show f.length<1073741824 by omega) (show a6 d by unfold a6;omega) (show a6 b by unfold a6;omega),vQ,bR]
 by_cases h0:f.length=0
 ·refine ⟨([],0), ?_,by grind⟩
  have:=kj.1 h0
  subst this
  rw [GM];rfl
 ·refine ⟨bP f d b, ?_,by grind⟩
  unfold d8
  split
  ·next h=>rw [anO hf hd.1 hb.1 h];rfl
  ·rfl
section
variable {hd:Int->Int->Tm->Int->Int->(Pan Int Tm->OS S)->OS S} {vb db v d:Int} {t:Tm}
theorem amo (hk:Fu k) (Y:Pan Int Tm->OS S) (rec2:LB->Int->Int->OS S) {r12 r2:LC} {b1 v90:Int} {ks:LT} {o:LB} {x:Br Tm} {more:Int} (hm:more=aW t.kind)
  (hd0:0<=d/\d<4611686018427387904) (hQ: ∀y∈x.kids,∀g,hd vb db y v (d+more) g=g (pE (bJ vb db v (d+more) y))) (hl:x.kids.length<1073741824) (ho:o.length<1073741824):
  ∀ (r p:LT) (m:Nat) (acc:LT),x.kids=p++r->r.length<m->acc.length=p.length->
  pP hd k Y rec2 r12 vb db t b1 r2 ks o x more v d v90 m acc (p.length:Int)=eE (ei vb db v d t.kind r) (fun l=>rec2 (o++[⟨r12,acc++l⟩]) more (af .i64 (v90+1))) fun e=>Y (.pan e):=by
 subst hm
 have hmo:=fO t.kind
 intro r
 induction r with
 |nil=>
  grind [aq,pP,B_,ah,ei,bA,bn]
 |cons y r ih=>
  intro p m acc h hm ha
  obtain ⟨m,rfl,hm'⟩:=aq hm
  obtain ⟨e1,e2,e3,e4⟩:=aR h (by omega)
  have hpl:p.length<x.kids.length:=by grind
  have hy:=hQ y (by grind)
  simp only [pP,B_,e1,aj,e2,aJ,aA,bw (n:=d+aW t.kind) (by omega) (by omega),hy,lw,ei,bq,bA]
  refine de (fun t' ht'=> ?_) fun e _=>rfl
  rw [bn (by grind),e3,ih (p++[y]) m (acc++[t']) e4 hm' (by grind)]
  simp
theorem amn (hk:Fu k) (Y:Pan Int Tm->OS S) {r2:LC} {b1:Int} {ks:LT} {more:Int} (hm:more=aW t.kind) (ht:OkT t) (hdb:a6 db) (hd0:0<=d/\d<4611686018427387904)
  (hQ: ∀b∈t.sys,∀y∈b.kids,∀g,hd vb db y v (d+more) g=g (pE (bJ vb db v (d+more) y))):
  ∀ (r p:LB) (m:Nat) (o:LB),t.sys=p++r->r.length<m->o.length=p.length->
  lD hd k Y vb db t b1 r2 ks v d m o more (p.length:Int)=eE (eG vb db v d t.kind r) (fun l=>Y (.ok (.mk t.kind b1 t.name r2 ks (o++l)))) fun e=>Y (.pan e):=by
 obtain ⟨o1,o2,o3,o4,o5,o6,o7⟩:=ht.no
 intro r
 induction r with
 |nil=>
  grind [aq,lD,xj,ah,eG,bA]
 |cons x r ih=>
  intro p m o h hml ho
  obtain ⟨m,rfl,hm'⟩:=aq hml
  obtain ⟨e1,e2,e3,e4⟩:=aR h (by omega)
  have hx:x∈t.sys:=by grind
  have hpl:p.length<t.sys.length:=by grind
  have hb:=(ht.bi hx).1
  have hrow:=Yn (S:=S) hk (a:=vb) hb.1 hb.2.1 (show a6 d by unfold a6;omega) hdb
  have:=fun r12=>amo hk Y (lD hd k Y vb db t b1 r2 ks v d m) (r12:=r12) (r2:=r2) (b1:=b1) (v90:=(p.length:Int)) (ks:=ks) (o:=o) hm hd0 (hQ x hx) hb.2.2 (by omega) x.kids [] k [] rfl (by omega) rfl
  have this: ∀r12,pP hd k Y (lD hd k Y vb db t b1 r2 ks v d m) r12 vb db t b1 r2 ks o x more v d (p.length:Int) k [] 0=_:=this
  have hB:sF vb db v d t.kind x=bE (d8 d db x.face) fun f'=>bE (ei vb db v d t.kind x.kids) fun ks'=> .ok (.mk f' ks'):=by cases x;rfl
  simp only [lD,xj,e1,aj,e2,aJ,al hk,hrow,lw,this,eG,hB,bq,bA,dG,e3]
  refine de (fun f' _=>de (fun ks' _=> ?_) fun e _=>rfl) fun e _=>rfl
  rw [ih (p++[x]) m (o++[Br.mk f' ks']) e4 hm' (by grind)]
  simp
theorem amm (hk:Fu k) (Y:Pan Int Tm->OS S) {r2:LC} {b1:Int} (ht:OkT t) (hdb:a6 db) (hd0:0<=d/\d<4611686018427387904) (hv0:0<=v/\v<4611686018427387904)
  (hQ: ∀y∈t.kids,∀a b,0<=a/\a<=1->0<=b/\b<=1-> ∀g,hd vb db y (v+a) (d+b) g=g (pE (bJ vb db (v+a) (d+b) y))) (hQ': ∀b∈t.sys,∀y∈b.kids,∀g,hd vb db y v (d+aW t.kind) g=g (pE (bJ vb db v (d+aW t.kind) y))):
  ∀ (r p:LT) (m:Nat) (acc:LT),t.kids=p++r->r.length<m->acc.length=p.length->
  n3 hd k Y vb db t b1 r2 v d m acc (p.length:Int)=eE (eD vb db v d t.kind p.length r) (fun l=>eE (eG vb db v d t.kind t.sys) (fun s=>Y (.ok (.mk t.kind b1 t.name r2 (acc++l) s))) fun e=>Y (.pan e)) fun e=>Y (.pan e):=by
 obtain ⟨o1,o2,o3,o4,o5,o6,o7⟩:=ht.no
 intro r
 induction r with
 |nil=>
  intro p m acc h hm ha
  obtain ⟨m,rfl,hm'⟩:=aq hm
  have hs:lD hd k Y vb db t b1 r2 acc v d k [] (aW t.kind) 0=_:=amn hk Y rfl ht hdb hd0 hQ' t.sys [] k [] rfl (by omega) rfl
  grind [n3,xh,eD,bA,dX,aW]
 |cons y r ih=>
  intro p m acc h hm ha
  obtain ⟨m,rfl,hm'⟩:=aq hm
  obtain ⟨e1,e2,e3,e4⟩:=aR h (by omega)
  have hpl:p.length<t.kids.length:=by grind
  have b1':=lf t.kind p.length
  have b2':=jJ t.kind p.length
  have hy:=hQ y (by grind) (cv t.kind p.length) (cF t.kind p.length) b1' b2'
  simp only [n3,xh,e1,aj,e2,aJ,al hk,m7,aA,bw (n:=v+cv t.kind p.length) (by omega) (by omega),bw (n:=d+cF t.kind p.length) (by omega) (by omega),hy,lw,eD,bq,bA]
  refine de (fun t' ht'=> ?_) fun e _=>rfl
  rw [bn (by grind),e3,ih (p++[y]) m (acc++[t']) e4 hm' (by grind),show (p++[y]).length=p.length+1 by simp]
  simp
end
theorem KU (vb db v d:Int) (t:Tm):bJ vb db v d t=if t.kind=1/\t.n>=v/\t.n>1000000000-vb then .error 100 else bE (d8 d db t.r) fun r'=>bE (eD vb db v d t.kind 0 t.kids) fun ks'=>bE (eG vb db v d t.kind t.sys) fun sys'=> .ok (.mk t.kind (if t.kind=1/\t.n>=v then t.n+vb else t.n) t.name r' ks' sys'):=by cases t;rfl
theorem RowsT.no {t:Tm} (h:RowsT t):RF t.r/\(t.kind=1->t.r=[])/\0<=t.kind:=by cases t;rw [RowsT] at h;exact h.1
theorem RowsT.ki {t x:Tm} (h:RowsT t) (hx:x∈t.kids):RowsT x:=by cases t;rw [RowsT] at h;exact rowsK_iff.1 h.2.1 x hx
theorem RowsT.bi {t:Tm} {b:Br Tm} (h:RowsT t) (hb:b∈t.sys):RF b.face/\ ∀x∈b.kids,RowsT x:=by cases t;rw [RowsT] at h;exact rowsS_iff.1 h.2.2 b hb
def VP (v d:Int) (n:Nat):Prop:=0<=v/\v+n<4611686018427387904/\0<=d/\d+n<4611686018427387904
theorem GR {vb db:Int} (hvb:0<=vb/\vb<=1000000000) (hdb:a6 db) (t:Tm):OkT t->RowsT t-> ∀ {k:Nat} {v d:Int} (Y:Pan Int Tm->OS S),Fd k (aw t)->VP v d (aw t)->eZ k vb db t v d Y=Y (pE (bJ vb db v d t)):=by
 induction t using eI with
 |h t ih1 ih2=>
  intro ht hro k v d Y hk hv
  obtain ⟨q,rfl,hq,hf⟩:=hk.pos' (du t)
  obtain ⟨q',hq'⟩: ∃q',q=q'+1:=⟨q-1,by omega⟩
  have hp:=du t
  unfold VP at hv
  obtain ⟨o1,o2,o3,o4,o5,o6,o7⟩:=ht.no
  have hmo:=fO t.kind
  have hQ: ∀y∈t.kids,∀a b,0<=a/\a<=1->0<=b/\b<=1-> ∀g:Pan Int Tm->OS S,eZ q vb db y (v+a) (d+b) g=g (pE (bJ vb db (v+a) (d+b) y)):=fun y hy a b h1 h2 g=>
   ih1 y hy (ht.ki hy) (hro.ki hy) g (hf _ (dc hy)) (by have:=dc hy;unfold VP;omega)
  have hQ': ∀b∈t.sys,∀y∈b.kids,∀g:Pan Int Tm->OS S,eZ q vb db y v (d+aW t.kind) g=g (pE (bJ vb db v (d+aW t.kind) y)):=fun b hb y hy g=>
   ih2 b hb y hy ((ht.bi hb).2 y hy) ((hro.bi hb).2 y hy) g (hf _ (di hb hy)) (by have:=di hb hy;unfold VP;omega)
  have h1:=fun r2 b1=>amm (r2:=r2) (b1:=b1) hq Y ht hdb (show 0<=d/\d<4611686018427387904 by omega) (show 0<=v/\v<4611686018427387904 by omega) hQ hQ' t.kids [] q [] rfl (by omega) rfl
  have h0: ∀r2 b1,zK (eZ q) q Y vb db t r2 v d q b1=n3 (eZ q) q Y vb db t b1 r2 v d q [] 0:=by
   intro r2 b1
   have: ∀j,j=q'+1->zK (eZ q) q Y vb db t r2 v d j b1=n3 (eZ q) q Y vb db t b1 r2 v d q [] 0:=by rintro j rfl;rfl
   grind
  have h2: ∀r2 b1,zK (eZ q) q Y vb db t r2 v d q b1=_:=fun r2 b1=>(h0 r2 b1).trans (h1 r2 b1)
  have hrow:=Yn (S:=S) hq (a:=vb) o4 o5 (show a6 d by unfold a6;omega) hdb
  simp only [eZ,NP,al hq,hrow,lw,h2,List.length_nil,dG]
  rw [Xx _ Y,KU]
  unfold a6 at o2
  by_cases hc:t.kind=1
  ·have hr:=hro.no.2.1 hc
   rw [hr,GM,bA,hc,show ((1:Int)==1)=true from rfl,aj,bR]
   by_cases hn:t.n>=v
   ·rw [if_pos hn,bw (n:=1000000000-vb) (by omega) (by omega),bR]
    by_cases hb:t.n>1000000000-vb
    ·rw [if_pos hb,if_pos (show (1:Int)=1/\t.n>=v/\t.n>1000000000-vb from ⟨rfl,hn,hb⟩)];rfl
    grind [bq,bw,bA]
   grind [bq,bA]
  ·have hc':(t.kind==1)=false:=by grind
   rw [hc',if_neg (show ¬ (t.kind=1/\t.n>=v/\t.n>1000000000-vb) from fun h=>hc h.1)]
   simp_all [ah,bq,bA]
theorem jb {e:Int} (he:0<e/\e<=1000) (Y:Int×Int×BA->OS S):e_ k e Y=Y (-e,0,au):=by
 grind [e_,bw]
theorem fj {e:Int} (he:0<e):decide ((bD e).kind<0)=true:=decide_eq_true (show-e<0 by omega)
section
variable {hd:Tm->Int->Int->Int->Int->(Tm->OS S)->OS S} {vb db v d:Int} {t:Tm}
theorem wc {x:Except Int Tm} (hx: ∀e,x= .error e->0<e) (hx': ∀y,x= .ok y->0<=y.kind) (f:Tm->OS S) (Y:Tm->OS S):
  (fun r:Tm=>ac (decide (r.kind<0)) (Y r) (f r)) (rE x)=eE x f fun e=>Y (bD e):=by
 cases x with
 |error e=>show ac _ _ _=_;rw [show rE (.error e)=bD e from rfl,fj (hx e rfl),aj];rfl
 |ok y=>show ac _ _ _=_;rw [show rE (.ok y)=y from rfl,decide_eq_false (by grind),ah];rfl
theorem p_ {vb db v d:Int} {x y:Tm} (h:bJ vb db v d x= .ok y):y.kind=x.kind:=by
 rw [KU] at h
 split at h
 ·cases h
 ·obtain ⟨_,_,h⟩:=aY h
  obtain ⟨_,_,h⟩:=aY h
  obtain ⟨_,_,h⟩:=aY h
  injection h with h;subst h;rfl
theorem am6 (hk:Fu k) (Y:Tm->OS S) (rec2:LB->Int->OS S) {r9 r2:LC×Int} {b1 i18:Int} {ks:LT} {o:LB} {x:Br Tm} (hi:ai t.sys i18=some x)
  (hd0:0<=d/\d<4611686018427387904) (hQ: ∀y∈x.kids,∀g,hd y v vb (d+aW t.kind) db g=g (rE (bJ vb db v (d+aW t.kind) y))) (hkd: ∀y∈x.kids,0<=y.kind) (hl:x.kids.length<1073741824) (ho:o.length<1073741824):
  ∀ (r p:LT) (m:Nat) (acc:LT),x.kids=p++r->r.length<m->acc.length=p.length->
  mK hd k Y rec2 t b1 r2 ks o r9 v i18 vb d db m acc (p.length:Int)=eE (ei vb db v d t.kind r) (fun l=>rec2 (o++[⟨r9.1,acc++l⟩]) (af .i64 (i18+1))) fun e=>Y (bD e):=by
 have hmo:=fO t.kind
 intro r
 induction r with
 |nil=>
  grind [aq,mK,CI,ah,ei,bA,bn]
 |cons y r ih=>
  intro p m acc h hm ha
  obtain ⟨m,rfl,hm'⟩:=aq hm
  obtain ⟨e1,e2,e3,e4⟩:=aR h (by omega)
  have hpl:p.length<x.kids.length:=by grind
  have hym:y∈x.kids:=by grind
  have hy:=hQ y hym
  simp only [mK,CI,hi,e1,aj,e2,aJ,al hk,GV,aA,bw (n:=d+aW t.kind) (by omega) (by omega),hy]
  refine ak (wc (fun e he=>(iX y he).1) (fun z hz=>by grind [p_]) (fun z=>ag (aS 1099511627776 acc.length [z].length) fun _=>mK hd k Y rec2 t b1 r2 ks o r9 v i18 vb d db m (acc++[z]) (af .i64 ((p.length:Int)+1))) Y) ?_
  simp only [ei,bq,bA]
  refine de (fun t' ht'=> ?_) fun e _=>rfl
  rw [bn (by grind),e3,ih (p++[y]) m (acc++[t']) e4 hm' (by grind)]
  simp
theorem Bt {z:LC×Int} {α:Type} (f:LC->α) (g:Int->α):ac (!(z.2==0)) (g z.2) (f z.1)=eE (d9 z) f g:=by
 rw [cH]
 unfold d9
 by_cases h:z.2=0
 ·rw [decide_eq_true h,if_pos h];rfl
 ·rw [decide_eq_false h,if_neg h];rfl
theorem am5 (hk:Fu k) (Y:Tm->OS S) {r2:LC×Int} {b1:Int} {ks:LT} (ht:OkT t) (hro:RowsT t) (hdb:0<=db/\db<9223372036854775808) (hd0:0<=d/\d<4611686018427387904)
  (hQ: ∀b∈t.sys,∀y∈b.kids,∀g,hd y v vb (d+aW t.kind) db g=g (rE (bJ vb db v (d+aW t.kind) y))):
  ∀ (r p:LB) (m:Nat) (o:LB),t.sys=p++r->r.length<m->o.length=p.length->
  iW hd k Y t b1 r2 ks v vb d db m o (p.length:Int)=eE (eG vb db v d t.kind r) (fun l=>Y (.mk t.kind b1 t.name r2.1 ks (o++l))) fun e=>Y (bD e):=by
 obtain ⟨o1,o2,o3,o4,o5,o6,o7⟩:=ht.no
 intro r
 induction r with
 |nil=>
  grind [aq,iW,xO,ah,eG,bA]
 |cons x r ih=>
  intro p m o h hml ho
  obtain ⟨m,rfl,hm'⟩:=aq hml
  obtain ⟨e1,e2,e3,e4⟩:=aR h (by omega)
  have hx:x∈t.sys:=by grind
  have hpl:p.length<t.sys.length:=by grind
  have hb:=(ht.bi hx).1
  obtain ⟨z,hz,hrow⟩:=Yr (S:=S) hk (hro.bi hx).1 (show 0<=d/\d<9223372036854775808 by omega) hdb (fun r9=>ac (!(r9.2==0)) (e_ k r9.2 fun r10=>Y (Tm.mk r10.1 r10.2.1 r10.2.2 [] [] []))
   (mK hd k Y (iW hd k Y t b1 r2 ks v vb d db m) t b1 r2 ks o r9 v (p.length:Int) vb d db k [] 0))
  have:=am6 (r9:=z) (r2:=r2) (b1:=b1) (ks:=ks) (o:=o) hk Y (iW hd k Y t b1 r2 ks v vb d db m) e2 hd0 (hQ x hx) (fun y hy=>((hro.bi hx).2 y hy).no.2.2) hb.2.2 (by omega) x.kids [] k [] rfl (by omega) rfl
  have this:mK hd k Y (iW hd k Y t b1 r2 ks v vb d db m) t b1 r2 ks o z v (p.length:Int) vb d db k [] 0=_:=this
  have hB:sF vb db v d t.kind x=bE (d8 d db x.face) fun f'=>bE (ei vb db v d t.kind x.kids) fun ks'=> .ok (.mk f' ks'):=by cases x;rfl
  simp only [iW,xO,e1,aj,e2,aJ,al hk,hrow,this,eG,hB,bq,bA,dG,e3]
  have hbad:ac (!(z.2==0)) (e_ k z.2 fun r10=>Y (Tm.mk r10.1 r10.2.1 r10.2.2 [] [] [])) (eE (ei vb db v d t.kind x.kids) (fun l=>iW hd k Y t b1 r2 ks v vb d db m (o++[Br.mk z.1 l]) (((p++[x]).length:Nat):Int)) fun e=>Y (bD e))
    =ac (!(z.2==0)) (Y (bD z.2)) (eE (ei vb db v d t.kind x.kids) (fun l=>iW hd k Y t b1 r2 ks v vb d db m (o++[Br.mk z.1 l]) (((p++[x]).length:Nat):Int)) fun e=>Y (bD e)):=by
   by_cases h0:z.2=0
   ·rw [h0];rfl
   ·have hze:d9 z= .error z.2:=kg h0
    rw [hz] at hze
    rw [jb (GL hze)];rfl
  rw [hbad,Bt (z:=z) (fun f'=>eE (ei vb db v d t.kind x.kids) (fun l=>iW hd k Y t b1 r2 ks v vb d db m (o++[Br.mk f' l]) (((p++[x]).length:Nat):Int)) fun e=>Y (bD e)) (fun e=>Y (bD e)),hz]
  refine de (fun f' _=>de (fun ks' _=> ?_) fun e _=>rfl) fun e _=>rfl
  grind
theorem am4 (hk:Fu k) (Y:Tm->OS S) {r2:LC×Int} {b1:Int} (ht:OkT t) (hro:RowsT t) (hdb:0<=db/\db<9223372036854775808) (hd0:0<=d/\d<4611686018427387904) (hv0:0<=v/\v<4611686018427387904)
  (hQ: ∀y∈t.kids,∀a b,0<=a/\a<=1->0<=b/\b<=1-> ∀g,hd y (v+a) vb (d+b) db g=g (rE (bJ vb db (v+a) (d+b) y))) (hQ': ∀b∈t.sys,∀y∈b.kids,∀g,hd y v vb (d+aW t.kind) db g=g (rE (bJ vb db v (d+aW t.kind) y))):
  ∀ (r p:LT) (m:Nat) (acc:LT),t.kids=p++r->r.length<m->acc.length=p.length->
  lG hd k Y t b1 r2 v vb d db m acc (p.length:Int)=eE (eD vb db v d t.kind p.length r) (fun l=>eE (eG vb db v d t.kind t.sys) (fun s=>Y (.mk t.kind b1 t.name r2.1 (acc++l) s)) fun e=>Y (bD e)) fun e=>Y (bD e):=by
 obtain ⟨o1,o2,o3,o4,o5,o6,o7⟩:=ht.no
 intro r
 induction r with
 |nil=>
  intro p m acc h hm ha
  obtain ⟨m,rfl,hm'⟩:=aq hm
  have hs:iW hd k Y t b1 r2 acc v vb d db k [] 0=_:=am5 hk Y ht hro hdb hd0 hQ' t.sys [] k [] rfl (by omega) rfl
  grind [lG,xN,ah,eD,bA]
 |cons y r ih=>
  intro p m acc h hm ha
  obtain ⟨m,rfl,hm'⟩:=aq hm
  obtain ⟨e1,e2,e3,e4⟩:=aR h (by omega)
  have hpl:p.length<t.kids.length:=by grind
  have b1':=lf t.kind p.length
  have b2':=jJ t.kind p.length
  have hym:y∈t.kids:=by grind
  have hy:=hQ y hym (cv t.kind p.length) (cF t.kind p.length) b1' b2'
  simp only [lG,xN,e1,aj,e2,aJ,al hk,Bb hk,aA,bw (n:=v+cv t.kind p.length) (by omega) (by omega),bw (n:=d+cF t.kind p.length) (by omega) (by omega),hy]
  refine ak (wc (fun e he=>(iX y he).1) (fun z hz=>by rw [p_ hz];exact (hro.ki hym).no.2.2) (fun z=>ag (aS 1099511627776 acc.length [z].length) fun _=>lG hd k Y t b1 r2 v vb d db m (acc++[z]) (af .i64 ((p.length:Int)+1))) Y) ?_
  simp only [eD,bq,bA]
  refine de (fun t' ht'=> ?_) fun e _=>rfl
  rw [bn (by grind),e3,ih (p++[y]) m (acc++[t']) e4 hm' (by grind),show (p++[y]).length=p.length+1 by simp]
  simp
end
theorem Bd {vb db:Int} (hvb:0<=vb/\vb<=1000000000) (hdb:0<=db/\db<9223372036854775808) (t:Tm):OkT t->RowsT t-> ∀ {k:Nat} {v d:Int} (Y:Tm->OS S),Fd k (aw t)->VP v d (aw t)->dI k t v vb d db Y=Y (rE (bJ vb db v d t)):=by
 induction t using eI with
 |h t ih1 ih2=>
  intro ht hro k v d Y hk hv
  obtain ⟨q,rfl,hq,hf⟩:=hk.pos' (du t)
  obtain ⟨q',hq'⟩: ∃q',q=q'+1:=⟨q-1,by omega⟩
  have hp:=du t
  unfold VP at hv
  obtain ⟨o1,o2,o3,o4,o5,o6,o7⟩:=ht.no
  have hmo:=fO t.kind
  have hQ: ∀y∈t.kids,∀a b,0<=a/\a<=1->0<=b/\b<=1-> ∀g:Tm->OS S,dI q y (v+a) vb (d+b) db g=g (rE (bJ vb db (v+a) (d+b) y)):=fun y hy a b h1 h2 g=>
   ih1 y hy (ht.ki hy) (hro.ki hy) g (hf _ (dc hy)) (by have:=dc hy;unfold VP;omega)
  have hQ': ∀b∈t.sys,∀y∈b.kids,∀g:Tm->OS S,dI q y v vb (d+aW t.kind) db g=g (rE (bJ vb db v (d+aW t.kind) y)):=fun b hb y hy g=>
   ih2 b hb y hy ((ht.bi hb).2 y hy) ((hro.bi hb).2 y hy) g (hf _ (di hb hy)) (by have:=di hb hy;unfold VP;omega)
  have h1:=fun r2 b1=>am4 (r2:=r2) (b1:=b1) hq Y ht hro hdb (show 0<=d/\d<4611686018427387904 by omega) (show 0<=v/\v<4611686018427387904 by omega) hQ hQ' t.kids [] q [] rfl (by omega) rfl
  have h1: ∀r2 b1,lG (dI q) q Y t b1 r2 v vb d db q [] 0=_:=h1
  have h0: ∀b1,FC (dI q) q Y t v vb d db q b1=eE (d8 d db t.r) (fun r'=>eE (eD vb db v d t.kind 0 t.kids) (fun l=>eE (eG vb db v d t.kind t.sys) (fun s=>Y (.mk t.kind b1 t.name r' l s)) fun e=>Y (bD e)) fun e=>Y (bD e)) fun e=>Y (bD e):=by
   intro b1
   have: ∀j,j=q'+1->FC (dI q) q Y t v vb d db j b1=xM (dI q) q Y t v vb d db (fun bK r2 b11_4 i14=>lG (dI q) q Y t bK r2 v vb d db q b11_4 i14) b1:=by rintro j rfl;rfl
   rw [this q hq']
   obtain ⟨z,hz,hrow⟩:=Yr (S:=S) hq hro.no.1 (show 0<=d/\d<9223372036854775808 by omega) hdb (fun r2=>ac (!(r2.2==0)) (e_ q r2.2 fun r3=>Y (Tm.mk r3.1 r3.2.1 r3.2.2 [] [] [])) (lG (dI q) q Y t b1 r2 v vb d db q [] 0))
   simp only [xM,al hq,hrow]
   rw [h1]
   simp only [dG]
   rw [<-hz]
   by_cases hz0:z.2=0
   ·rw [kV hz0,hz0];rfl
   ·have hze:d9 z= .error z.2:=kg hz0
    have hze':=hze
    rw [hz] at hze'
    rw [hze,cH,decide_eq_false hz0,ca,aj,jb (GL hze')];rfl
  simp only [dI,Oo,al hq,h0]
  rw [oJ _ Y,KU]
  unfold a6 at o2
  by_cases hc:t.kind=1
  ·rw [hc,show ((1:Int)==1)=true from rfl,aj,bR]
   by_cases hn:t.n>=v
   ·rw [if_pos hn,bw (n:=1000000000-vb) (by omega) (by omega),bR]
    by_cases hb:t.n>1000000000-vb
    ·rw [if_pos hb,if_pos (show (1:Int)=1/\t.n>=v/\t.n>1000000000-vb from ⟨rfl,hn,hb⟩),jb (by omega)];rfl
    grind [bw,bq,bA]
   grind [bq,bA]
  ·have hc':(t.kind==1)=false:=by grind
   rw [hc',if_neg (show ¬ (t.kind=1/\t.n>=v/\t.n>1000000000-vb) from fun h=>hc h.1)]
   simp_all [ah,bq,bA]
theorem h8 {t:Tm} (h:ck t=0):aw t<=200/\ax t<=20000/\bM false (-1) 24 t=true:=by
 grind [ck]
theorem rG {t:Tm} (h1:aw t<=200) (h2:ax t<=20000) (h3:bM false (-1) 24 t=true):ck t=0:=by
 grind [ck]
theorem Kb (t:Tm):0<=ck t/\ck t<=1000:=by
 grind [ck]
def Fm (t:Tm):Prop:=OkT t/\ck t=0
theorem Fm.ok {t:Tm} (h:Fm t):OkT t:=h.1
theorem Fm.rows {t:Tm} (h:Fm t):RowsT t:=afD t h.1 (h8 h.2).2.2
theorem Fm.dep {t:Tm} (h:Fm t):aw t<=200:=(h8 h.2).1
theorem Fm.siz {t:Tm} (h:Fm t):ax t<=20000:=(h8 h.2).2.1
theorem lM {vb db v d:Int} (hvb:0<=vb/\vb<=1000000000) {t t':Tm} (h:Fm t) (hl:bJ vb db v d t= .ok t'):Fm t':=by
 obtain ⟨h1,h2,h3,h4⟩:=zQ hvb.1 hvb.2 t v d t' hl
 obtain ⟨a,b,c⟩:=h8 h.2
 have:=h4 h.1
 exact ⟨this.1,rG (by omega) (by omega) (this.2.2 24 24 (by omega) (by omega) c)⟩
abbrev F3 (k:Nat):Prop:=4294968296<=k
theorem F3.fu (h:F3 k):Fu k:=by omega
theorem F3.fd (h:F3 k) {n:Nat} (hn:n<=1000):Fd k n:=by omega
theorem Fm.fd {t:Tm} (h:Fm t) (hk:F3 k):Fd k (aw t):=hk.fd (by have:=h.dep;omega)
theorem Fm.vp {t:Tm} (h:Fm t) {v d:Int} (hv:0<=v/\v<=4611686018427380000) (hd:0<=d/\d<=4611686018427380000):VP v d (aw t):=by have:=h.dep;unfold VP;omega
theorem j9 (x:Except Int Tm) (Y:Tm×Int->OS S):Y (tE x)=eE x (fun t=>Y (t,0)) fun e=>Y (aH,e):=by cases x<;>rfl
theorem amc (hk:Fu k) (Y:Tm×Int->OS S) {c0 c2:Int} {c1:Tm} {ns:List Int} (hl:ns.length<1000) (hn: ∀x∈ns,0<=x):
  ∀ (r p:List Int) (m:Nat),ns=p++r->r.length<m->rQ k Y c0 c1 c2 ns m (p.length:Int)=DW k c0 c1 c2 fun r4=>Pan.elim r4 (fun r4=>Y (r4,0)) fun e5=>Y (aH,e5):=by
 intro r
 induction r with
 |nil=>
  intro p m h hm
  obtain ⟨m,rfl,hm'⟩:=aq hm
  simp only [rQ,B7,cV h,ah,al hk,aA];rfl
 |cons x r ih=>
  intro p m h hm
  obtain ⟨m,rfl,hm'⟩:=aq hm
  obtain ⟨e1,e2,e3,e4⟩:=aR h (by omega)
  have hx:=hn x (by grind)
  grind [rQ,B7,bR]
theorem Yk (hk:F3 k) {t:Tm} (ht:Fm t) {f b:Int} (hf:0<=f/\f<=24) (hb:0<=b/\b<9223372036854775808) (Y:Tm×Int->OS S):pc k t f b Y=Y (tE (bJ 0 b 0 f t)):=by
 have hl:=amc hk.fu Y (c0:=b) (c2:=f) (c1:=t) (ns:=[f,b]) (by simp) (by grind) [f,b] [] k rfl (by grind)
 have hl:rQ k Y b t f [f,b] k 0=_:=hl
 simp only [pc,al hk.fu,aA,DY,G5,jc ht.ok (ht.fd hk) (show aw t<1099511627776 by have:=ht.dep;omega),ht.2,hl,DW]
 rw [show ((0:Int)==0)=true from rfl,bY,ah,if_neg (by omega),GR (by omega) (by unfold a6;omega) t ht.ok ht.rows _ (ht.fd hk) (ht.vp (by omega) (by omega)),lw,j9 _ Y]
 rfl
theorem Yp (hk:F3 k) {t:Tm} (ht:Fm t) {f b:Int} (hf:0<=f/\f<=24) (hb:0<=b/\b<9223372036854775808) (Y:Tm×Int->OS S):yP k t f b Y=Y (tE (bJ 0 b 0 f t)):=by
 simp only [yP,al hk.fu,aA,yR,Bc ht.ok (ht.fd hk) (show ax t<1099511627776 by have:=ht.siz;omega),ht.2,bR]
 rw [show ((0:Int)==0)=true from rfl,aj,if_neg (by omega),if_neg (by omega)]
 rw [bY,ah,if_neg (by omega),Bd (by omega) (by omega) t ht.ok ht.rows _ (ht.fd hk) (ht.vp (by omega) (by omega))]
 simp only [nE]
 cases hx:bJ 0 b 0 f t with
 |ok y=>
  rw [show rE (.ok y)=y from rfl,decide_eq_false (by have:=p_ hx;have:=ht.rows.no.2.2;omega),ah]
  simp only [aA];rfl
 |error e=>
  have he:=iX t hx
  rw [show rE (.error e)=bD e from rfl,fj he.1,aj,bw (show-9223372036854775808<=0-(bD e).kind by show _<=0-(-e);omega) (by show 0-(-e)<_;omega)]
  show Y (aH,0-(-e))=Y (aH,e)
  simp
def av (vb db:Int) (t:Tm):Except Int Tm:=bE (bJ vb 0 0 0 t) (bJ 0 db 0 0)
theorem dK {vb db:Int} (hvb:0<=vb/\vb<=1000000000) {t t':Tm} (h:Fm t) (hl:av vb db t= .ok t'):Fm t':=by
 obtain ⟨a,h1,h2⟩:=aY hl
 exact lM (by omega) (lM hvb h h1) h2
theorem bN {vb db:Int} {t:Tm} {e:Int} (h:av vb db t= .error e):0<e/\e<=1000:=by
 rcases ba h with h|⟨a,_,h⟩
 ·exact iX t h
 ·exact iX a h
theorem amd (hk:Fu k) (Y:Tm×Int->OS S) {c0 c1:Int} {c2:Tm} {ns:List Int} (hl:ns.length<1000) (hn: ∀x∈ns,0<=x):
  ∀ (r p:List Int) (m:Nat),ns=p++r->r.length<m->rS k Y c0 c1 c2 ns m (p.length:Int)=DV k c0 c1 c2 fun r4=>Pan.elim r4 (fun r4=>Y (r4,0)) fun e5=>Y (aH,e5):=by
 intro r
 induction r with
 |nil=>
  intro p m h hm
  obtain ⟨m,rfl,hm'⟩:=aq hm
  simp only [rS,B9,cV h,ah,al hk,aA];rfl
 |cons x r ih=>
  intro p m h hm
  obtain ⟨m,rfl,hm'⟩:=aq hm
  obtain ⟨e1,e2,e3,e4⟩:=aR h (by omega)
  have hx:=hn x (by grind)
  grind [rS,B9,bR]
theorem M1 (hk:F3 k) {t:Tm} (ht:Fm t) {vb db:Int} (hvb:0<=vb/\vb<=1000000) (hdb:0<=db/\db<9223372036854775808) (Y:Tm×Int->OS S):pb k t vb db Y=Y (tE (av vb db t)):=by
 have hl:=amd hk.fu Y (c0:=db) (c1:=vb) (c2:=t) (ns:=[vb,db,1000000-vb]) (by simp) (by grind) [vb,db,1000000-vb] [] k rfl (by grind)
 have hl:rS k Y db vb t [vb,db,1000000-vb] k 0=_:=hl
 simp only [pb,al hk.fu,aA,bw (n:=1000000-vb) (by omega) (by omega),D0,G7,jc ht.ok (ht.fd hk) (show aw t<1099511627776 by have:=ht.dep;omega),ht.2,hl,DV]
 rw [show ((0:Int)==0)=true from rfl,bY,ah,GR (show 0<=vb/\vb<=1000000000 by omega) (show a6 0 by unfold a6;omega) t ht.ok ht.rows _ (ht.fd hk) (ht.vp (by omega) (by omega)),lw,j9 _ Y]
 unfold av
 rw [bq]
 refine de (fun y hy=> ?_) fun _ _=>rfl
 have hy':=lM (show 0<=vb/\vb<=1000000000 by omega) ht hy
 rw [GR (show (0:Int)<=0/\(0:Int)<=1000000000 by omega) (show a6 db by unfold a6;omega) y hy'.ok hy'.rows _ (hy'.fd hk) (hy'.vp (by omega) (by omega)),lw]
 rfl
theorem fq (hk:F3 k) {t:Tm} (ht:Fm t) {vb db:Int} (hvb:0<=vb/\vb<=1000000000) (hdb:0<=db/\db<9223372036854775808) (Y:Tm->OS S):cY k t vb db Y=Y (rE (av vb db t)):=by
 have hkd:=ht.rows.no.2.2
 simp only [cY,aA]
 rw [decide_eq_false (by omega),ah,Bd hvb (by omega) t ht.ok ht.rows _ (ht.fd hk) (ht.vp (by omega) (by omega))]
 refine ak (wc (x:=bJ vb 0 0 0 t) (fun e he=>(iX t he).1) (fun z hz=>by grind [p_]) (fun r1=>dI k r1 0 0 0 db fun r2=>Y r2) Y) ?_
 rw [oJ (av vb db t) Y]
 unfold av
 rw [bq]
 refine de (fun y hy=> ?_) fun _ _=>rfl
 have hy':=lM hvb ht hy
 rw [Bd (by omega) hdb y hy'.ok hy'.rows _ (hy'.fd hk) (hy'.vp (by omega) (by omega)),oJ _ Y]
def bV (i:Int) (r:LC) (fa:Bool):f_:=fun d f=>if cS (lu f) (i+d) then bE (d9 (bP r 0 d)) fun s=>d9 (if fa then lS f (i+d) s else lU f (i+d) s) else .ok f
theorem JD (f:LC):U32 (lu f):=by
 have:=JE f
 exact ⟨Int.natCast_nonneg _,by show ((jk f:Nat):Int)<_;omega⟩
theorem apw {f r:LC} {i:Int} (hr:aI r) (h:(lU f i r).2=0):RF (lU f i r).1:=by
 grind [lU,Qy,Um,jx,wz]
theorem Lq (f g:LC):EN (eV f g).2:=vO _
theorem Ku (f g:LC):EN (ef f g).2:=vO _
theorem aoc (f g:LC):EN (iv f g).2:=vO _
theorem T4 (f:LC):EN (eH f).2:=Fi fun h c=>Lq _ _
theorem apl (i:Int) (r:LC) (c:Cl):EN (gZ i r c).2:=by
 grind [gZ,Lq,zn]
theorem apn (i:Int) (r:LC) (c:Cl) (g:LC):EN (i_ i r c g).2:=by
 grind [i_,Lq,T4,zn]
theorem apk (i:Int) (r h:LC) (c:Cl):EN (gM i r h c).2:=by
 grind [gM,Ku,apn,apl]
theorem apv (f:LC) (i:Int) (r:LC):EN (lU f i r).2:=by
 grind [lU,Fi,apk,pz]
theorem aou (f:LC):EN (js f).2:=by
 unfold js
 split
 ·exact vO _
 ·exact pz
theorem aov (f:LC):EN (jW f).2:=by
 unfold jW
 split
 ·split
  ·exact vO _
  ·exact T4 _
 ·exact pz
theorem apr {i:Int} {c:Cl} {h:LC} {q:LC×Int} (hq:EN q.2):EN (ie i c h q).2:=by
 grind [ie,Ku,aoc]
theorem aps (f:LC) (i:Int) (r:LC):EN (lS f i r).2:=by
 grind [lS,Fi,dW,apr,aou,aov,Ku,pz]
theorem wA {i:Int} {r:LC} {fa:Bool} {d:Int} {f g:LC} (hf:RF f) (h:bV i r fa d f= .ok g):RF g:=by
 unfold bV at h
 split at h
 ·obtain ⟨s,h1,h⟩:=aY h
  obtain ⟨h0,rfl⟩:=qF h1
  have hs:=mP h0
  obtain ⟨h2,rfl⟩:=qF h
  cases fa with
  |true=>exact (apt hf.2 hs.2 h2).1
  |false=>exact apw hs.2 h2
 grind
theorem GN {i:Int} {r:LC} {fa:Bool} {d:Int} {f:LC} {e:Int} (h:bV i r fa d f= .error e):0<e/\e<=1000:=by
 grind [bV,ba,He,sG,EN,aps,apv]
theorem XG {i:Int} {r:LC} {fa:Bool} {d:Int}:bV i r fa d []= .ok []:=by
 grind [bV,cS,lu,gb,EQ,mc]
def gN (i:Int) (r:LC) (fa:Bool) (d:Int) (f:LC):LC×Int:=if cS (lu f) (i+d) then if (bP r 0 d).2=0 then if fa then lS f (i+d) (bP r 0 d).1 else lU f (i+d) (bP r 0 d).1 else ([],(bP r 0 d).2) else (f,0)
theorem tn (i:Int) (r:LC) (fa:Bool) (d:Int) (f:LC):d9 (gN i r fa d f)=bV i r fa d f:=by
 grind [gN,bV,kV,aF,kg,cA]
section
variable {i d:Int} {r f:LC}
theorem YI (hk:Fu k) (hf:RF f) (hr:RF r) (hi:0<=i/\i<24) (hd:0<=d/\d<4611686018427387000) (Y:LC×Int->OS S):yr k f d i r Y=Y (gN i r true d f):=by
 have l1:=hf.len;have l2:=hr.len
 simp only [yr,al hk,bw (n:=i+d) (by omega) (by omega),MY hk hf.2 (show f.length<4294967296 by omega),wD hk (JD f),yq,bn (show 0+f.length<=1099511627776 by omega),wF hk hr.2 (show r.length<1073741824 by omega) (show a6 0 by unfold a6;omega) (show a6 d by unfold a6;omega)]
 unfold gN
 cases cS (lu f) (i+d) with
 |false=>rfl
 |true=>
  rw [bY,ah,cH,if_pos rfl]
  by_cases h0:(bP r 0 d).2=0
  ·have hs:=mP h0
   rw [decide_eq_true h0,bY,ah,arb hk hf.2 hs.2 hf.lt hs.lt,if_pos h0,if_pos rfl]
  grind [aj]
theorem asb (hk:Fu k) (hf:RF f) (hr:RF r) (hi:0<=i/\i<24) (hd:0<=d/\d<4611686018427387000) (Y:LC×Int->OS S):Ds k f d i r Y=Y (gN i r false d f):=by
 have l1:=hf.len;have l2:=hr.len
 simp only [Ds,al hk,bw (n:=i+d) (by omega) (by omega),MY hk hf.2 (show f.length<4294967296 by omega),wD hk (JD f),yq,bn (show 0+f.length<=1099511627776 by omega),wF hk hr.2 (show r.length<1073741824 by omega) (show a6 0 by unfold a6;omega) (show a6 d by unfold a6;omega)]
 unfold gN
 cases cS (lu f) (i+d) with
 |false=>rfl
 |true=>
  rw [bY,ah,cH,if_pos rfl]
  by_cases h0:(bP r 0 d).2=0
  ·have hs:=mP h0
   rw [decide_eq_true h0,bY,ah,aq9 hk hf.2 hs.2 hf.lt hs.lt,if_pos h0,if_neg (by decide)]
  grind [aj]
theorem Ys (hk:Fu k) {fa:Bool} (hf:RF f) (hr:RF r) (hi:0<=i/\i<24) (hd:0<=d/\d<4611686018427387000) (Y:LC×Int->OS S):yU k f fa i r d Y=Y (gN i r fa d f):=by
 have l1:=hf.len;have l2:=hr.len
 simp only [yU,al hk,bw (n:=i+d) (by omega) (by omega),Yz hk hf.2 (show f.length<1073741824 by omega),lZ hk (JD f),wI hk hr.2 (show r.length<1073741824 by omega) (show a6 0 by unfold a6;omega) (show a6 d by unfold a6;omega)]
 unfold gN
 cases cS (lu f) (i+d) with
 |false=>rfl
 |true=>
  rw [bY,ah,cH,if_pos rfl]
  by_cases h0:(bP r 0 d).2=0
  ·have hs:=mP h0
   rw [decide_eq_true h0,bY,ah,if_pos h0]
   cases fa with
   |true=>rw [aj,arY hk hf.2 hs.2 hf.lt hs.lt,if_pos rfl]
   |false=>rw [ah,ar8 hk hf.2 hs.2 hf.lt hs.lt,if_neg (by decide)]
  grind [aj]
end
def nx (j:Int) (c:Cl):Cl:=⟨uq c.pos j,uq c.neg j⟩
def b8 (j:Int) (f:LC):LC:=(ci (f.map (nx j))).1
theorem PK (s j:Int):0<=uq s j/\uq s j<16777216:=by
 have:=agK s.toNat j
 exact ⟨Int.natCast_nonneg _,by show ((nJ s.toNat j:Nat):Int)<_;omega⟩
theorem I5 (j:Int) (c:Cl):RC (nx j c):=⟨PK _ _,PK _ _⟩
theorem yk (j:Int) (f:LC): ∀c∈f.map (nx j),RC c:=fun c hc=>by
 grind [I5]
theorem I6 {j:Int} {f:LC} (hf:f.length<=64):ci (f.map (nx j))=(b8 j f,0):=Prod.ext rfl (RO (yk j f) (by grind))
theorem agB {j:Int} {f:LC} (hf:f.length<=64):RF (b8 j f):=vP (fun c hc=>(yk j f c hc).ok) (by rw [I6 hf])
theorem aon: ∀ (n:Nat) {l:LC} {c:Cl},(l.filter fun d=>gz c d&& !decide (d=c)).length<=n->(∀d∈l,RC d)->c∈l-> ∃d∈l,dp l d=true:=by
 have hle: ∀ {a b:Cl},RC a->RC b->(gz a b=true↔(∀j,b.pos.toNat.testBit j=true->a.pos.toNat.testBit j=true)/\ ∀j,b.neg.toNat.testBit j=true->a.neg.toNat.testBit j=true):=by
  intro a b ha hb
  unfold gz gY
  rw [decide_eq_true_eq]
  have hor: ∀ {x y:Int},0<=x->(ic x y=x↔ ∀j,y.toNat.testBit j=true->x.toNat.testBit j=true):=by
   intro x y hx
   unfold ic
   constructor
   ·intro h j hj
    have:(x.toNat|||y.toNat)=x.toNat:=by omega
    grind
   ·intro h
    have:(x.toNat|||y.toNat)=x.toNat:=by
     apply g6
     grind
    omega
  cases a with
  |mk p q=>
   have h1:0<=p:=ha.1.1
   have h2:0<=q:=ha.2.1
   grind
 have hanti: ∀ {a b:Cl},RC a->RC b->gz a b=true->gz b a=true->a=b:=by
  intro a b ha hb h1 h2
  have e1:=(hle ha hb).1 h1
  have e2:=(hle hb ha).1 h2
  have hx: ∀ {x y:Int},0<=x->0<=y->(∀j,y.toNat.testBit j=true->x.toNat.testBit j=true)->(∀j,x.toNat.testBit j=true->y.toNat.testBit j=true)->x=y:=by
   intro x y hx hy a b
   have:x.toNat=y.toNat:=by
    apply g6
    grind
   omega
  cases a;cases b
  have p1:=hx ha.1.1 hb.1.1 e1.1 e2.1
  have p2:=hx ha.2.1 hb.2.1 e1.2 e2.2
  grind
 intro n
 induction n with
 |zero=>
  grind [dp,List.filter_eq_nil_iff]
 |succ n ih=>
  intro l c hn hl hc
  by_cases h:dp l c=true
  ·grind
  ·unfold dp at h
   rw [dA] at h
   have: ∃d∈l,¬ ((decide (d=c)|| !gz c d)=true):=Classical.byContradiction fun hh=>h fun d hd=>Classical.byContradiction fun h2=>hh ⟨d,hd,h2⟩
   obtain ⟨d,hd,hd'⟩:=this
   have h1:d≠c:=fun h=>hd' (by grind)
   have h2:gz c d=true:=by
    grind
   refine ih (c:=d) ?_ hl hd
   have hsub:(l.filter fun e=>gz d e&& !decide (e=d)).length<(l.filter fun e=>gz c e&& !decide (e=c)).length:=by
    have hc':=hl c hc;have hdr:=hl d hd
    have himp: ∀e∈l,(gz d e&& !decide (e=d))=true->(gz c e&& !decide (e=c))=true:=by
     grind
    have hle2: ∀ (p q:Cl->Bool) (m:LC),(∀e∈m,p e=true->q e=true)->(m.filter p).length<=(m.filter q).length:=by
     intro p q m
     induction m<;>grind
    have hlt: ∀ (p q:Cl->Bool) (m:LC),(∀e∈m,p e=true->q e=true)->d∈m->p d=false->q d=true->(m.filter p).length<(m.filter q).length:=by
     intro p q m
     induction m with
     |nil=>simp
     |cons e m im=>
      intro hm hdm hp hq
      have hrest: ∀e∈m,p e=true->q e=true:=fun e he=>hm e (by simp [he])
      have hb:=hle2 p q m hrest
      rcases gc.1 hdm with rfl|hdm<;>grind
    exact hlt _ _ l himp hd (by simp) (by grind)
   omega
theorem Pz {j:Int} {f:LC} (hf:RF f):(b8 j f).length=0↔f.length=0:=by
 have h:=I6 (j:=j) hf.len
 have hm:=(FH h).1
 constructor
 ·intro h0
  apply Classical.byContradiction
  intro hne
  obtain ⟨c,hc⟩:=List.exists_mem_of_length_pos (l:=f.map (nx j)) (by grind)
  obtain ⟨d,hd,hn⟩:=aon _ (dC _) (yk j f) hc
  have:d∈b8 j f:=by grind [mem_mins]
  grind
 ·intro h0
  have:=kj.1 h0
  subst this;rfl
theorem alW (hk:Fu k) (Y:LC×Int->OS S) {i d:Int} (hi:0<=i/\i<24) (hd:0<=d/\d<4611686018427387000) {f:LC} (hf:aI f) (hlen:f.length<1073741824):
  ∀ (r p:LC) (m:Nat) (o:LC),f=p++r->r.length<m->aI o->o.length=p.length->uL k Y i d f m (p.length:Int) o=Y (ci (o++r.map (nx (i+d)))):=by
 intro r
 induction r with
 |nil=>
  intro p m o h hm hok ho
  obtain ⟨m,rfl,hm'⟩:=aq hm
  grind [uL,BG,ah,al,oK]
 |cons x r ih=>
  intro p m o h hm hok ho
  obtain ⟨m,rfl,hm'⟩:=aq hm
  obtain ⟨e1,e2,e3,e4⟩:=aR h (by omega)
  have hx:bQ x:=hf x (by grind)
  have hpl:p.length<f.length:=by grind
  simp only [uL,BG,e1,aj,e2,aJ,al hk,bw (n:=i+d) (by omega) (by omega),XZ hk hx.1,XZ hk hx.2,e3]
  rw [bn (by grind)]
  have:=ih (p++[x]) m (o++[nx (i+d) x]) e4 hm' (iY hok fun c hc=>by simp at hc;subst hc;exact (I5 _ _).ok) (by grind)
  refine ak this ?_
  simp
theorem Yc (hk:Fu k) {i d:Int} (hi:0<=i/\i<24) (hd:0<=d/\d<4611686018427387000) {f:LC} (hf:RF f) (Y:LC×Int->OS S):tP k f d i Y=Y (b8 (i+d) f,0):=by
 have l1:=hf.len
 have:=alW hk Y hi hd hf.2 (by omega) f [] k [] rfl (by omega) (fun c hc=>by cases hc) rfl
 grind [tP,Nq,I6]
theorem alR (hk:Fu k) (Y:LC->OS S) {j:Int} {f:LC} (hf:aI f) (hlen:f.length<1073741824):
  ∀ (r p:LC) (m:Nat) (o:LC),f=p++r->r.length<m->aI o->o.length=p.length->vw k Y f j m o (p.length:Int)=Y (ci (o++r.map (nx j))).1:=by
 intro r
 induction r with
 |nil=>
  intro p m o h hm hok ho
  obtain ⟨m,rfl,hm'⟩:=aq hm
  grind [vw,CM,ah,al,te]
 |cons x r ih=>
  intro p m o h hm hok ho
  obtain ⟨m,rfl,hm'⟩:=aq hm
  obtain ⟨e1,e2,e3,e4⟩:=aR h (by omega)
  have hx:bQ x:=hf x (by grind)
  have hpl:p.length<f.length:=by grind
  simp only [vw,CM,e1,aj,e2,aJ,al hk,YA hk hx.1,YA hk hx.2,e3]
  rw [bn (by grind)]
  have:=ih (p++[x]) m (o++[nx j x]) e4 hm' (iY hok fun c hc=>by simp at hc;subst hc;exact (I5 _ _).ok) (by grind)
  refine ak this ?_
  simp
theorem Yb (hk:Fu k) {j:Int} {f:LC} (hf:RF f) (Y:LC->OS S):yT k f j Y=Y (b8 j f):=by
 have l1:=hf.len
 have:=alR hk Y (j:=j) hf.2 (by omega) f [] k [] rfl (by omega) (fun c hc=>by cases hc) rfl
 simp only [yT,Ot]
 exact this
theorem Hk (fo fa:f_) (d:Int) (t:Tm):bS fo fa d t=bE (if t.kind=14 then fa d t.r else fo d t.r) fun r'=>bE (cK fo fa d t.kind 0 t.kids) fun ks'=>bE (bX fo fa d t.kind t.sys) fun sys'=> .ok (.mk t.kind t.n t.name r' ks' sys'):=by cases t;rfl
theorem O0 {fo fa:f_} {d:Int} {x y:Tm} (h:bS fo fa d x= .ok y):y.kind=x.kind:=by
 rw [Hk] at h
 obtain ⟨_,_,h⟩:=aY h
 obtain ⟨_,_,h⟩:=aY h
 obtain ⟨_,_,h⟩:=aY h
 injection h with h;subst h;rfl
theorem Hj (fo fa:f_) (d kd:Int) (b:Br Tm):jB fo fa d kd b=bE (fa d b.face) fun f'=>if f'.length=0 then .ok [] else bE (cQ fo fa d kd b.kids) fun ks'=> .ok [.mk f' ks']:=by cases b;rfl
section
variable {fo fa:f_} (hfo: ∀d f e,fo d f= .error e->0<e/\e<=1000) (hfa: ∀d f e,fa d f= .error e->0<e/\e<=1000)
include hfo hfa
theorem nf (t:Tm): ∀ {d e},bS fo fa d t= .error e->0<e/\e<=1000:=by
 induction t using kf with
 |h kd n nm r ks sys ih1 ih2=>
  intro d e h
  rw [bS] at h
  rcases ba h with h|⟨_,_,h⟩
  ·grind
  have hkids: ∀ {l:LT} {i:Nat},(∀x∈l,∀ {d e},bS fo fa d x= .error e->0<e/\e<=1000)->cK fo fa d kd i l= .error e->0<e/\e<=1000:=by
   intro l
   induction l with
   |nil=>grind [cK]
   |cons t l ih=>
    intro i hl h
    rw [cK] at h
    rcases ba h with h|⟨_,_,h⟩
    ·exact hl t (by simp) h
    grind [ba]
  have hmore: ∀ {l:LT},(∀x∈l,∀ {d e},bS fo fa d x= .error e->0<e/\e<=1000)-> ∀ {e},cQ fo fa d kd l= .error e->0<e/\e<=1000:=by
   intro l
   induction l with
   |nil=>grind [cQ]
   |cons t l ih=>
    intro hl e h
    rw [cQ] at h
    rcases ba h with h|⟨_,_,h⟩
    ·grind
    ·rcases ba h with h|⟨_,_,h⟩
     ·exact ih (fun x hx=>hl x (by simp [hx])) h
     simp_all
  have hsys: ∀ {l:LB},(∀b∈l,∀x∈b.kids,∀ {d e},bS fo fa d x= .error e->0<e/\e<=1000)->bX fo fa d kd l= .error e->0<e/\e<=1000:=by
   intro l
   induction l<;>grind [bX,ba,Hj]
  grind [ba]
theorem Zs {kd d:Int}: ∀ {l:LT} {i:Nat} {e:Int},cK fo fa d kd i l= .error e->0<e/\e<=1000:=by
 intro l
 induction l with
 |nil=>grind [cK]
 |cons t l ih=>
  intro i e h
  rw [cK] at h
  rcases ba h with h|⟨_,_,h⟩
  ·exact nf hfo hfa t h
  grind [ba]
theorem Zt {kd d:Int}: ∀ {l:LT} {e:Int},cQ fo fa d kd l= .error e->0<e/\e<=1000:=by
 intro l
 induction l<;>grind [cQ,ba,nf]
end
theorem Bm {α β:Type} (x:Except Int Tm) (hx: ∀e,x= .error e->0<e/\e<=1000) (f:Tm->α) (g:Int->α):(fun r:Tm×Int=>ac (!(r.2==0)) (g r.2) (f r.1)) (tE x)=eE x f g:=by
 cases x with
 |ok t=>rfl
 |error e=>
  have:=(hx e rfl).1
  show ac (!(e==0)) (g e) (f aH)=g e
  grind [decide_eq_false,aj]
theorem FY {α β γ:Type} (x:Except Int α) (hx: ∀e,x= .error e->0<e/\e<=1000) (z:α) (f:α->β) (g:Int->β):eE x (fun l=>(fun r:α×Int=>ac (!(r.2==0)) (g r.2) (f r.1)) (l,0)) (fun e=>(fun r:α×Int=>ac (!(r.2==0)) (g r.2) (f r.1)) (z,e))=eE x f g:=by
 cases x with
 |ok t=>rfl
 |error e=>
  have:=(hx e rfl).1
  show ac (!(e==0)) (g e) (f z)=g e
  grind [decide_eq_false,aj]
theorem qf {G:Int->LC->LC}: ∀d f e,bj G d f= .error e->0<e/\e<=1000:=fun d f e h=>by cases h
theorem m6 {i:Int} {r:LC} {fa:Bool}: ∀d f e,bV i r fa d f= .error e->0<e/\e<=1000:=fun d f e h=>GN h
section
variable {hd:Tm->Int->Int->LC->(Tm×Int->OS S)->OS S} {i d:Int} {t:Tm} {r:LC}
theorem apA (hk:Fu k) (hi:0<=i/\i<24) (hr:RF r) (hd0:0<=d/\d<4611686018427386000) (hro:RowsT t) (Y:LC×Int->OS S): ∃z:LC×Int,d9 z=(if t.kind=14 then (bV i r true) d t.r else (bV i r false) d t.r)/\Dt k t d i r Y=Y z:=by
 have hr0:=hro.no.1
 simp only [Dt,al hk,YI hk hr0 hr hi (show 0<=d/\d<4611686018427387000 by omega),asb hk hr0 hr hi (show 0<=d/\d<4611686018427387000 by omega)]
 by_cases h:t.kind=14
 ·rw [h,if_pos rfl,show ((14:Int)==14)=true from rfl,aj]
  grind [tn]
 ·rw [if_neg h,show (t.kind==14)=false from by grind,ah]
  grind [tn]
theorem apx (hk:Fu k) (Y:LT×Int->OS S) (hd0:0<=d/\d<4611686018427386000) (hQ: ∀y∈t.kids,∀b,0<=b/\b<=1-> ∀g,hd y (d+b) i r g=g (tE (bS (bV i r false) (bV i r true) (d+b) y))) (hl:t.kids.length<1073741824):
  ∀ (r' p:LT) (m:Nat) (acc:LT),t.kids=p++r'->r'.length<m->acc.length=p.length->
  pM hd k Y i r t t.kids d m acc (p.length:Int)=eE (cK (bV i r false) (bV i r true) d t.kind p.length r') (fun l=>Y (acc++l,0)) fun e=>Y ([],e):=by
 intro r'
 induction r' with
 |nil=>
  grind [aq,pM,BL,ah,cK,bA]
 |cons y r' ih=>
  intro p m acc h hm ha
  obtain ⟨m,rfl,hm'⟩:=aq hm
  obtain ⟨e1,e2,e3,e4⟩:=aR h (by omega)
  have hpl:p.length<t.kids.length:=by grind
  have b2':=jJ t.kind p.length
  have hy:=hQ y (by grind) (cF t.kind p.length) b2'
  simp only [pM,BL,e1,aj,e2,aJ,al hk,yu,m7,aA,bw (n:=d+cF t.kind p.length) (by omega) (by omega),hy]
  refine ak (Bm (β:=Unit) _ (fun e he=>nf m6 m6 y he) (fun z=>ag (aS 1099511627776 acc.length [z].length) fun _=>pM hd k Y i r t t.kids d m (acc++[z]) (af .i64 ((p.length:Int)+1))) fun e=>Y ([],e)) ?_
  simp only [cK,bq,bA]
  refine de (fun t' ht'=> ?_) fun e _=>rfl
  rw [bn (by grind),e3,ih (p++[y]) m (acc++[t']) e4 hm' (by grind),show (p++[y]).length=p.length+1 by simp]
  simp
theorem apy (hk:Fu k) (Y:LT×Int->OS S) {x:Br Tm} {kd:Int} (hd0:0<=d/\d<4611686018427386000) (hQ: ∀y∈x.kids,∀g,hd y (d+aW kd) i r g=g (tE (bS (bV i r false) (bV i r true) (d+aW kd) y))) (hl:x.kids.length<1073741824):
  ∀ (r' p:LT) (m:Nat) (acc:LT),x.kids=p++r'->r'.length<m->acc.length=p.length->
  pL hd k Y i r (aW kd) x.kids d m acc (p.length:Int)=eE (cQ (bV i r false) (bV i r true) d kd r') (fun l=>Y (acc++l,0)) fun e=>Y ([],e):=by
 have hmo:=fO kd
 intro r'
 induction r' with
 |nil=>
  grind [aq,pL,BJ,ah,cQ,bA]
 |cons y r' ih=>
  intro p m acc h hm ha
  obtain ⟨m,rfl,hm'⟩:=aq hm
  obtain ⟨e1,e2,e3,e4⟩:=aR h (by omega)
  have hpl:p.length<x.kids.length:=by grind
  have hy:=hQ y (by grind)
  simp only [pL,BJ,e1,aj,e2,aJ,al hk,yv,aA,bw (n:=d+aW kd) (by omega) (by omega),hy]
  refine ak (Bm (β:=Unit) _ (fun e he=>nf m6 m6 y he) (fun z=>ag (aS 1099511627776 acc.length [z].length) fun _=>pL hd k Y i r (aW kd) x.kids d m (acc++[z]) (af .i64 ((p.length:Int)+1))) fun e=>Y ([],e)) ?_
  simp only [cQ,bq,bA]
  refine de (fun t' ht'=> ?_) fun e _=>rfl
  rw [bn (by grind),e3,ih (p++[y]) m (acc++[t']) e4 hm' (by grind)]
  simp
theorem apz (hk:Fu k) (Y:Tm×Int->OS S) (hi:0<=i/\i<24) (hr:RF r) (hd0:0<=d/\d<4611686018427386000) {r1:LC×Int} {r2:LT×Int} (ht:OkT t) (hro:RowsT t) (hQ: ∀b∈t.sys,∀y∈b.kids,∀g,hd y (d+aW t.kind) i r g=g (tE (bS (bV i r false) (bV i r true) (d+aW t.kind) y))):
  ∀ (r' p:LB) (m:Nat) (o:LB),t.sys=p++r'->r'.length<m->o.length<=p.length->
  jS hd k Y i r t r1 r2 d m (aW t.kind) o (p.length:Int)=eE (bX (bV i r false) (bV i r true) d t.kind r') (fun s=>Y (.mk t.kind t.n t.name r1.1 r2.1 (o++s),0)) fun e=>Y (aH,e):=by
 obtain ⟨o1,o2,o3,o4,o5,o6,o7⟩:=ht.no
 intro r'
 induction r' with
 |nil=>
  grind [aq,jS,BM,ah,bX,bA]
 |cons x r' ih=>
  intro p m o h hml ho
  obtain ⟨m,rfl,hm'⟩:=aq hml
  obtain ⟨e1,e2,e3,e4⟩:=aR h (by omega)
  have hx:x∈t.sys:=by grind
  have hpl:p.length<t.sys.length:=by grind
  have hb:=(ht.bi hx).1
  have hr0:=(hro.bi hx).1
  have hM:=fun g:LT×Int->OS S=>apy (kd:=t.kind) hk g hd0 (hQ x hx) hb.2.2 x.kids [] k [] rfl (by omega) rfl
  have hM: ∀g:LT×Int->OS S,pL hd k g i r (aW t.kind) x.kids d k [] 0=_:=hM
  simp only [jS,BM,e1,aj,e2,aJ,al hk,YI hk hr0 hr hi (show 0<=d/\d<4611686018427387000 by omega),Je,Nt,hM,e3,dG]
  have hin:=fun f':LC=>FY (β:=OS S) (γ:=Unit) (cQ (bV i r false) (bV i r true) d t.kind x.kids) (fun e he=>Zt m6 m6 he) [] (fun l=>ag (aS 1099511627776 o.length [Br.mk f' l].length) fun _=>jS hd k Y i r t r1 r2 d m (aW t.kind) (o++[Br.mk f' l]) (((p++[x]).length:Nat):Int)) fun e=>Y (aH,e)
  refine ak (Bt (z:=(gN i r true d x.face)) (fun f'=>ac (((f'.length:Nat):Int)==0) (jS hd k Y i r t r1 r2 d m (aW t.kind) o (((p++[x]).length:Nat):Int)) (eE (cQ (bV i r false) (bV i r true) d t.kind x.kids) (fun l=>(fun r5:LT×Int=>ac (!(r5.2==0)) (Y (aH,r5.2)) (ag (aS 1099511627776 o.length [Br.mk f' r5.1].length) fun _=>jS hd k Y i r t r1 r2 d m (aW t.kind) (o++[Br.mk f' r5.1]) (((p++[x]).length:Nat):Int))) (l,0)) fun e=>(fun r5:LT×Int=>ac (!(r5.2==0)) (Y (aH,r5.2)) (ag (aS 1099511627776 o.length [Br.mk f' r5.1].length) fun _=>jS hd k Y i r t r1 r2 d m (aW t.kind) (o++[Br.mk f' r5.1]) (((p++[x]).length:Nat):Int))) ([],e))) fun e=>Y (aH,e)) ?_
  rw [show d9 (gN i r true d x.face)=(bV i r true) d x.face from tn _ _ _ _ _]
  rw [bX,Hj,bq,bq]
  refine de (fun f' hf'=> ?_) fun e _=>rfl
  rw [vQ,bR]
  by_cases h0:f'.length=0
  ·rw [if_pos h0,if_pos h0,bA,bq,ih (p++[x]) m o e4 hm' (by grind)]
   rfl
  ·rw [if_neg h0,if_neg h0,hin f',bq]
   refine de (fun l hl=> ?_) fun e _=>rfl
   rw [bA,bq,bn (by grind),ih (p++[x]) m (o++[Br.mk f' l]) e4 hm' (by grind)]
   grind [bA]
end
theorem apB {i:Int} {r:LC} (hi:0<=i/\i<24) (hr:RF r) (t:Tm):OkT t->RowsT t-> ∀ {k:Nat} {d:Int} (Y:Tm×Int->OS S),Fd k (aw t)->0<=d->d+aw t<4611686018427386000->gT k t d i r Y=Y (tE (bS (bV i r false) (bV i r true) d t)):=by
 induction t using eI with
 |h t ih1 ih2=>
  intro ht hro k d Y hk hv hv'
  obtain ⟨q,rfl,hq,hf⟩:=hk.pos' (du t)
  have hp:=du t
  have hd0:0<=d/\d<4611686018427386000:=by omega
  obtain ⟨o1,o2,o3,o4,o5,o6,o7⟩:=ht.no
  have hmo:=fO t.kind
  have hQ: ∀y∈t.kids,∀b,0<=b/\b<=1-> ∀g:Tm×Int->OS S,gT q y (d+b) i r g=g (tE (bS (bV i r false) (bV i r true) (d+b) y)):=fun y hy b h2 g=>
   ih1 y hy (ht.ki hy) (hro.ki hy) g (hf _ (dc hy)) (by omega) (by have:=dc hy;omega)
  have hQ': ∀b∈t.sys,∀y∈b.kids,∀g:Tm×Int->OS S,gT q y (d+aW t.kind) i r g=g (tE (bS (bV i r false) (bV i r true) (d+aW t.kind) y)):=fun b hb y hy g=>
   ih2 b hb y hy ((ht.bi hb).2 y hy) ((hro.bi hb).2 y hy) g (hf _ (di hb hy)) (by omega) (by have:=di hb hy;omega)
  have hK: ∀g:LT×Int->OS S,pM (gT q) q g i r t t.kids d q [] 0=_:=fun g=>apx hq g hd0 hQ o6 t.kids [] q [] rfl (by omega) rfl
  have hS:=fun (r1:LC×Int) (r2:LT×Int)=>apz (r1:=r1) (r2:=r2) hq Y hi hr hd0 ht hro hQ' t.sys [] q [] rfl (by omega) (dC _)
  have hS: ∀ (r1:LC×Int) (r2:LT×Int),jS (gT q) q Y i r t r1 r2 d q (aW t.kind) [] 0=_:=hS
  have hcase: ∀ (r1:LC×Int) (r2:LT×Int),ac (t.kind==15) (jS (gT q) q Y i r t r1 r2 d q 1 [] 0) (jS (gT q) q Y i r t r1 r2 d q 0 [] 0)=eE (bX (bV i r false) (bV i r true) d t.kind t.sys) (fun s=>Y (.mk t.kind t.n t.name r1.1 r2.1 s,0)) fun e=>Y (aH,e):=by
   grind [dX,aW]
  obtain ⟨z,hz,hrow⟩:=apA hq hi hr hd0 hro (fun r1=>ac (!(r1.2==0)) (Y (aH,r1.2)) (eE (cK (bV i r false) (bV i r true) d t.kind 0 t.kids) (fun l=>(fun r2:LT×Int=>ac (!(r2.2==0)) (Y (aH,r2.2)) (eE (bX (bV i r false) (bV i r true) d t.kind t.sys) (fun s=>Y (.mk t.kind t.n t.name r1.1 r2.1 s,0)) fun e=>Y (aH,e))) (l,0)) fun e=>(fun r2:LT×Int=>ac (!(r2.2==0)) (Y (aH,r2.2)) (eE (bX (bV i r false) (bV i r true) d t.kind t.sys) (fun s=>Y (.mk t.kind t.n t.name r1.1 r2.1 s,0)) fun e=>Y (aH,e))) ([],e)))
  simp only [gT,Nv,al hq,aA,Jf,Nu,hK,hcase,dG,List.length_nil]
  refine ak hrow ?_
  rw [j9 _ Y,Hk,<-hz]
  refine ak (Bt (z:=z) (fun r'=>eE (cK (bV i r false) (bV i r true) d t.kind 0 t.kids) (fun l=>(fun r2:LT×Int=>ac (!(r2.2==0)) (Y (aH,r2.2)) (eE (bX (bV i r false) (bV i r true) d t.kind t.sys) (fun s=>Y (.mk t.kind t.n t.name r' r2.1 s,0)) fun e=>Y (aH,e))) (l,0)) fun e=>(fun r2:LT×Int=>ac (!(r2.2==0)) (Y (aH,r2.2)) (eE (bX (bV i r false) (bV i r true) d t.kind t.sys) (fun s=>Y (.mk t.kind t.n t.name r' r2.1 s,0)) fun e=>Y (aH,e))) ([],e)) fun e=>Y (aH,e)) ?_
  rw [bq]
  refine de (fun r' _=> ?_) fun e _=>rfl
  refine ak (FY (β:=OS S) (γ:=Unit) (cK (bV i r false) (bV i r true) d t.kind 0 t.kids) (fun e he=>Zs m6 m6 he) [] (fun l=>eE (bX (bV i r false) (bV i r true) d t.kind t.sys) (fun s=>Y (.mk t.kind t.n t.name r' l s,0)) fun e=>Y (aH,e)) fun e=>Y (aH,e)) ?_
  simp only [bq,bA]
section
variable {hd:Tm->Int->Int->(Tm×Int->OS S)->OS S} {i d:Int} {t:Tm}
theorem agO (hk:Fu k) (hi:0<=i/\i<24) (hd0:0<=d/\d<4611686018427386000) (hro:RowsT t) (Y:LC×Int->OS S): ∃z:LC×Int,d9 z=(if t.kind=14 then (bj fun d f=>b8 (i+d) f) d t.r else (bj fun d f=>b8 (i+d) f) d t.r)/\Du k t d i Y=Y z:=by
 have hr0:=hro.no.1
 simp only [Du,al hk,Yc hk hi (show 0<=d/\d<4611686018427387000 by omega) hr0]
 by_cases h:t.kind=14
 ·rw [h,if_pos rfl,show ((14:Int)==14)=true from rfl,aj]
  exact ⟨_,rfl,rfl⟩
 ·rw [if_neg h,show (t.kind==14)=false from by grind,ah]
  exact ⟨_,rfl,rfl⟩
theorem agL (hk:Fu k) (Y:LT×Int->OS S) (hd0:0<=d/\d<4611686018427386000) (hQ: ∀y∈t.kids,∀b,0<=b/\b<=1-> ∀g,hd y (d+b) i g=g (tE (bS (bj fun d f=>b8 (i+d) f) (bj fun d f=>b8 (i+d) f) (d+b) y))) (hl:t.kids.length<1073741824):
  ∀ (r' p:LT) (m:Nat) (acc:LT),t.kids=p++r'->r'.length<m->acc.length=p.length->
  pK hd k Y i t t.kids d m acc (p.length:Int)=eE (cK (bj fun d f=>b8 (i+d) f) (bj fun d f=>b8 (i+d) f) d t.kind p.length r') (fun l=>Y (acc++l,0)) fun e=>Y ([],e):=by
 intro r'
 induction r' with
 |nil=>
  grind [aq,pK,BI,ah,cK,bA]
 |cons y r' ih=>
  intro p m acc h hm ha
  obtain ⟨m,rfl,hm'⟩:=aq hm
  obtain ⟨e1,e2,e3,e4⟩:=aR h (by omega)
  have hpl:p.length<t.kids.length:=by grind
  have b2':=jJ t.kind p.length
  have hy:=hQ y (by grind) (cF t.kind p.length) b2'
  simp only [pK,BI,e1,aj,e2,aJ,al hk,yu,m7,aA,bw (n:=d+cF t.kind p.length) (by omega) (by omega),hy]
  refine ak (Bm (β:=Unit) _ (fun e he=>nf qf qf y he) (fun z=>ag (aS 1099511627776 acc.length [z].length) fun _=>pK hd k Y i t t.kids d m (acc++[z]) (af .i64 ((p.length:Int)+1))) fun e=>Y ([],e)) ?_
  simp only [cK,bq,bA]
  refine de (fun t' ht'=> ?_) fun e _=>rfl
  rw [bn (by grind),e3,ih (p++[y]) m (acc++[t']) e4 hm' (by grind),show (p++[y]).length=p.length+1 by simp]
  simp
theorem agM (hk:Fu k) (Y:LT×Int->OS S) {x:Br Tm} {kd:Int} (hd0:0<=d/\d<4611686018427386000) (hQ: ∀y∈x.kids,∀g,hd y (d+aW kd) i g=g (tE (bS (bj fun d f=>b8 (i+d) f) (bj fun d f=>b8 (i+d) f) (d+aW kd) y))) (hl:x.kids.length<1073741824):
  ∀ (r' p:LT) (m:Nat) (acc:LT),x.kids=p++r'->r'.length<m->acc.length=p.length->
  pJ hd k Y i (aW kd) x.kids d m acc (p.length:Int)=eE (cQ (bj fun d f=>b8 (i+d) f) (bj fun d f=>b8 (i+d) f) d kd r') (fun l=>Y (acc++l,0)) fun e=>Y ([],e):=by
 have hmo:=fO kd
 intro r'
 induction r' with
 |nil=>
  grind [aq,pJ,BH,ah,cQ,bA]
 |cons y r' ih=>
  intro p m acc h hm ha
  obtain ⟨m,rfl,hm'⟩:=aq hm
  obtain ⟨e1,e2,e3,e4⟩:=aR h (by omega)
  have hpl:p.length<x.kids.length:=by grind
  have hy:=hQ y (by grind)
  simp only [pJ,BH,e1,aj,e2,aJ,al hk,yv,aA,bw (n:=d+aW kd) (by omega) (by omega),hy]
  refine ak (Bm (β:=Unit) _ (fun e he=>nf qf qf y he) (fun z=>ag (aS 1099511627776 acc.length [z].length) fun _=>pJ hd k Y i (aW kd) x.kids d m (acc++[z]) (af .i64 ((p.length:Int)+1))) fun e=>Y ([],e)) ?_
  simp only [cQ,bq,bA]
  refine de (fun t' ht'=> ?_) fun e _=>rfl
  rw [bn (by grind),e3,ih (p++[y]) m (acc++[t']) e4 hm' (by grind)]
  simp
theorem agN (hk:Fu k) (Y:Tm×Int->OS S) (hi:0<=i/\i<24) (hd0:0<=d/\d<4611686018427386000) {r1:LC×Int} {r2:LT×Int} (ht:OkT t) (hro:RowsT t) (hQ: ∀b∈t.sys,∀y∈b.kids,∀g,hd y (d+aW t.kind) i g=g (tE (bS (bj fun d f=>b8 (i+d) f) (bj fun d f=>b8 (i+d) f) (d+aW t.kind) y))):
  ∀ (r' p:LB) (m:Nat) (o:LB),t.sys=p++r'->r'.length<m->o.length<=p.length->
  jT hd k Y i t r1 r2 d m (aW t.kind) o (p.length:Int)=eE (bX (bj fun d f=>b8 (i+d) f) (bj fun d f=>b8 (i+d) f) d t.kind r') (fun s=>Y (.mk t.kind t.n t.name r1.1 r2.1 (o++s),0)) fun e=>Y (aH,e):=by
 obtain ⟨o1,o2,o3,o4,o5,o6,o7⟩:=ht.no
 intro r'
 induction r' with
 |nil=>
  grind [aq,jT,BN,ah,bX,bA]
 |cons x r' ih=>
  intro p m o h hml ho
  obtain ⟨m,rfl,hm'⟩:=aq hml
  obtain ⟨e1,e2,e3,e4⟩:=aR h (by omega)
  have hx:x∈t.sys:=by grind
  have hpl:p.length<t.sys.length:=by grind
  have hb:=(ht.bi hx).1
  have hr0:=(hro.bi hx).1
  have hM:=fun g:LT×Int->OS S=>agM (kd:=t.kind) hk g hd0 (hQ x hx) hb.2.2 x.kids [] k [] rfl (by omega) rfl
  have hM: ∀g:LT×Int->OS S,pJ hd k g i (aW t.kind) x.kids d k [] 0=_:=hM
  simp only [jT,BN,e1,aj,e2,aJ,al hk,Yc hk hi (show 0<=d/\d<4611686018427387000 by omega) hr0,Jc,Nr,hM,e3,dG]
  have hin:=fun f':LC=>FY (β:=OS S) (γ:=Unit) (cQ (bj fun d f=>b8 (i+d) f) (bj fun d f=>b8 (i+d) f) d t.kind x.kids) (fun e he=>Zt qf qf he) [] (fun l=>ag (aS 1099511627776 o.length [Br.mk f' l].length) fun _=>jT hd k Y i t r1 r2 d m (aW t.kind) (o++[Br.mk f' l]) (((p++[x]).length:Nat):Int)) fun e=>Y (aH,e)
  refine ak (Bt (z:=(b8 (i+d) x.face,(0:Int))) (fun f'=>ac (((f'.length:Nat):Int)==0) (jT hd k Y i t r1 r2 d m (aW t.kind) o (((p++[x]).length:Nat):Int)) (eE (cQ (bj fun d f=>b8 (i+d) f) (bj fun d f=>b8 (i+d) f) d t.kind x.kids) (fun l=>(fun r5:LT×Int=>ac (!(r5.2==0)) (Y (aH,r5.2)) (ag (aS 1099511627776 o.length [Br.mk f' r5.1].length) fun _=>jT hd k Y i t r1 r2 d m (aW t.kind) (o++[Br.mk f' r5.1]) (((p++[x]).length:Nat):Int))) (l,0)) fun e=>(fun r5:LT×Int=>ac (!(r5.2==0)) (Y (aH,r5.2)) (ag (aS 1099511627776 o.length [Br.mk f' r5.1].length) fun _=>jT hd k Y i t r1 r2 d m (aW t.kind) (o++[Br.mk f' r5.1]) (((p++[x]).length:Nat):Int))) ([],e))) fun e=>Y (aH,e)) ?_
  rw [show d9 (b8 (i+d) x.face,(0:Int))=(bj fun d f=>b8 (i+d) f) d x.face from rfl]
  rw [bX,Hj,bq,bq]
  refine de (fun f' hf'=> ?_) fun e _=>rfl
  rw [vQ,bR]
  by_cases h0:f'.length=0
  ·rw [if_pos h0,if_pos h0,bA,bq,ih (p++[x]) m o e4 hm' (by grind)]
   rfl
  ·rw [if_neg h0,if_neg h0,hin f',bq]
   refine de (fun l hl=> ?_) fun e _=>rfl
   rw [bA,bq,bn (by grind),ih (p++[x]) m (o++[Br.mk f' l]) e4 hm' (by grind)]
   grind [bA]
end
theorem agP {i:Int} (hi:0<=i/\i<24) (t:Tm):OkT t->RowsT t-> ∀ {k:Nat} {d:Int} (Y:Tm×Int->OS S),Fd k (aw t)->0<=d->d+aw t<4611686018427386000->gE k t d i Y=Y (tE (bS (bj fun d f=>b8 (i+d) f) (bj fun d f=>b8 (i+d) f) d t)):=by
 induction t using eI with
 |h t ih1 ih2=>
  intro ht hro k d Y hk hv hv'
  obtain ⟨q,rfl,hq,hf⟩:=hk.pos' (du t)
  have hp:=du t
  have hd0:0<=d/\d<4611686018427386000:=by omega
  obtain ⟨o1,o2,o3,o4,o5,o6,o7⟩:=ht.no
  have hmo:=fO t.kind
  have hQ: ∀y∈t.kids,∀b,0<=b/\b<=1-> ∀g:Tm×Int->OS S,gE q y (d+b) i g=g (tE (bS (bj fun d f=>b8 (i+d) f) (bj fun d f=>b8 (i+d) f) (d+b) y)):=fun y hy b h2 g=>
   ih1 y hy (ht.ki hy) (hro.ki hy) g (hf _ (dc hy)) (by omega) (by have:=dc hy;omega)
  have hQ': ∀b∈t.sys,∀y∈b.kids,∀g:Tm×Int->OS S,gE q y (d+aW t.kind) i g=g (tE (bS (bj fun d f=>b8 (i+d) f) (bj fun d f=>b8 (i+d) f) (d+aW t.kind) y)):=fun b hb y hy g=>
   ih2 b hb y hy ((ht.bi hb).2 y hy) ((hro.bi hb).2 y hy) g (hf _ (di hb hy)) (by omega) (by have:=di hb hy;omega)
  have hK: ∀g:LT×Int->OS S,pK (gE q) q g i t t.kids d q [] 0=_:=fun g=>agL hq g hd0 hQ o6 t.kids [] q [] rfl (by omega) rfl
  have hS:=fun (r1:LC×Int) (r2:LT×Int)=>agN (r1:=r1) (r2:=r2) hq Y hi hd0 ht hro hQ' t.sys [] q [] rfl (by omega) (dC _)
  have hS: ∀ (r1:LC×Int) (r2:LT×Int),jT (gE q) q Y i t r1 r2 d q (aW t.kind) [] 0=_:=hS
  have hcase: ∀ (r1:LC×Int) (r2:LT×Int),ac (t.kind==15) (jT (gE q) q Y i t r1 r2 d q 1 [] 0) (jT (gE q) q Y i t r1 r2 d q 0 [] 0)=eE (bX (bj fun d f=>b8 (i+d) f) (bj fun d f=>b8 (i+d) f) d t.kind t.sys) (fun s=>Y (.mk t.kind t.n t.name r1.1 r2.1 s,0)) fun e=>Y (aH,e):=by
   grind [dX,aW]
  obtain ⟨z,hz,hrow⟩:=agO hq hi hd0 hro (fun r1=>ac (!(r1.2==0)) (Y (aH,r1.2)) (eE (cK (bj fun d f=>b8 (i+d) f) (bj fun d f=>b8 (i+d) f) d t.kind 0 t.kids) (fun l=>(fun r2:LT×Int=>ac (!(r2.2==0)) (Y (aH,r2.2)) (eE (bX (bj fun d f=>b8 (i+d) f) (bj fun d f=>b8 (i+d) f) d t.kind t.sys) (fun s=>Y (.mk t.kind t.n t.name r1.1 r2.1 s,0)) fun e=>Y (aH,e))) (l,0)) fun e=>(fun r2:LT×Int=>ac (!(r2.2==0)) (Y (aH,r2.2)) (eE (bX (bj fun d f=>b8 (i+d) f) (bj fun d f=>b8 (i+d) f) d t.kind t.sys) (fun s=>Y (.mk t.kind t.n t.name r1.1 r2.1 s,0)) fun e=>Y (aH,e))) ([],e)))
  simp only [gE,Nw,al hq,aA,Jd,Ns,hK,hcase,dG,List.length_nil]
  refine ak hrow ?_
  rw [j9 _ Y,Hk,<-hz]
  refine ak (Bt (z:=z) (fun r'=>eE (cK (bj fun d f=>b8 (i+d) f) (bj fun d f=>b8 (i+d) f) d t.kind 0 t.kids) (fun l=>(fun r2:LT×Int=>ac (!(r2.2==0)) (Y (aH,r2.2)) (eE (bX (bj fun d f=>b8 (i+d) f) (bj fun d f=>b8 (i+d) f) d t.kind t.sys) (fun s=>Y (.mk t.kind t.n t.name r' r2.1 s,0)) fun e=>Y (aH,e))) (l,0)) fun e=>(fun r2:LT×Int=>ac (!(r2.2==0)) (Y (aH,r2.2)) (eE (bX (bj fun d f=>b8 (i+d) f) (bj fun d f=>b8 (i+d) f) d t.kind t.sys) (fun s=>Y (.mk t.kind t.n t.name r' r2.1 s,0)) fun e=>Y (aH,e))) ([],e)) fun e=>Y (aH,e)) ?_
  rw [bq]
  refine de (fun r' _=> ?_) fun e _=>rfl
  refine ak (FY (β:=OS S) (γ:=Unit) (cK (bj fun d f=>b8 (i+d) f) (bj fun d f=>b8 (i+d) f) d t.kind 0 t.kids) (fun e he=>Zs qf qf he) [] (fun l=>eE (bX (bj fun d f=>b8 (i+d) f) (bj fun d f=>b8 (i+d) f) d t.kind t.sys) (fun s=>Y (.mk t.kind t.n t.name r' l s,0)) fun e=>Y (aH,e)) fun e=>Y (aH,e)) ?_
  simp only [bq,bA]
def Dd (i:Int):Int->LC->LC:=fun d f=>b8 (i+d) f
def dv (i:Int) (r:LC) (fa:Bool):f_:=eM (bV i r fa) (Dd i)
theorem zw (i:Int) (r:LC) (fa:Bool) (d:Int) (f:LC):dv i r fa d f=bE (bV i r fa d f) fun m=> .ok (b8 (i+d) m):=rfl
theorem uC {i:Int} {r:LC} {fa:Bool}: ∀d f e,dv i r fa d f= .error e->0<e/\e<=1000:=fun d f e h=>by
 rw [zw] at h
 rcases ba h with h|⟨_,_,h⟩
 ·exact GN h
 simp_all
section
variable {hd:Tm->Int->LC->Int->Bool->(Tm->OS S)->OS S} {i d:Int} {r:LC} {t:Tm}
theorem ank (hk:Fu k) (Y:Tm->OS S) (rec1:LB->Int->OS S) {v18:Int} {r3:LC} {ks:LT} {o:LB} {x:Br Tm} (hi:ai t.sys v18=some x)
  (hd0:0<=d/\d<4611686018427386000) (hQ: ∀y∈x.kids,∀g,hd y i r (d+aW t.kind) true g=g (rE (bS (dv i r false) (dv i r true) (d+aW t.kind) y))) (hkd: ∀y∈x.kids,0<=y.kind) (hl:x.kids.length<1073741824) (ho:o.length<1073741824) {f'':LC}:
  ∀ (r' p:LT) (m:Nat) (acc:LT),x.kids=p++r'->r'.length<m->acc.length=p.length->
  oj hd k Y rec1 t r3 ks o i v18 r d true m f'' acc (p.length:Int)=eE (cQ (dv i r false) (dv i r true) d t.kind r') (fun l=>rec1 (o++[Br.mk f'' (acc++l)]) (af .i64 (v18+1))) fun e=>Y (bD e):=by
 have hmo:=fO t.kind
 intro r'
 induction r' with
 |nil=>
  grind [aq,oj,CN,ah,cQ,bA,bn]
 |cons y r' ih=>
  intro p m acc h hm ha
  obtain ⟨m,rfl,hm'⟩:=aq hm
  obtain ⟨e1,e2,e3,e4⟩:=aR h (by omega)
  have hpl:p.length<x.kids.length:=by grind
  have hym:y∈x.kids:=by grind
  have hy:=hQ y hym
  simp only [oj,CN,hi,e1,aj,e2,aJ,al hk,GV,aA,bw (n:=d+aW t.kind) (by omega) (by omega),hy]
  refine ak (wc (fun e he=>(nf uC uC y he).1) (fun z hz=>by grind [O0]) (fun z=>ag (aS 1099511627776 acc.length [z].length) fun _=>oj hd k Y rec1 t r3 ks o i v18 r d true m f'' (acc++[z]) (af .i64 ((p.length:Int)+1))) Y) ?_
  simp only [cQ,bq,bA]
  refine de (fun t' ht'=> ?_) fun e _=>rfl
  rw [bn (by grind),e3,ih (p++[y]) m (acc++[t']) e4 hm' (by grind)]
  simp
theorem anj (hk:Fu k) (Y:Tm->OS S) (hi:0<=i/\i<24) (hr:RF r) {r3:LC} {ks:LT} (ht:OkT t) (hro:RowsT t) (hd0:0<=d/\d<4611686018427386000)
  (hQ: ∀b∈t.sys,∀y∈b.kids,∀g,hd y i r (d+aW t.kind) true g=g (rE (bS (dv i r false) (dv i r true) (d+aW t.kind) y))):
  ∀ (r' p:LB) (m:Nat) (o:LB),t.sys=p++r'->r'.length<m->o.length<=p.length->
  lH hd k Y t r3 ks i r d true m o (p.length:Int)=eE (bX (dv i r false) (dv i r true) d t.kind r') (fun l=>Y (.mk t.kind t.n t.name r3 ks (o++l))) fun e=>Y (bD e):=by
 obtain ⟨o1,o2,o3,o4,o5,o6,o7⟩:=ht.no
 intro r'
 induction r' with
 |nil=>
  grind [aq,lH,xV,ah,bX,bA]
 |cons x r' ih=>
  intro p m o h hml ho
  obtain ⟨m,rfl,hm'⟩:=aq hml
  obtain ⟨e1,e2,e3,e4⟩:=aR h (by omega)
  have hx:x∈t.sys:=by grind
  have hpl:p.length<t.sys.length:=by grind
  have hb:=(ht.bi hx).1
  have hr0:=(hro.bi hx).1
  have hM:=fun f'':LC=>ank (f'':=f'') (r3:=r3) (ks:=ks) (o:=o) hk Y (lH hd k Y t r3 ks i r d true m) e2 hd0 (hQ x hx) (fun y hy=>((hro.bi hx).2 y hy).no.2.2) hb.2.2 (by omega) x.kids [] k [] rfl (by omega) rfl
  have hM: ∀f'':LC,oj hd k Y (lH hd k Y t r3 ks i r d true m) t r3 ks o i (p.length:Int) r d true k f'' [] 0=_:=hM
  simp only [lH,xV,e1,aj,e2,aJ,al hk,Ys hk hr0 hr hi (show 0<=d/\d<4611686018427387000 by omega),bw (n:=i+d) (by omega) (by omega),hM,e3,dG]
  rw [bX,Hj,bq,bq,zw,bq,<-tn]
  have hz:=tn i r true d x.face
  by_cases h0:(gN i r true d x.face).2=0
  ·have hrf:RF (gN i r true d x.face).1:=wA hr0 (hz.symm.trans (kV h0))
   rw [cH,decide_eq_true h0,bY,ah,kV h0,bA,bA,vQ,bR,Yb hk hrf]
   have hlen:=Pz (j:=i+d) hrf
   by_cases hl:(gN i r true d x.face).1.length=0
   ·rw [if_pos hl,if_pos (hlen.2 hl),bA,bq,ih (p++[x]) m o e4 hm' (by grind)]
    rfl
   ·rw [if_neg hl,if_neg (fun h=>hl (hlen.1 h)),bq]
    refine de (fun l _=> ?_) fun e _=>rfl
    rw [bA,bq,ih (p++[x]) m (o++[Br.mk (b8 (i+d) (gN i r true d x.face).1) l]) e4 hm' (by grind)]
    grind [bA]
  ·have hze:d9 (gN i r true d x.face)= .error (gN i r true d x.face).2:=kg h0
   have hen:=GN (hz.symm.trans hze)
   rw [cH,decide_eq_false h0,ca,aj,hze,jb hen];rfl
theorem ani (hk:Fu k) (Y:Tm->OS S) (hi:0<=i/\i<24) (hr:RF r) {r3:LC} (ht:OkT t) (hro:RowsT t) (hd0:0<=d/\d<4611686018427386000)
  (hQ: ∀y∈t.kids,∀b,0<=b/\b<=1-> ∀g,hd y i r (d+b) true g=g (rE (bS (dv i r false) (dv i r true) (d+b) y))) (hQ': ∀b∈t.sys,∀y∈b.kids,∀g,hd y i r (d+aW t.kind) true g=g (rE (bS (dv i r false) (dv i r true) (d+aW t.kind) y))):
  ∀ (r' p:LT) (m:Nat) (acc:LT),t.kids=p++r'->r'.length<m->acc.length=p.length->
  pY hd k Y t i r d true m r3 acc (p.length:Int)=eE (cK (dv i r false) (dv i r true) d t.kind p.length r') (fun l=>eE (bX (dv i r false) (dv i r true) d t.kind t.sys) (fun s=>Y (.mk t.kind t.n t.name r3 (acc++l) s)) fun e=>Y (bD e)) fun e=>Y (bD e):=by
 obtain ⟨o1,o2,o3,o4,o5,o6,o7⟩:=ht.no
 intro r'
 induction r' with
 |nil=>
  intro p m acc h hm ha
  obtain ⟨m,rfl,hm'⟩:=aq hm
  have hs:lH hd k Y t r3 acc i r d true k [] 0=_:=anj hk Y hi hr ht hro hd0 hQ' t.sys [] k [] rfl (by omega) (dC _)
  grind [pY,xU,ah,cK,bA]
 |cons y r' ih=>
  intro p m acc h hm ha
  obtain ⟨m,rfl,hm'⟩:=aq hm
  obtain ⟨e1,e2,e3,e4⟩:=aR h (by omega)
  have hpl:p.length<t.kids.length:=by grind
  have b2':=jJ t.kind p.length
  have hym:y∈t.kids:=by grind
  have hy:=hQ y hym (cF t.kind p.length) b2'
  simp only [pY,xU,e1,aj,e2,aJ,al hk,Bb hk,aA,bw (n:=d+cF t.kind p.length) (by omega) (by omega),hy]
  refine ak (wc (fun e he=>(nf uC uC y he).1) (fun z hz=>by rw [O0 hz];exact (hro.ki hym).no.2.2) (fun z=>ag (aS 1099511627776 acc.length [z].length) fun _=>pY hd k Y t i r d true m r3 (acc++[z]) (af .i64 ((p.length:Int)+1))) Y) ?_
  simp only [cK,bq,bA]
  refine de (fun t' ht'=> ?_) fun e _=>rfl
  rw [bn (by grind),e3,ih (p++[y]) m (acc++[t']) e4 hm' (by grind),show (p++[y]).length=p.length+1 by simp]
  simp
end
theorem arJ {i:Int} {r:LC} (hi:0<=i/\i<24) (hr:RF r) (t:Tm):OkT t->RowsT t-> ∀ {k:Nat} {d:Int} (Y:Tm->OS S),Fd k (aw t)->0<=d->d+aw t<4611686018427386000->jO k t i r d true Y=Y (rE (bS (dv i r false) (dv i r true) d t)):=by
 induction t using eI with
 |h t ih1 ih2=>
  intro ht hro k d Y hk hv hv'
  obtain ⟨q,rfl,hq,hf⟩:=hk.pos' (du t)
  have hp:=du t
  have hd0:0<=d/\d<4611686018427386000:=by omega
  obtain ⟨o1,o2,o3,o4,o5,o6,o7⟩:=ht.no
  have hmo:=fO t.kind
  have hr0:=hro.no.1
  have hQ: ∀y∈t.kids,∀b,0<=b/\b<=1-> ∀g:Tm->OS S,jO q y i r (d+b) true g=g (rE (bS (dv i r false) (dv i r true) (d+b) y)):=fun y hy b h2 g=>
   ih1 y hy (ht.ki hy) (hro.ki hy) g (hf _ (dc hy)) (by omega) (by have:=dc hy;omega)
  have hQ': ∀b∈t.sys,∀y∈b.kids,∀g:Tm->OS S,jO q y i r (d+aW t.kind) true g=g (rE (bS (dv i r false) (dv i r true) (d+aW t.kind) y)):=fun b hb y hy g=>
   ih2 b hb y hy ((ht.bi hb).2 y hy) ((hro.bi hb).2 y hy) g (hf _ (di hb hy)) (by omega) (by have:=di hb hy;omega)
  have h1:=fun r3:LC=>ani (r3:=r3) hq Y hi hr ht hro hd0 hQ hQ' t.kids [] q [] rfl (by omega) rfl
  have h1: ∀r3:LC,pY (jO q) q Y t i r d true q r3 [] 0=_:=h1
  simp only [jO,Ou,al hq,Ys hq hr0 hr hi (show 0<=d/\d<4611686018427387000 by omega),bw (n:=i+d) (by omega) (by omega),aj,h1,dG,List.length_nil]
  have hfa: ∀fa:Bool,(if t.kind=14 then dv i r true d t.r else dv i r false d t.r)=dv i r (t.kind==14) d t.r:=fun _=>by
   grind
  rw [oJ _ Y,Hk,hfa true,zw,bq,bq,<-tn]
  have hz:=tn i r (t.kind==14) d t.r
  by_cases h0:(gN i r (t.kind==14) d t.r).2=0
  ·grind [wA,kV,ah,bA,Yb,bq]
  ·have hze:d9 (gN i r (t.kind==14) d t.r)= .error (gN i r (t.kind==14) d t.r).2:=kg h0
   have hen:=GN (hz.symm.trans hze)
   rw [cH,decide_eq_false h0,ca,aj,hze,jb hen];rfl
def dY (i:Int) (r:LC) (t:Tm):Except Int Tm:=bE (d9 (bP r i 1)) fun s=>bS (dv i s false) (dv i s true) 0 t
theorem tl {i:Int} {r:LC} {t:Tm} {e:Int} (h:dY i r t= .error e):0<e/\e<=1000:=by
 rcases ba h with h|⟨s,_,h⟩
 ·grind [He,sG,EN]
 ·exact nf uC uC t h
theorem Ha {i:Int} {r:LC} {t y:Tm} (h:dY i r t= .ok y):y.kind=t.kind:=by
 obtain ⟨s,_,h⟩:=aY h
 exact O0 h
theorem MS (hk:F3 k) {t:Tm} (ht:Fm t) {i:Int} (hi:0<=i/\i<24) {r:LC} (hr:RF r) (Y:Tm×Int->OS S):ny k t i r Y=Y (tE (dY i r t)):=by
 have l2:=hr.len
 have hdp:=ht.dep
 simp only [ny,al hk.fu,aA,Dv,jc ht.ok (ht.fd hk) (show aw t<1099511627776 by omega),ht.2,aq4 hk.fu,wG hk.fu hr.2 hr.lt,hr.right,decide_eq_true hi,wF hk.fu hr.2 (show r.length<1073741824 by omega) (show a6 i by unfold a6;omega) (show a6 1 by unfold a6;omega),I_,Ja,Jb,I9]
 rw [show ((0:Int)==0)=true from rfl,bY,ah,ah,ah,ah]
 rw [j9 _ Y]
 unfold dY
 rw [bq]
 by_cases h0:(bP r i 1).2=0
 ·have hs:=mP h0
  rw [cH,decide_eq_true h0,bY,ah,kV h0,bA,apB hi hs t ht.ok ht.rows _ (ht.fd hk) (by omega) (by omega)]
  refine ak (Bm (α:=OS S) (β:=Unit) _ (fun e he=>nf m6 m6 t he) (fun x=>gE k x 0 i fun r6=>Y (r6.1,r6.2)) fun e=>Y (aH,e)) ?_
  have htw:=atH (fo:=bV i (bP r i 1).1 false) (fa:=bV i (bP r i 1).1 true) (G:=Dd i) (fun d f g hf h=>wA hf h) (fun d f hf=>Pz hf) t 0 ht.rows
  show _=eE (bS (eM (bV i (bP r i 1).1 false) (Dd i)) (eM (bV i (bP r i 1).1 true) (Dd i)) 0 t) _ _
  rw [<-htw,bq]
  refine de (fun x hx=> ?_) fun e _=>rfl
  have hw:=Zv (fun d f g hf h=>wA hf h) (fun d f g hf h=>wA hf h) (fun d=>XG) t 0 x hx
  obtain ⟨w1,w2,w3,w4⟩:=hw
  obtain ⟨hox,hrx⟩:=w4 ht.ok ht.rows
  rw [agP hi x hox hrx _ (hk.fd (by omega)) (by omega) (by omega)]
  exact j9 _ Y
 ·rw [cH,decide_eq_false h0,ca,aj,kg h0];rfl
theorem GP (hk:F3 k) {t:Tm} (ht:Fm t) {i:Int} (hi:0<=i/\i<24) {r:LC} (hr:RF r) (Y:Tm->OS S):rn k t i r Y=Y (rE (dY i r t)):=by
 have l2:=hr.len
 have hdp:=ht.dep
 simp only [rn,al hk.fu,aA,wI hk.fu hr.2 (show r.length<1073741824 by omega) (show a6 i by unfold a6;omega) (show a6 1 by unfold a6;omega)]
 rw [decide_eq_false (by have:=ht.rows.no.2.2;omega),ah,oJ _ Y]
 unfold dY
 rw [bq]
 by_cases h0:(bP r i 1).2=0
 ·have hs:=mP h0
  rw [cH,decide_eq_true h0,bY,ah,kV h0,bA,arJ hi hs t ht.ok ht.rows _ (ht.fd hk) (by omega) (by omega),oJ _ Y]
 ·have hze:d9 (bP r i 1)= .error (bP r i 1).2:=kg h0
  have hen:0<(bP r i 1).2/\(bP r i 1).2<=1000:=by
   grind [sG,EN]
  rw [cH,decide_eq_false h0,ca,aj,hze,jb hen];rfl
def In (k:Nat) (t:Tm):Prop:=OkT t/\Fd k (aw t)/\ax t<1099511627776
theorem In.dep {t:Tm} (h:In k t):aw t<1099511627776:=by have:=nI t;have:=h.2.2;omega
theorem Fm.isIn {t:Tm} (h:Fm t) (hk:F3 k):In k t:=⟨h.ok,h.fd hk,by have:=h.siz;omega⟩
def cE:LT->Int
 |[]=>0
 |t::l=>if ck t=0 then cE l else ck t
theorem qC {l:LT} (hl: ∀t∈l,OkT t) (h:cE l=0): ∀t∈l,Fm t:=by
 induction l with
 |nil=>simp
 |cons x l ih=>
  intro t ht
  unfold cE at h
  split at h
  ·next h0=>
   rcases gc.1 ht with rfl|ht
   ·exact ⟨hl _ (by simp),h0⟩
   grind
  omega
theorem asE (l:LT):0<=cE l/\cE l<=1000:=by
 induction l with
 |nil=>grind [cE]
 |cons x l ih=>
  unfold cE
  split<;>simp_all [Kb]
theorem wH (c e:Int) (Y:Int->OS S):mm k e c Y=Y (if c=0 then e else c):=by
 grind [mm,bR]
theorem alG (hk:Fu k) (Y:Int->OS S) {l:LT} (hl: ∀t∈l,In k t) (hlen:l.length<1000):
  ∀ (r p:LT) (m:Nat) (b:Int),l=p++r->r.length<m->uJ k Y l m b (p.length:Int)=Y (if b=0 then cE r else b):=by
 intro r
 induction r with
 |nil=>
  grind [aq,uJ,BE,ah,cE]
 |cons x r ih=>
  intro p m b h hm
  obtain ⟨m,rfl,hm'⟩:=aq hm
  obtain ⟨e1,e2,e3,e4⟩:=aR h (by omega)
  have hx:=hl x (by grind)
  simp only [uJ,BE,e1,aj,e2,aJ,al hk,aA,jc hx.1 hx.2.1 hx.dep,wH,e3,ih (p++[x]) m _ e4 hm',cE]
  grind
theorem MV (hk:F3 k) {l:LT} (hl: ∀t∈l,In k t) (hlen:l.length<1000) (Y:Int->OS S):o8 k l Y=Y (cE l):=by
 simp only [o8,Nn]
 have:=alG hk.fu Y hl hlen l [] k 0 rfl (by omega)
 simp_all
theorem anu (hk:Fu k) (Y:Int->OS S) {l:LT} (hl: ∀t∈l,In k t) (hlen:l.length<1000):
  ∀ (r p:LT) (m:Nat),l=p++r->r.length<m->vB k Y l m (p.length:Int)=Y (cE r):=by
 intro r
 induction r with
 |nil=>
  grind [aq,vB,CQ,ah,cE]
 |cons x r ih=>
  intro p m h hm
  obtain ⟨m,rfl,hm'⟩:=aq hm
  obtain ⟨e1,e2,e3,e4⟩:=aR h (by omega)
  have hx:=hl x (by grind)
  simp only [vB,CQ,e1,aj,e2,aJ,al hk,aA,Bc hx.1 hx.2.1 (show ax x<1099511627776 by have:=hx.2.2;omega),e3,ih (p++[x]) m e4 hm',cE,cH]
  grind [ah,aj]
theorem aqQ (hk:F3 k) {l:LT} (hl: ∀t∈l,In k t) (hlen:l.length<1000) (Y:Int->OS S):rx k l Y=Y (cE l):=by
 simp only [rx,Oz]
 exact anu hk.fu Y hl hlen l [] k rfl (by omega)
def eY (r:LC) (line:Tm):Except Int Tm:=bE (bJ 0 2 0 1 line) (dY 0 r)
theorem oU {r:LC} {t:Tm} {e:Int} (h:eY r t= .error e):0<e/\e<=1000:=by
 rcases ba h with h|⟨s,_,h⟩
 ·exact iX t h
 ·exact tl h
theorem Ph {r:LC} {t y:Tm} (h:eY r t= .ok y):y.kind=t.kind:=by
 obtain ⟨s,h1,h⟩:=aY h
 rw [Ha h,p_ h1]
theorem ajX {i:Int} {r:LC} {fa:Bool} {d:Int} {f g:LC} (hf:RF f) (h:dv i r fa d f= .ok g):RF g:=by
 rw [zw] at h
 obtain ⟨m,h1,h⟩:=aY h
 injection h with h;subst h
 exact agB (wA hf h1).len
theorem ajW {i:Int} {r:LC} {fa:Bool} (d:Int):dv i r fa d []= .ok []:=by
 rw [zw,XG,aF];rfl
theorem Y8 {i:Int} {r:LC} {t y:Tm} (h:dY i r t= .ok y):Wk t y:=by
 obtain ⟨s,_,h⟩:=aY h
 grind [Zv,ajX,ajW]
theorem Pi {r:LC} {t y:Tm} (ht:Fm t) (h:eY r t= .ok y):OkT y/\RowsT y/\aw y<=200/\ax y<=20000:=by
 obtain ⟨s,h1,h⟩:=aY h
 have hs:=lM (by omega) ht h1
 obtain ⟨w1,w2,w3,w4⟩:=Y8 h
 have h4:=w4 hs.ok hs.rows
 have:=hs.dep;have:=hs.siz
 grind
section
variable {c:Int}
theorem aqX (hc:c≠0) (hk:F3 k) (l:Tm) (r:LC) (Y:Tm×Int->OS S):o9 k l r c Y=Y (aH,c):=by
 simp only [o9,al hk.fu,eT,cH,decide_eq_false hc,ca,aj];rfl
theorem M_ (hc:c≠0) (hk:F3 k) (l:Tm) (a b:Int) (Y:Tm×Int->OS S):eB k l a b c Y=Y (aH,c):=by
 simp only [eB,al hk.fu,eT,cH,decide_eq_false hc,ca,aj];rfl
theorem wE (hc:c≠0) (hk:F3 k) (l:Tm) (Y:Tm×Int×Int->OS S):g_ k l c Y=Y (aH,c,c):=by
 simp only [g_,al hk.fu,eT,cH,decide_eq_false hc,ca,aj,ah];rfl
end
theorem asc (hk:F3 k) {f:LC} (hf:aI f) (hl:f.length<1073741824) (Y:LC×Int->OS S):yn k f 0 Y=Y (bP f 0 1):=by
 simp only [yn,al hk.fu,eT,wF hk.fu hf hl (show a6 0 by unfold a6;omega) (show a6 1 by unfold a6;omega),wH,if_true]
 rfl
theorem YL (hk:F3 k) {t:Tm} (ht:Fm t) {a b:Int} (ha:0<=a/\a<=1000000) (hb:0<=b/\b<9223372036854775808) (Y:Tm×Int->OS S):eB k t a b 0 Y=Y (tE (av a b t)):=by
 simp only [eB,al hk.fu,eT,aA,M1 hk ht ha hb,wH,if_true]
 rfl
theorem X7 (hk:F3 k) {t:Tm} (ht:Fm t) {r:LC} (hr:RF r) (Y:Tm×Int->OS S):o9 k t r 0 Y=Y (tE (eY r t)):=by
 simp only [o9,al hk.fu,eT,aA,Yk hk ht (show (0:Int)<=1/\(1:Int)<=24 by omega) (show (0:Int)<=2/\(2:Int)<9223372036854775808 by omega),wH,if_true]
 rw [show ((0:Int)==0)=true from rfl,bY,ah,j9 _ Y]
 unfold eY
 rw [bq]
 cases hx:bJ 0 2 0 1 t with
 |error e=>
  have:=iX t hx
  show ac (!(e==0)) (Y (aH,e)) _=_
  rw [cH,decide_eq_false (by omega),ca,aj];rfl
 |ok y=>
  have hy:=lM (by omega) ht hx
  show ac (!((0:Int)==0)) _ (ny k y 0 r fun r5=>Y (r5.1,if (0:Int)=0 then r5.2 else 0))=_
  simp_all [ah,MS,bA,j9]
theorem aq6 (hk:F3 k) {t:Tm} (ht:In k t) (Y:Tm×Int×Int->OS S):g_ k t 0 Y=Y (if ck t=0 then (t,0,0) else (aH,ck t,ck t)):=by
 simp only [g_,al hk.fu,eT,aA,jc ht.1 ht.2.1 ht.dep,wH,if_true]
 rw [show ((0:Int)==0)=true from rfl,aj,cH]
 by_cases h0:ck t=0
 ·grind [ah]
 ·rw [decide_eq_false h0,if_neg h0,ca,aj];rfl
def il (x:Except Int Tm):Except Int Tm:=bE x fun t=>if ck t=0 then .ok t else .error (ck t)
theorem OT {z:LC×Int} (hz:EN z.2) {e:Int} (h:d9 z= .error e):0<e/\e<=1000:=by
 grind [He,EN]
theorem X0 (hk:F3 k) {t:Tm} (ht:Fm t) {r:LC} (hr:RF r) (Y:Tm->OS S):rp k t r Y=Y (rE (eY r t)):=by
 simp only [rp,al hk.fu,aA,Yp hk ht (show (0:Int)<=1/\(1:Int)<=24 by omega) (show (0:Int)<=2/\(2:Int)<9223372036854775808 by omega)]
 rw [decide_eq_false (by have:=ht.rows.no.2.2;omega),ah,oJ _ Y]
 unfold eY
 rw [bq]
 cases hx:bJ 0 2 0 1 t with
 |error e=>
  have:=iX t hx
  show ac (!(e==0)) (e_ k e _) _=Y (bD e)
  rw [cH,decide_eq_false (by omega),ca,aj,jb this];rfl
 |ok y=>
  have hy:=lM (by omega) ht hx
  show ac (!((0:Int)==0)) _ (rn k y 0 r fun r3=>Y r3)=_
  grind [ah,GP,bA,oJ]
theorem KJ (hk:Fu k) (Y:Tm->OS S) {kd:Int} {l:LT} (hlen:l.length<1000):
  ∀ (r p:LT) (m:Nat),l=p++r->r.length<m->vA k Y kd l m (p.length:Int)=Y (match r.find? fun x=>decide (x.kind<0) with|some x=>x|none=> .mk kd 0 au [] l []):=by
 intro r
 induction r with
 |nil=>
  grind [aq,vA,CO,ah]
 |cons x r ih=>
  intro p m h hm
  obtain ⟨m,rfl,hm'⟩:=aq hm
  obtain ⟨e1,e2,e3,e4⟩:=aR h (by omega)
  grind [vA,CO,aj,aA,ah]
theorem aqT (hk:F3 k) {kd:Int} {x y:Except Int Tm} (hx: ∀e,x= .error e->0<e) (hx': ∀t,x= .ok t->0<=t.kind) (hy: ∀e,y= .error e->0<e) (hy': ∀t,y= .ok t->0<=t.kind) (Y:Tm->OS S):
  cG k kd (rE x) (rE y) Y=Y (rE (bE x fun a=>bE y fun b=> .ok (.mk kd 0 au [] [a,b] []))):=by
 simp only [cG,al hk.fu,aA,rq,Bp]
 have:=KJ hk.fu Y (kd:=kd) (l:=[rE x,rE y]) (by simp) [rE x,rE y] [] k rfl (by grind)
 refine ak this ?_
 congr 1
 rw [List.find?_cons,List.find?_cons]
 cases x with
 |error e=>rw [show rE (.error e)=bD e from rfl,fj (hx e rfl)];rfl
 |ok a=>
  rw [show rE (.ok a)=a from rfl,decide_eq_false (by grind),aF]
  cases y with
  |error e=>rw [show rE (.error e)=bD e from rfl,fj (hy e rfl)];rfl
  |ok b=>rw [show rE (.ok b)=b from rfl,decide_eq_false (by grind)];rfl
theorem Zj {a b:Int} {t y:Tm} (h:av a b t= .ok y):y.kind=t.kind:=by
 obtain ⟨s,h1,h⟩:=aY h
 rw [p_ h,p_ h1]
theorem XY (hk:F3 k) {x:Except Int Tm} (hx: ∀e,x= .error e->0<e/\e<=1000) (hx': ∀t,x= .ok t->In k t/\0<=t.kind) (Y:Tm×Int->OS S):pn k (rE x) Y=Y (tE (il x)):=by
 simp only [pn,al hk.fu,aA]
 unfold il
 cases x with
 |error e=>
  have he:=hx e rfl
  rw [show rE (.error e)=bD e from rfl,fj he.1,aj,bw (show-9223372036854775808<=0-(bD e).kind by show _<=0-(-e);omega) (by show 0-(-e)<_;omega)]
  show Y (aH,0-(-e))=Y (aH,e)
  simp
 |ok t=>
  obtain ⟨hin,hkd⟩:=hx' t rfl
  rw [show rE (.ok t)=t from rfl,decide_eq_false (by omega),ah,Bc hin.1 hin.2.1 (by have:=hin.2.2;omega),aF,cH]
  by_cases h0:ck t=0
  ·rw [decide_eq_true h0,bY,ah,if_pos h0];rfl
  ·rw [decide_eq_false h0,ca,aj,if_neg h0];rfl
end Go.Proofs.YtgajalidbabccaaGreatDoor
namespace Go.Proofs.YtgajalidbabccaaGreatDoor
open Go PI
set_option maxRecDepth 100000

set_option maxRecDepth 20000
variable {S:Type} {k:Nat}
theorem X_ {l:LC} (hl:l.length<1073741824) (Y:LC->OS S):vY l Y=Y l:=by
 grind [vY,bn]
section
variable {hd:Tm->(Tm->OS S)->OS S}
theorem alP (hk:Fu k) (Y:LT->OS S) {l:LT} (hQ: ∀y∈l,∀g,hd y g=g y) (hl:l.length<1073741824):
  ∀ (r p:LT) (m:Nat),l=p++r->r.length<m->vI hd k Y l m p (p.length:Int)=Y l:=by
 intro r
 induction r with
 |nil=>
  grind [aq,vI,CY,ah]
 |cons y r ih=>
  intro p m h hm
  obtain ⟨m,rfl,hm'⟩:=aq hm
  obtain ⟨e1,e2,e3,e4⟩:=aR h (by omega)
  grind [vI,CY,aj,aA,bn]
theorem Ya (hk:Fu k) {l:LT} (hQ: ∀y∈l,∀g,hd y g=g y) (hl:l.length<1073741824) (Y:LT->OS S):ze hd k l Y=Y l:=by
 simp only [ze,OK]
 exact alP hk Y hQ hl l [] k rfl (by omega)
theorem alQ (hk:Fu k) (Y:Tm->OS S) {t:Tm} (ht:OkT t) (hQ: ∀b∈t.sys,∀y∈b.kids,∀g,hd y g=g y) (r1:LC) (r2:LT):
  ∀ (r p:LB) (m:Nat),t.sys=p++r->r.length<m->vH hd k Y t r1 r2 m p (p.length:Int)=Y (.mk t.kind t.n t.name r1 r2 t.sys):=by
 obtain ⟨o1,o2,o3,o4,o5,o6,o7⟩:=ht.no
 intro r
 induction r with
 |nil=>
  grind [aq,vH,CX,ah]
 |cons y r ih=>
  intro p m h hm
  obtain ⟨m,rfl,hm'⟩:=aq hm
  obtain ⟨e1,e2,e3,e4⟩:=aR h (by omega)
  have hy:y∈t.sys:=by grind
  have hb:=(ht.bi hy).1
  have hlen:p.length+r.length+1=t.sys.length:=by grind
  simp only [vH,CX,e1,aj,e2,aJ,aA,e3,X_ hb.2.1,al hk,Ya hk (hQ y hy) hb.2.2]
  rw [bn (by grind)]
  have:=ih (p++[y]) m e4 hm'
  omega
end
theorem td (t:Tm):OkT t-> ∀ {k:Nat} (Y:Tm->OS S),Fd k (aw t)->fc k t Y=Y t:=by
 induction t using eI with
 |h t ih1 ih2=>
  intro ht k Y hk
  obtain ⟨q,rfl,hq,hf⟩:=hk.pos' (du t)
  obtain ⟨o1,o2,o3,o4,o5,o6,o7⟩:=ht.no
  simp only [fc,OJ,X_ o5,al hq,Ya hq (fun y hy g=>ih1 y hy (ht.ki hy) g (hf _ (dc hy))) o6]
  have:=alQ hq Y ht (fun b hb y hy g=>ih2 b hb y hy ((ht.bi hb).2 y hy) g (hf _ (di hb hy))) t.r t.kids t.sys [] q rfl (by omega)
  refine ak this ?_
  cases t;rfl
theorem ao9 {v d d':Int} (h:24<=d) (h':24<=d') (t:Tm):dE v d t=dE v d' t:=by
 have hb: ∀kd,cO kd d=cO kd d':=fun kd=>by grind [cO,FJ]
 simp_all [dE,FJ]
theorem nu (t:Tm): ∀ {v d d':Int},24<=d->24<=d'->bM false v d t=bM false v d' t:=by
 induction t using eI with
 |h t ih1 ih2=>
  intro v d d' h h'
  rw [w8,w8,ao9 h h']
  have hK: ∀ (l:LT) (i:Nat),(∀x∈l,x∈t.kids)->cz false v d t.kind i l=cz false v d' t.kind i l:=by
   intro l
   induction l<;>grind [cz,cF]
  grind [BB,aW]
theorem XA:RF [⟨3,0⟩]:=kP ⟨⟨by decide,by decide⟩,by decide,by decide⟩
theorem aoz:bQ ⟨0,1⟩:=⟨⟨by decide,by decide⟩,by decide,by decide⟩
theorem aoA:bQ ⟨1,0⟩:=⟨⟨by decide,by decide⟩,by decide,by decide⟩
theorem T2:OkT aH:=by
 unfold aH
 rw [OkT,bo,bH]
 exact ⟨⟨by unfold a6;omega,by unfold a6;omega,by simp,fun c hc=>(by cases hc),by simp,by simp,by simp⟩,trivial,trivial⟩
theorem qc (hk:F3 k):In k aH:=⟨T2,hk.fd (by grind [aH,aw,a7,bg]),by grind [aH,ax,aK,aX]⟩
theorem m_ (t:Tm):ax t=1+aK t.kids+aX t.sys:=by cases t;rfl
def oR (most w:Int) (n:Nat):Prop:=1<=w/\w<=2*most+1/\(w<=most->(n:Int)<=w)
def Mo (most:Int):Prop:=0<=most/\most<=1000
section
variable {hd:Tm->Int->(Int->OS S)->OS S} {t:Tm}
theorem alJ (hk:Fu k) (Y:Int->OS S) (rec1:Int->Int->OS S) {v most:Int} (hm0:Mo most) {x:Br Tm} (hv:ai t.sys v=some x) (hQ: ∀y∈x.kids,∀n,Mo n-> ∀g,∃w,hd y n g=g w/\oR n w (ax y)) (hl:x.kids.length<1073741824):
  ∀ (r p:LT) (m:Nat) (a:Int),x.kids=p++r->r.length<m->1<=a->a<=2*most+1-> ∃w,n_ hd k Y rec1 t most v m a (p.length:Int)=rec1 w (af .i64 (v+1))/\a<=w/\w<=2*most+1/\(w<=most->a+(aK r:Int)<=w):=by
 obtain ⟨hm1,hm2⟩:=hm0
 intro r
 induction r with
 |nil=>
  intro p m a h hm ha ha'
  obtain ⟨m,rfl,hm'⟩:=aq hm
  exact ⟨a,by grind [n_,CC,ah],Int.le_refl _,ha',fun _=>by rw [aK];simp⟩
 |cons y r ih=>
  intro p m a h hm ha ha'
  obtain ⟨m,rfl,hm'⟩:=aq hm
  obtain ⟨e1,e2,e3,e4⟩:=aR h (by omega)
  simp only [n_,CC,hv,e1,aj,e2,aJ,aA,e3]
  by_cases hc:a<=most
  ·rw [decide_eq_true hc,aj,bw (show-9223372036854775808<=most-a by omega) (by omega)]
   obtain ⟨w,hw,w1,w2,w3⟩:=hQ y (by grind) (most-a) ⟨by omega,by omega⟩ (fun r8=>n_ hd k Y rec1 t most v m (af .i64 (a+r8)) (((p++[y]).length:Nat):Int))
   rw [hw,bw (show-9223372036854775808<=a+w by omega) (by omega)]
   obtain ⟨u,hu,u1,u2,u3⟩:=ih (p++[y]) m (a+w) e4 hm' (by omega) (by omega)
   exact ⟨u,hu,by omega,u2,fun hle=>by grind [aK]⟩
  grind [ah]
theorem alI (hk:Fu k) (Y:Int->OS S) {most:Int} (hm0:Mo most) (hQ: ∀b∈t.sys,∀y∈b.kids,∀n,Mo n-> ∀g,∃w,hd y n g=g w/\oR n w (ax y)) (ht:OkT t):
  ∀ (r p:LB) (m:Nat) (a:Int),t.sys=p++r->r.length<m->1<=a->a<=2*most+1-> ∃w,mJ hd k Y t most m a (p.length:Int)=Y w/\a<=w/\w<=2*most+1/\(w<=most->a+(aX r:Int)<=w):=by
 obtain ⟨o1,o2,o3,o4,o5,o6,o7⟩:=ht.no
 have hm1:=hm0.1
 have hm2:=hm0.2
 intro r
 induction r with
 |nil=>
  intro p m a h hm ha ha'
  obtain ⟨m,rfl,hm'⟩:=aq hm
  exact ⟨a,by grind [mJ,xD,ah],Int.le_refl _,ha',fun _=>by rw [aX];simp⟩
 |cons x r ih=>
  intro p m a h hm ha ha'
  obtain ⟨m,rfl,hm'⟩:=aq hm
  obtain ⟨e1,e2,e3,e4⟩:=aR h (by omega)
  have hx:x∈t.sys:=by grind
  have hb:=(ht.bi hx).1
  simp only [mJ,xD,e1,aj,e2,aJ,e3]
  by_cases hc:a<=most
  ·rw [decide_eq_true hc,aj]
   by_cases hf:((x.face.length:Nat):Int)>most
   ·grind [aj,bw]
   ·rw [decide_eq_false hf,ah,bw (show-9223372036854775808<=a+1 by omega) (by omega),bw (show-9223372036854775808<=a+1+((x.face.length:Nat):Int) by omega) (by omega)]
    obtain ⟨w,hw,w1,w2,w3⟩:=alJ (t:=t) (most:=most) hk Y (mJ hd k Y t most m) hm0 e2 (hQ x hx) hb.2.2 x.kids [] k (a+1+((x.face.length:Nat):Int)) rfl (by omega) (by omega) (by omega)
    have hw:n_ hd k Y (mJ hd k Y t most m) t most (p.length:Int) k (a+1+((x.face.length:Nat):Int)) 0=_:=hw
    rw [hw,e3]
    obtain ⟨u,hu,u1,u2,u3⟩:=ih (p++[x]) m w e4 hm' (by omega) w2
    exact ⟨u,hu,by omega,u2,fun hle=>by grind [aX,m9]⟩
  grind [ah]
theorem alH (hk:Fu k) (Y:Int->OS S) {most:Int} (hm0:Mo most) (hQ: ∀y∈t.kids,∀n,Mo n-> ∀g,∃w,hd y n g=g w/\oR n w (ax y)) (hQ': ∀b∈t.sys,∀y∈b.kids,∀n,Mo n-> ∀g,∃w,hd y n g=g w/\oR n w (ax y)) (ht:OkT t):
  ∀ (r p:LT) (m:Nat) (a:Int),t.kids=p++r->r.length<m->1<=a->a<=2*most+1-> ∃w,sc hd k Y t most m a (p.length:Int)=Y w/\a<=w/\w<=2*most+1/\(w<=most->a+(aK r:Int)+(aX t.sys:Int)<=w):=by
 obtain ⟨o1,o2,o3,o4,o5,o6,o7⟩:=ht.no
 have hm1:=hm0.1
 have hm2:=hm0.2
 intro r
 have hs:=fun a=>alI (most:=most) hk Y hm0 hQ' ht t.sys [] k a rfl (by omega)
 induction r with
 |nil=>
  grind [aq,sc,xB,ah,aK]
 |cons y r ih=>
  intro p m a h hm ha ha'
  obtain ⟨m,rfl,hm'⟩:=aq hm
  obtain ⟨e1,e2,e3,e4⟩:=aR h (by omega)
  simp only [sc,xB,e1,aj,e2,aJ,aA,e3]
  by_cases hc:a<=most
  ·rw [decide_eq_true hc,aj,bw (show-9223372036854775808<=most-a by omega) (by omega)]
   obtain ⟨w,hw,w1,w2,w3⟩:=hQ y (by grind) (most-a) ⟨by omega,by omega⟩ (fun r2=>sc hd k Y t most m (af .i64 (a+r2)) (((p++[y]).length:Nat):Int))
   rw [hw,bw (show-9223372036854775808<=a+w by omega) (by omega)]
   obtain ⟨u,hu,u1,u2,u3⟩:=ih (p++[y]) m (a+w) e4 hm' (by omega) (by omega)
   exact ⟨u,hu,by omega,u2,fun hle=>by grind [aK]⟩
  grind [ah]
end
theorem ar0 (t:Tm):OkT t-> ∀ {k:Nat} (most:Int),Mo most-> ∀ (Y:Int->OS S),Fd k (aw t)-> ∃w,ky k t most Y=Y w/\oR most w (ax t):=by
 induction t using eI with
 |h t ih1 ih2=>
  intro ht k most hm0 Y hk
  have hm1:=hm0.1
  have hm2:=hm0.2
  obtain ⟨q,rfl,hq,hf⟩:=hk.pos' (du t)
  obtain ⟨o1,o2,o3,o4,o5,o6,o7⟩:=ht.no
  have hQ: ∀y∈t.kids,∀n,Mo n-> ∀ (g:Int->OS S),∃w,ky q y n g=g w/\oR n w (ax y):=fun y hy n hn g=>ih1 y hy (ht.ki hy) n hn g (hf _ (dc hy))
  have hQ': ∀b∈t.sys,∀y∈b.kids,∀n,Mo n-> ∀ (g:Int->OS S),∃w,ky q y n g=g w/\oR n w (ax y):=fun b hb y hy n hn g=>ih2 b hb y hy ((ht.bi hb).2 y hy) n hn g (hf _ (di hb hy))
  simp only [ky,Of]
  have out: ∃w,Y (af .i64 (most+1))=Y w/\oR most w (ax t):=⟨most+1,by grind [bw],by omega,by omega,fun h=>by omega⟩
  by_cases hr:((t.r.length:Nat):Int)>most
  ·grind [aj]
  ·rw [decide_eq_false hr,ah]
   by_cases hn:((t.name.size:Nat):Int)>most
   ·grind [aj]
   ·rw [decide_eq_false hn,ah,bw (show-9223372036854775808<=1+((t.r.length:Nat):Int) by omega) (by omega),bw (show-9223372036854775808<=1+((t.r.length:Nat):Int)+((t.name.size:Nat):Int) by omega) (by omega)]
    obtain ⟨w,hw,w1,w2,w3⟩:=alH hq Y hm0 hQ hQ' ht t.kids [] q (1+((t.r.length:Nat):Int)+((t.name.size:Nat):Int)) rfl (by omega) (by omega) (by omega)
    exact ⟨w,hw,by omega,w2,fun hle=>by grind [m_]⟩
def aD (kd:Int) (l:LT):Tm:= .mk kd 0 au [] l []
def vN (n:Int):Tm:= .mk 1 n au [] [] []
def bW (c a b:Int) (t:Tm):Tm×Int:=if c=0 then tE (av a b t) else (aH,c)
def iz (p:Tm×Int):Except Int Tm:=if p.2=0 then .ok p.1 else .error p.2
theorem jA {c a b:Int} {t:Tm} (h:c≠0):bW c a b t=(aH,c):=if_neg h
theorem kW {c a b:Int} {t:Tm} (h:(bW c a b t).2=0):c=0:=by
 grind [jA]
theorem mb (a b:Int) (t:Tm):bW 0 a b t=tE (av a b t):=rfl
theorem l6 (hk:F3 k) {c:Int} {t:Tm} (h:c=0->Fm t) {a b:Int} (ha:0<=a/\a<=1000000) (hb:0<=b/\b<9223372036854775808) (Y:Tm×Int->OS S):eB k t a b c Y=Y (bW c a b t):=by
 by_cases hc:c=0
 ·subst hc;exact YL hk (h rfl) ha hb Y
 grind [M_,jA]
theorem MX (hk:F3 k) {t:Tm} {c:Int} (h:c=0->In k t) (Y:Tm×Int->OS S):(g_ k t c fun r=>Y (r.1,r.2.1))=Y (tE (il (iz (t,c)))):=by
 by_cases hc:c=0
 ·subst hc
  rw [aq6 hk (h rfl)]
  show _=Y (tE (il (.ok t)))
  unfold il
  rw [aF]
  by_cases h0:ck t=0
  ·rw [if_pos h0,if_pos h0];rfl
  ·rw [if_neg h0,if_neg h0];rfl
 ·rw [wE hc hk]
  show _=Y (tE (il (if c=0 then _ else _)))
  rw [if_neg hc];rfl
def hY (c:Int) (t a f y:Tm):Tm×Int:=
 (aD 7 [t,aD 11 [(bW c 1 1 a).1,(bW (bW c 1 1 a).2 1 0 y).1,aD 6 [(bW (bW (bW c 1 1 a).2 1 0 y).2 1 0 f).1,vN 0]]],(bW (bW (bW c 1 1 a).2 1 0 y).2 1 0 f).2)
def jm (t a f y:Tm):Except Int Tm:=bE (av 1 1 a) fun a'=>bE (av 1 0 y) fun y'=>bE (av 1 0 f) fun f'=> .ok (aD 7 [t,aD 11 [a',y',aD 6 [f',vN 0]]])
theorem zr {c:Int} (h:c≠0) (t a f y:Tm):(hY c t a f y).2=c:=by
 grind [hY,jA]
theorem Qu (t a f y:Tm):iz (hY 0 t a f y)=jm t a f y:=by
 unfold hY jm
 rw [mb]
 cases h1:av 1 1 a with
 |error e=>
  have he:e≠0:=by have:=bN h1;omega
  show iz (_,(bW (bW e 1 0 y).2 1 0 f).2)=_
  rw [jA he,jA he,cA];exact if_neg he
 |ok a'=>
  rw [aF]
  show iz (aD 7 [t,aD 11 [a',(bW 0 1 0 y).1,aD 6 [(bW (bW 0 1 0 y).2 1 0 f).1,vN 0]]],(bW (bW 0 1 0 y).2 1 0 f).2)=_
  rw [mb]
  cases h2:av 1 0 y with
  |error e=>
   have he:e≠0:=by have:=bN h2;omega
   show iz (_,(bW e 1 0 f).2)=_
   rw [jA he,cA];exact if_neg he
  |ok y'=>
   rw [aF]
   show iz (aD 7 [t,aD 11 [a',y',aD 6 [(bW 0 1 0 f).1,vN 0]]],(bW 0 1 0 f).2)=_
   rw [mb]
   cases h3:av 1 0 f with
   |error e=>
    have he:e≠0:=by have:=bN h3;omega
    rw [cA];exact if_neg he
   |ok f'=>rfl
theorem are (hk:F3 k) {c:Int} {t a f y:Tm} (ha:c=0->Fm a) (hf:c=0->Fm f) (hy:c=0->Fm y) (Y:Int×Int×BA×LT×Int->OS S):
  ym k t a f y c Y=Y (7,0,au,(hY c t a f y).1.kids,(hY c t a f y).2):=by
 simp only [ym,al hk.fu,aA,l6 hk ha (show (0:Int)<=1/\(1:Int)<=1000000 by omega) (show (0:Int)<=1/\(1:Int)<9223372036854775808 by omega),
  l6 hk (fun h=>hy (kW h)) (show (0:Int)<=1/\(1:Int)<=1000000 by omega) (show (0:Int)<=0/\(0:Int)<9223372036854775808 by omega),
  l6 hk (fun h=>hf (kW (kW h))) (show (0:Int)<=1/\(1:Int)<=1000000 by omega) (show (0:Int)<=0/\(0:Int)<9223372036854775808 by omega),iO,c8]
 rfl
def iN (c:Int) (t:Tm):Tm×Int:=(aD 7 [t,aD 4 [(bW c 1 0 t).1,aD 11 [(bW (bW c 1 0 t).2 2 1 t).1,vN 1,vN 0]]],(bW (bW c 1 0 t).2 2 1 t).2)
def lk (t:Tm):Except Int Tm:=bE (av 1 0 t) fun t1=>bE (av 2 1 t) fun t2=> .ok (aD 7 [t,aD 4 [t1,aD 11 [t2,vN 1,vN 0]]])
theorem tM {c:Int} (h:c≠0) (t:Tm):(iN c t).2=c:=by
 grind [iN,jA]
theorem agw (t:Tm):iz (iN 0 t)=lk t:=by
 unfold iN lk
 rw [mb]
 cases h1:av 1 0 t with
 |error e=>
  have he:e≠0:=by have:=bN h1;omega
  show iz (_,(bW e 2 1 t).2)=_
  rw [jA he,cA];exact if_neg he
 |ok a'=>
  rw [aF]
  show iz (aD 7 [t,aD 4 [a',aD 11 [(bW 0 2 1 t).1,vN 1,vN 0]]],(bW 0 2 1 t).2)=_
  rw [mb]
  cases h2:av 2 1 t with
  |error e=>
   have he:e≠0:=by have:=bN h2;omega
   rw [cA];exact if_neg he
  |ok y'=>rfl
theorem aq2 (hk:F3 k) {c:Int} {t:Tm} (h:c=0->Fm t) (Y:Int×Int×BA×LT×Int->OS S):
  yl k t c Y=Y (7,0,au,(iN c t).1.kids,(iN c t).2):=by
 simp only [yl,al hk.fu,aA,l6 hk h (show (0:Int)<=1/\(1:Int)<=1000000 by omega) (show (0:Int)<=0/\(0:Int)<9223372036854775808 by omega),
  l6 hk (fun z=>h (kW z)) (show (0:Int)<=2/\(2:Int)<=1000000 by omega) (show (0:Int)<=1/\(1:Int)<9223372036854775808 by omega),iO,c8]
 rfl
def pA (c:Int) (t a:Tm):Tm×Int:=
 let p1:=bW c 1 0 a
 let p2:=bW p1.2 1 0 a
 let p3:=bW p2.2 2 0 t
 let p4:=bW p3.2 2 0 a
 let p5:=hY p4.2 p3.1 p4.1 (vN 1) (vN 0)
 let p6:=iN p5.2 p5.1
 (aD 7 [aD 4 [t,p1.1],aD 4 [p2.1,p6.1]],p6.2)
def gk (t a:Tm):Except Int Tm:=bE (av 1 0 a) fun a1=>bE (av 1 0 a) fun y=>bE (av 2 0 t) fun t'=>bE (av 2 0 a) fun a'=>bE (jm t' a' (vN 1) (vN 0)) fun x=>bE (lk x) fun c=> .ok (aD 7 [aD 4 [t,a1],aD 4 [y,c]])
theorem ajI {c:Int} (h:c≠0) (t a:Tm):(pA c t a).2=c:=by
 grind [pA,jA,zr,tM]
theorem Qw {t a f y:Tm} {e:Int} (h:jm t a f y= .error e):0<e/\e<=1000:=by
 rcases ba h with h|⟨_,_,h⟩
 ·exact bN h
 rcases ba h with h|⟨_,_,h⟩
 ·exact bN h
 rcases ba h with h|⟨_,_,h⟩
 ·exact bN h
 simp_all
theorem agz {t:Tm} {e:Int} (h:lk t= .error e):0<e/\e<=1000:=by
 rcases ba h with h|⟨_,_,h⟩
 ·exact bN h
 rcases ba h with h|⟨_,_,h⟩
 ·exact bN h
 simp_all
theorem Qq (t a:Tm):iz (pA 0 t a)=gk t a:=by
 unfold pA gk
 simp only [mb]
 cases h1:av 1 0 a with
 |error e=>
  have he:e≠0:=by have:=bN h1;omega
  rw [cA]
  show iz (_,(iN (hY (bW (bW (bW e 1 0 a).2 2 0 t).2 2 0 a).2 _ _ _ _).2 _).2)=_
  simp only [jA he,zr he,tM he]
  exact if_neg he
 |ok a1=>
  simp only [aF,tE,mb,h1]
  cases h3:av 2 0 t with
  |error e=>
   have he:e≠0:=by have:=bN h3;omega
   rw [cA]
   simp only [tE,jA he,zr he,tM he]
   exact if_neg he
  |ok t'=>
   simp only [aF,tE,mb]
   cases h4:av 2 0 a with
   |error e=>
    have he:e≠0:=by have:=bN h4;omega
    rw [cA]
    simp only [tE,zr he,tM he]
    exact if_neg he
   |ok a'=>
    grind [aF,Qu,iz,cA,tM,agw]
theorem T9 (n:Int) (h:0<=n/\n<=10):OkT (vN n):=by
 unfold vN
 rw [OkT,bo,bH]
 exact ⟨⟨by unfold a6;omega,by unfold a6;omega,by simp,fun c hc=>(by cases hc),by simp,by simp,by simp⟩,trivial,trivial⟩
theorem fm_v0:Fm (vN 0):=⟨T9 0 (by omega),by rfl⟩
theorem fm_v1:Fm (vN 1):=⟨T9 1 (by omega),by rfl⟩
theorem LA {kd:Int} (hkd:0<=kd/\kd<=28) {l:LT} (hl:l.length<10) (h: ∀x∈l,OkT x):OkT (aD kd l):=by
 unfold aD
 rw [OkT,okK_iff,bH]
 exact ⟨⟨by unfold a6;omega,by unfold a6;omega,by simp,fun c hc=>(by cases hc),by simp,by omega,by simp⟩,h,trivial⟩
theorem Pe {kd d:Int} (hd:24<=d) {l:LT} (ho:dE (-1) 24 (aD kd l)=true) (h: ∀x∈l,bM false (-1) 24 x=true):bM false (-1) d (aD kd l)=true:=by
 rw [nu (aD kd l) hd (show (24:Int)<=24 by omega),w8,ho]
 have hK: ∀ (r:LT) (i:Nat),(∀x∈r,bM false (-1) 24 x=true)->cz false (-1) 24 kd i r=true:=by
  intro r
  induction r with
  |nil=>intro i _;rw [cz]
  |cons x r ih=>
   intro i hr
   have hb:=jJ kd i
   rw [cz,ih _ fun y hy=>hr y (by simp [hy])]
   have hv:dL (-1) (cv kd i)= -1:=rfl
   rw [hv,nu x (show (24:Int)<=24+cF kd i by omega) (show (24:Int)<=24 by omega),hr x (by simp)];rfl
 show (!(false&&_)&&(true&&(cz false (-1) 24 kd 0 l&&c5 false (-1) 24 kd [])))=true
 grind [c5]
def Fd2 (n m:Nat) (t:Tm):Prop:=OkT t/\bM false (-1) 24 t=true/\aw t<=n/\ax t<=m
theorem Fd2.fm {n m:Nat} {t:Tm} (h:Fd2 n m t) (hn:n<=200) (hm:m<=20000):Fm t:=⟨h.1,rG (by have:=h.2.2.1;omega) (by have:=h.2.2.2;omega) h.2.1⟩
theorem Fd2.isIn {n m:Nat} {t:Tm} (h:Fd2 n m t) (hk:F3 k) (hn:n<=1000) (hm:m<=1000000):In k t:=⟨h.1,hk.fd (by have:=h.2.2.1;omega),by have:=h.2.2.2;omega⟩
theorem Fm.f2 {t:Tm} (h:Fm t):Fd2 200 20000 t:=⟨h.1,(h8 h.2).2.2,(h8 h.2).1,(h8 h.2).2.1⟩
theorem Fd2.mono {n m n' m':Nat} {t:Tm} (h:Fd2 n m t) (hn:n<=n') (hm:m<=m'):Fd2 n' m' t:=⟨h.1,h.2.1,by have:=h.2.2.1;omega,by have:=h.2.2.2;omega⟩
theorem Fd2.up {n m:Nat} {t t':Tm} (h:Fd2 n m t) {a b:Int} (ha:0<=a/\a<=1000000000) (hl:av a b t= .ok t'):Fd2 n m t':=by
 obtain ⟨u,h1,h2⟩:=aY hl
 obtain ⟨p1,p2,p3,p4⟩:=zQ ha.1 ha.2 t 0 0 u h1
 obtain ⟨q1,q2,q3,q4⟩:=zQ (by omega) (by omega) u 0 0 t' h2
 have w:=p4 h.1
 have w2:=q4 w.1
 have ho:=w.2.2 24 24 (by omega) (by omega) h.2.1
 exact ⟨w2.1,w2.2.2 24 24 (by omega) (by omega) ho,by have:=h.2.2.1;omega,by have:=h.2.2.2;omega⟩
theorem rD {kd:Int} (hkd:0<=kd/\kd<=28) {n m:Nat} {a b:Tm} (ho:dE (-1) 24 (aD kd [a,b])=true) (ha:Fd2 n m a) (hb:Fd2 n m b):Fd2 (n+1) (2*m+1) (aD kd [a,b]):=by
 grind [Fd2,LA,Pe,aD,aw,a7,bg,ax,aK,aX]
theorem Qt {kd:Int} (hkd:0<=kd/\kd<=28) {n m:Nat} {a b c:Tm} (ho:dE (-1) 24 (aD kd [a,b,c])=true) (ha:Fd2 n m a) (hb:Fd2 n m b) (hc:Fd2 n m c):Fd2 (n+1) (3*m+1) (aD kd [a,b,c]):=by
 grind [Fd2,LA,Pe,aD,aw,a7,bg,ax,aK,aX]
theorem nR {n m:Nat} (hn:1<=n) (hm:1<=m) {i:Int} (hi:i=0\/i=1):Fd2 n m (vN i):=by
 have:Fd2 1 1 (vN i):=by
  rcases hi with rfl|rfl
  ·exact ⟨fm_v0.1,by rfl,by show 1<=1;omega,by show 1<=1;omega⟩
  ·exact ⟨fm_v1.1,by rfl,by show 1<=1;omega,by show 1<=1;omega⟩
 exact this.mono hn hm
theorem J8 {n m:Nat} (hn:1<=n) (hm:1<=m) {t a f y x:Tm} (ht:Fd2 n m t) (ha:Fd2 n m a) (hf:Fd2 n m f) (hy:Fd2 n m y) (h:jm t a f y= .ok x):Fd2 (n+3) (12*m+9) x:=by
 obtain ⟨a',h1,h⟩:=aY h
 obtain ⟨y',h2,h⟩:=aY h
 obtain ⟨f',h3,h⟩:=aY h
 injection h with h;subst h
 have c1:=rD (kd:=6) (by omega) (by rfl) (hf.up (by omega) h3) (nR hn hm (.inl rfl))
 have c2:=Qt (kd:=11) (by omega) (by rfl) ((ha.up (by omega) h1).mono (Nat.le_succ n) (show m<=2*m+1 by omega)) ((hy.up (by omega) h2).mono (Nat.le_succ n) (show m<=2*m+1 by omega)) c1
 exact (rD (kd:=7) (by omega) (by rfl) (ht.mono (show n<=n+1+1 by omega) (show m<=3*(2*m+1)+1 by omega)) c2).mono (by omega) (by omega)
theorem agA {n m:Nat} (hn:1<=n) (hm:1<=m) {t x:Tm} (ht:Fd2 n m t) (h:lk t= .ok x):Fd2 (n+3) (12*m+9) x:=by
 obtain ⟨a',h1,h⟩:=aY h
 obtain ⟨y',h2,h⟩:=aY h
 injection h with h;subst h
 have c1:=Qt (kd:=11) (by omega) (by rfl) (ht.up (by omega) h2) (nR hn hm (.inr rfl)) (nR hn hm (.inl rfl))
 have c2:=rD (kd:=4) (by omega) (by rfl) ((ht.up (by omega) h1).mono (Nat.le_succ n) (show m<=3*m+1 by omega)) c1
 exact (rD (kd:=7) (by omega) (by rfl) (ht.mono (show n<=n+1+1 by omega) (show m<=2*(3*m+1)+1 by omega)) c2).mono (by omega) (by omega)
theorem JY {n m:Nat} (hn:1<=n) (hm:1<=m) {t a x:Tm} (ht:Fd2 n m t) (ha:Fd2 n m a) (h:gk t a= .ok x):Fd2 (n+8) (1000*m+1000) x:=by
 obtain ⟨a1,h1,h⟩:=aY h
 obtain ⟨y,h2,h⟩:=aY h
 obtain ⟨t',h3,h⟩:=aY h
 obtain ⟨a',h4,h⟩:=aY h
 obtain ⟨z,h5,h⟩:=aY h
 obtain ⟨c,h6,h⟩:=aY h
 injection h with h;subst h
 have c1:=J8 hn hm (ht.up (by omega) h3) (ha.up (by omega) h4) (nR hn hm (.inr rfl)) (nR hn hm (.inl rfl)) h5
 have c2:=agA (by omega) (by omega) c1 h6
 have c3:=rD (kd:=4) (by omega) (by rfl) ((ha.up (by omega) h2).mono (show n<=n+3+3 by omega) (show m<=12*(12*m+9)+9 by omega)) c2
 have c4:=rD (kd:=4) (by omega) (by rfl) ht (ha.up (by omega) h1)
 exact (rD (kd:=7) (by omega) (by rfl) (c4.mono (show n+1<=n+3+3+1 by omega) (show 2*m+1<=2*(12*(12*m+9)+9)+1 by omega)) c3).mono (by omega) (by omega)
mutual
def cm (n:Int):Tm->Nat
 | .mk kd m _ _ ks sys=>(if kd=1/\m=n then 1 else 0)+(ez n kd 0 ks+dN n sys)
def ez (n kd:Int) (i:Nat):LT->Nat
 |[]=>0
 |t::l=>cm (n+cv kd i) t+ez n kd (i+1) l
def dN (n:Int):LB->Nat
 |[]=>0
 |b::l=>Pw n b+dN n l
def Pw (n:Int):Br Tm->Nat
 | .mk _ ks=>eA n ks
def eA (n:Int):LT->Nat
 |[]=>0
 |t::l=>cm n t+eA n l
end
mutual
def dg (n:Int) (u:Tm) (v d:Int):Tm->Except Int Tm
 | .mk kd m nm r ks sys=>if kd=1/\m=n+v then av v d u else bE (gL n u v d kd 0 ks) fun ks'=>bE (fR n u v d kd sys) fun sys'=> .ok (.mk kd (if kd=1/\m>n+v then m-1 else m) nm r ks' sys')
def gL (n:Int) (u:Tm) (v d kd:Int) (i:Nat):LT->Except Int (LT)
 |[]=> .ok []
 |t::l=>bE (dg n u (v+cv kd i) (d+cF kd i) t) fun t'=>bE (gL n u v d kd (i+1) l) fun l'=> .ok (t'::l')
def fR (n:Int) (u:Tm) (v d kd:Int):LB->Except Int (LB)
 |[]=> .ok []
 |b::l=>bE (LM n u v d kd b) fun b'=>bE (fR n u v d kd l) fun l'=> .ok (b'::l')
def LM (n:Int) (u:Tm) (v d kd:Int):Br Tm->Except Int (Br Tm)
 | .mk f ks=>bE (iZ n u v d kd ks) fun ks'=> .ok (.mk f ks')
def iZ (n:Int) (u:Tm) (v d kd:Int):LT->Except Int (LT)
 |[]=> .ok []
 |t::l=>bE (dg n u v (d+aW kd) t) fun t'=>bE (iZ n u v d kd l) fun l'=> .ok (t'::l')
end
def jY (n:Int) (t u:Tm):Except Int Tm:=if ax t+cm n t*(ax u-1)>20000 then .error 221 else bE (dg n u 0 0 t) fun o=>if aw o>200 then .error 62 else .ok o
def Pg (n:Int) (u x x':Tm):Prop:=OkT x'/\bM false (-1) 24 x'=true/\ax x'=ax x+cm n x*(ax u-1)/\aw x'<=aw x+aw u
abbrev By (n:Int) (u x:Tm):Prop:= ∀ {v d:Int} {o:Tm},0<=v->0<=d->v+aw x<=1000->OkT x->bM false (-1) 24 x=true->dg n u v d x= .ok o->Pg (n+v) u x o
section
variable {n v d kd:Int} {u:Tm}
theorem ape: ∀ {l l':LT} {i:Nat},(∀x∈l,By n u x)->0<=v->0<=d->v+a7 l+1<=1000->bo l->cz false (-1) 24 kd i l=true->gL n u v d kd i l= .ok l'->
  bo l'/\cz false (-1) 24 kd i l'=true/\aK l'=aK l+ez (n+v) kd i l*(ax u-1)/\a7 l'<=a7 l+aw u/\l'.length=l.length:=by
 intro l
 induction l with
 |nil=>intro l' i _ _ _ _ _ _ h;rw [gL] at h;injection h with h;subst h;rw [bo,cz,ez,aK,a7];simp
 |cons t l ih=>
  intro l' i h hv hd hb ho ha hl
  rw [gL] at hl
  obtain ⟨t',e1,hl⟩:=aY hl
  obtain ⟨m,e2,hl⟩:=aY hl
  injection hl with hl;subst hl
  rw [bo] at ho
  rw [cz,aZ] at ha
  rw [a7] at hb
  have b1:=lf kd i;have b2:=jJ kd i
  have ha1:bM false (-1) 24 t=true:=by
   have:=ha.1
   rw [Hh,nu t (by omega) (Int.le_refl 24)] at this;exact this
  obtain ⟨p1,p2,p3,p4⟩:=h t (by simp) (v:=v+cv kd i) (d:=d+cF kd i) (by omega) (by omega) (by omega) ho.1 ha1 e1
  obtain ⟨q1,q2,q3,q4,q5⟩:=ih (fun x hx=>h x (by simp [hx])) hv hd (by omega) ho.2 ha.2 e2
  rw [bo,cz,ez,aK,aK,a7,a7,cM,cM]
  refine ⟨⟨p1,q1⟩, ?_, ?_,by omega,by omega⟩
  ·rw [aZ,Hh,nu t' (show (24:Int)<=24+cF kd i by omega) (Int.le_refl 24)];exact ⟨p2,q2⟩
  ·rw [p3,q3,Nat.add_mul,Int.add_assoc];omega
theorem apf: ∀ {l l':LT},(∀x∈l,By n u x)->0<=v->0<=d->v+a7 l+1<=1000->bo l->c_ false (-1) 24 kd l=true->iZ n u v d kd l= .ok l'->
  bo l'/\c_ false (-1) 24 kd l'=true/\aK l'=aK l+eA (n+v) l*(ax u-1)/\a7 l'<=a7 l+aw u/\l'.length=l.length:=by
 intro l
 induction l with
 |nil=>intro l' _ _ _ _ _ _ h;rw [iZ] at h;injection h with h;subst h;rw [bo,c_,eA,aK,a7];simp
 |cons t l ih=>
  intro l' h hv hd hb ho ha hl
  rw [iZ] at hl
  obtain ⟨t',e1,hl⟩:=aY hl
  obtain ⟨m,e2,hl⟩:=aY hl
  injection hl with hl;subst hl
  rw [bo] at ho
  rw [c_,aZ] at ha
  rw [a7] at hb
  have b2:=fO kd
  have ha1:bM false (-1) 24 t=true:=by
   have:=ha.1
   rw [nu t (by omega) (Int.le_refl 24)] at this;exact this
  obtain ⟨p1,p2,p3,p4⟩:=h t (by simp) (v:=v) (d:=d+aW kd) (by omega) (by omega) (by omega) ho.1 ha1 e1
  obtain ⟨q1,q2,q3,q4,q5⟩:=ih (fun x hx=>h x (by simp [hx])) hv hd (by omega) ho.2 ha.2 e2
  rw [bo,c_,eA,aK,aK,a7,a7,cM,cM]
  refine ⟨⟨p1,q1⟩, ?_, ?_,by omega,by omega⟩
  ·rw [aZ,nu t' (show (24:Int)<=24+aW kd by omega) (Int.le_refl 24)];exact ⟨p2,q2⟩
  ·rw [p3,q3,Nat.add_mul];omega
theorem apg: ∀ {l l':LB},(∀b∈l,∀x∈b.kids,By n u x)->0<=v->0<=d->v+bg l+1<=1000->bH l->c5 false (-1) 24 kd l=true->fR n u v d kd l= .ok l'->
  bH l'/\c5 false (-1) 24 kd l'=true/\aX l'=aX l+dN (n+v) l*(ax u-1)/\bg l'<=bg l+aw u/\l'.length=l.length/\l'.all (cO kd 24)=l.all (cO kd 24):=by
 intro l
 induction l with
 |nil=>intro l' _ _ _ _ _ _ h;rw [fR] at h;injection h with h;subst h;rw [bH,c5,dN,aX,bg];simp
 |cons b l ih=>
  intro l' h hv hd hb ho ha hl
  rw [fR] at hl
  obtain ⟨b',e1,hl⟩:=aY hl
  obtain ⟨m,e2,hl⟩:=aY hl
  injection hl with hl;subst hl
  obtain ⟨f,ks⟩:=b
  rw [LM] at e1
  obtain ⟨ks',e3,e1⟩:=aY e1
  injection e1 with e1;subst e1
  rw [bH,iH] at ho
  rw [c5,mf,aZ] at ha
  rw [bg,iP] at hb
  obtain ⟨q1,q2,q3,q4,q5,q6⟩:=ih (fun b hb=>h b (by simp [hb])) hv hd (by omega) ho.2 ha.2 e2
  obtain ⟨p1,p2,p3,p4,p5⟩:=apf (n:=n) (u:=u) (kd:=kd) (l:=ks) (h ⟨f,ks⟩ (by simp)) hv hd (by omega) ho.1.2 ha.1 e3
  rw [bH,iH,c5,mf,dN,Pw,aX,aX,g4,g4,bg,bg,iP,iP,cM,cM,List.all_cons,List.all_cons,q6]
  refine ⟨⟨⟨⟨ho.1.1.1,ho.1.1.2.1,by rw [p5];exact ho.1.1.2.2⟩,p1⟩,q1⟩,by rw [aZ];exact ⟨p2,q2⟩, ?_,by omega,by omega, ?_⟩
  ·rw [p3,q3,Nat.add_mul];omega
  ·have:cO kd 24 ⟨f,ks'⟩=cO kd 24 ⟨f,ks⟩:=by unfold cO;simp only [p5]
   rw [this]
theorem LP (hu:Fm u) (hn:0<=n) (t:Tm):By n u t:=by
 induction t using kf with
 |h kd m nm r ks sys ih1 ih2=>
  intro v d o hv hd hb hok ha h
  rw [dg] at h
  have hok':=hok
  rw [OkT] at hok
  rw [aw] at hb
  have ha':=ha
  rw [bM] at ha
  simp only [Bool.false_and,ca,gR,aZ] at ha
  obtain ⟨q2,q3,q4⟩:=ha
  split at h
  ·rename_i hc
   have fo:=dK (by omega) hu h
   have u1:=(Fm.f2 hu).up (by omega) h
   have hk1:ks=[]/\sys=[]:=by
    unfold dE at q2
    simp only [aZ,decide_eq_true_eq] at q2
    obtain ⟨⟨a1,_,_,a4⟩,_⟩:=q2
    rw [hc.1] at a1 a4
    have:fK 1=0:=rfl
    exact ⟨kj.1 (by omega),kj.1 (a4 rfl)⟩
   obtain ⟨m1,h1,h2⟩:=aY h
   have w1:=zQ (by omega) (by omega) u 0 0 m1 h1
   have w2:=zQ (by omega) (by omega) m1 0 0 o h2
   have e1:ax o=ax u:=by rw [w2.2.1,w1.2.1]
   have e2:aw o=aw u:=by rw [w2.1,w1.1]
   refine ⟨fo.ok,(h8 fo.2).2.2, ?_,by omega⟩
   rw [e1,hk1.1,hk1.2,cm,if_pos hc,ez,dN,ax,aK,aX]
   have:=l7 u
   omega
  ·rename_i hc
   obtain ⟨ks',e2,h⟩:=aY h
   obtain ⟨sys',e3,h⟩:=aY h
   injection h with h;subst h
   obtain ⟨k1,k2,k3,k4,k5⟩:=ape ih1 hv hd (by omega) hok.2.1 q3 e2
   obtain ⟨s1,s2,s3,s4,s5,s6⟩:=apg ih2 hv hd (by omega) hok.2.2 q4 e3
   obtain ⟨o1,o2,o3,o4,o5,o6,o7⟩:=hok.1
   have hm:0<=m->0<=(if kd=1/\m>n+v then m-1 else m):=by intro h;split<;>omega
   refine ⟨?_, ?_, ?_, ?_⟩
   ·rw [OkT]
    exact ⟨⟨o1,by unfold a6 at*;split<;>omega,o3,o4,o5,by omega,by omega⟩,k1,s1⟩
   ·rw [bM,k2,s2]
    simp only [Bool.false_and,ca,gR,Bool.and_true]
    unfold dE at q2 ⊢
    simp only [aZ,decide_eq_true_eq] at q2 ⊢
    rw [k5,s5,s6]
    obtain ⟨⟨a1,a2,a3,a4⟩,a5⟩:=q2
    refine ⟨⟨a1, ?_,a3,a4⟩, ?_⟩
    ·by_cases c:kd=1
     ·exact .inl c
     ·exact .inr (by rw [if_neg (fun h=>c h.1)];exact a2.resolve_left c)
    ·by_cases c1:kd=1
     ·rw [if_pos c1] at a5 ⊢
      simp only [aZ,decide_eq_true_eq] at a5 ⊢
      exact ⟨a5.1,hm a5.2.1,.inl (by decide)⟩
     ·rw [if_neg c1] at a5 ⊢;exact a5
   ·rw [cm,if_neg hc,ax,ax,k3,s3,g7,Nat.add_mul];omega
   ·rw [aw,aw];omega
end
theorem Uj {n:Int} (hn:0<=n) {t u o:Tm} (ht:Fm t) (hu:Fm u) (h:jY n t u= .ok o):Fm o:=by
 unfold jY at h
 split at h
 ·cases h
 rename_i h0
 obtain ⟨o',h1,h⟩:=aY h
 split at h
 ·cases h
 rename_i h2
 injection h with h;subst h
 obtain ⟨d1,d2,d3⟩:=h8 ht.2
 obtain ⟨p1,p2,p3,p4⟩:=LP hu hn t (Int.le_refl 0) (Int.le_refl 0) (by omega) ht.ok d3 h1
 rw [Int.add_zero] at p3
 exact ⟨p1,rG (by omega) (by omega) p2⟩
theorem LO {n:Int} {u:Tm} (t:Tm): ∀ {v d e:Int},dg n u v d t= .error e->0<e/\e<=1000:=by
 induction t using kf with
 |h kd m nm r ks sys ih1 ih2=>
  intro v d e h
  have hk: ∀ {l:LT} {i:Nat},(∀x∈l,∀ {v d e:Int},dg n u v d x= .error e->0<e/\e<=1000)->gL n u v d kd i l= .error e->0<e/\e<=1000:=by
   intro l
   induction l with
   |nil=>intro i _ h;rw [gL] at h;cases h
   |cons t l ih=>
    intro i h hl
    rw [gL] at hl
    rcases ba hl with hl|⟨_,_,hl⟩
    ·exact h t (by simp) hl
    rcases ba hl with hl|⟨_,_,hl⟩
    ·exact ih (fun x hx=>h x (by simp [hx])) hl
    ·cases hl
  have hm: ∀ {l:LT},(∀x∈l,∀ {v d e:Int},dg n u v d x= .error e->0<e/\e<=1000)->iZ n u v d kd l= .error e->0<e/\e<=1000:=by
   intro l
   induction l with
   |nil=>intro _ h;rw [iZ] at h;cases h
   |cons t l ih=>
    intro h hl
    rw [iZ] at hl
    rcases ba hl with hl|⟨_,_,hl⟩
    ·exact h t (by simp) hl
    rcases ba hl with hl|⟨_,_,hl⟩
    ·exact ih (fun x hx=>h x (by simp [hx])) hl
    ·cases hl
  have hs: ∀ {l:LB},(∀b∈l,∀x∈b.kids,∀ {v d e:Int},dg n u v d x= .error e->0<e/\e<=1000)->fR n u v d kd l= .error e->0<e/\e<=1000:=by
   intro l
   induction l with
   |nil=>intro _ h;rw [fR] at h;cases h
   |cons b l ih=>
    intro h hl
    rw [fR] at hl
    obtain ⟨f,ks'⟩:=b
    rcases ba hl with hl|⟨_,_,hl⟩
    ·rw [LM] at hl
     rcases ba hl with hl|⟨_,_,hl⟩
     ·exact hm (h ⟨f,ks'⟩ (by simp)) hl
     ·cases hl
    ·rcases ba hl with hl|⟨_,_,hl⟩
     ·exact ih (fun b hb=>h b (by simp [hb])) hl
     ·cases hl
  rw [dg] at h
  split at h
  ·exact bN h
  ·rcases ba h with h|⟨_,_,h⟩
   ·exact hk ih1 h
   ·rcases ba h with h|⟨_,_,h⟩
    ·exact hs ih2 h
    ·cases h
theorem FX {n:Int} {t u:Tm} {e:Int} (h:jY n t u= .error e):0<e/\e<=1000:=by
 unfold jY at h
 split at h
 ·injection h with h;omega
 ·rcases ba h with h|⟨_,_,h⟩
  ·exact LO t h
  ·split at h
   ·injection h with h;omega
   ·cases h
def gm {α:Type} (t:Tm) (x:Except Int α):Except Int α:=if ck t=0 then x else .error (ck t)
theorem zu {α:Type} {t:Tm} {x:Except Int α} {e:Int} (hx: ∀e,x= .error e->0<e/\e<=1000) (h:gm t x= .error e):0<e/\e<=1000:=by
 unfold gm at h
 split at h
 ·exact hx e h
 ·rename_i h0
  injection h with h
  have:=Kb t;omega
def tp (a b:Int) (t:Tm):Except Int Tm:=gm t (av a b t)
def pu (f b:Int) (t:Tm):Except Int Tm:=gm t (bJ 0 b 0 f t)
def wN (i:Int) (r:LC) (t:Tm):Except Int Tm:=gm t (dY i r t)
theorem dT {e:Int} (h:e≠0):(e==0)=false:=by simpa using h
theorem aqy (hk:F3 k) {t:Tm} (ht:In k t) {vb db:Int} (hvb:0<=vb/\vb<=1000000) (hdb:0<=db/\db<9223372036854775808) (Y:Tm×Int->OS S):pb k t vb db Y=Y (tE (tp vb db t)):=by
 unfold tp gm
 by_cases h:ck t=0
 ·rw [if_pos h];exact M1 hk ⟨ht.1,h⟩ hvb hdb Y
 ·rw [if_neg h]
  simp only [pb,al hk.fu,aA,D0,G7,jc ht.1 ht.2.1 ht.dep,dT h,ca,aj];rfl
theorem XX (hk:F3 k) {t:Tm} (ht:In k t) {f b:Int} (hf:0<=f/\f<=24) (hb:0<=b/\b<9223372036854775808) (Y:Tm×Int->OS S):pc k t f b Y=Y (tE (pu f b t)):=by
 unfold pu gm
 by_cases h:ck t=0
 ·rw [if_pos h];exact Yk hk ⟨ht.1,h⟩ hf hb Y
 ·rw [if_neg h]
  simp only [pc,al hk.fu,aA,DY,G5,jc ht.1 ht.2.1 ht.dep,dT h,ca,aj];rfl
theorem aqR (hk:F3 k) {t:Tm} (ht:In k t) {i:Int} (hi:0<=i/\i<24) {r:LC} (hr:RF r) (Y:Tm×Int->OS S):ny k t i r Y=Y (tE (wN i r t)):=by
 unfold wN gm
 by_cases h:ck t=0
 ·rw [if_pos h];exact MS hk ⟨ht.1,h⟩ hi hr Y
 ·rw [if_neg h]
  simp only [ny,al hk.fu,aA,Dv,jc ht.1 ht.2.1 ht.dep,dT h,ca,aj];rfl
end Go.Proofs.YtgajalidbabccaaGreatDoor
namespace Go.Proofs.YtgajalidbabccaaGreatDoor
open Go PI
set_option maxRecDepth 20000
theorem anJ (t:Tm): ∀ {v v' d d':Int},v+aw t<=1000000000->v'+aw t<=1000000000->bJ 0 0 v d t=bJ 0 0 v' d' t:=by
 induction t using kf with
 |h kd n nm r ks sys ih1 ih2=>
  intro v v' d d' h h'
  rw [aw] at h h'
  have hk: ∀ {l:LT} {i:Nat},(∀x∈l,∀ {v v' d d':Int},v+aw x<=1000000000->v'+aw x<=1000000000->bJ 0 0 v d x=bJ 0 0 v' d' x)->v+a7 l+1<=1000000000->v'+a7 l+1<=1000000000->eD 0 0 v d kd i l=eD 0 0 v' d' kd i l:=by
   intro l
   induction l with
   |nil=>intro i _ _ _;rw [eD,eD]
   |cons t l ih=>
    intro i h h1 h2
    rw [a7] at h1 h2
    have:=lf kd i
    rw [eD,eD,h t (by simp) (v:=v+cv kd i) (v':=v'+cv kd i) (d:=d+cF kd i) (d':=d'+cF kd i) (by omega) (by omega),ih (fun x hx=>h x (by simp [hx])) (by omega) (by omega)]
  have hm: ∀ {l:LT},(∀x∈l,∀ {v v' d d':Int},v+aw x<=1000000000->v'+aw x<=1000000000->bJ 0 0 v d x=bJ 0 0 v' d' x)->v+a7 l+1<=1000000000->v'+a7 l+1<=1000000000->ei 0 0 v d kd l=ei 0 0 v' d' kd l:=by
   intro l
   induction l with
   |nil=>intro _ _ _;rw [ei,ei]
   |cons t l ih=>
    intro h h1 h2
    rw [a7] at h1 h2
    rw [ei,ei,h t (by simp) (v:=v) (v':=v') (d:=d+aW kd) (d':=d'+aW kd) (by omega) (by omega),ih (fun x hx=>h x (by simp [hx])) (by omega) (by omega)]
  have hr: ∀ {d:Int} {f:LC},d8 d 0 f= .ok f:=fun {d f}=>if_pos (.inl rfl)
  have hs: ∀ {l:LB},(∀b∈l,∀x∈b.kids,∀ {v v' d d':Int},v+aw x<=1000000000->v'+aw x<=1000000000->bJ 0 0 v d x=bJ 0 0 v' d' x)->v+bg l+1<=1000000000->v'+bg l+1<=1000000000->eG 0 0 v d kd l=eG 0 0 v' d' kd l:=by
   intro l
   induction l with
   |nil=>intro _ _ _;rw [eG,eG]
   |cons b l ih=>
    intro h h1 h2
    obtain ⟨f,ks'⟩:=b
    rw [bg,iP] at h1 h2
    rw [eG,eG,sF,sF,hr,hr,aF,aF,hm (l:=ks') (h ⟨f,ks'⟩ (by simp)) (by omega) (by omega),ih (fun b hb=>h b (by simp [hb])) (by omega) (by omega)]
  rw [bJ,bJ,hr,hr,aF,aF,hk ih1 (by omega) (by omega),hs ih2 (by omega) (by omega)]
  have e1:(kd=1/\n>=v/\n>1000000000-0)↔(kd=1/\n>=v'/\n>1000000000-0):=by omega
  simp only [e1,Int.add_zero,ite_self]
variable {S:Type} {k:Nat}
def cj (l:LT) (x:Except Int Tm):Except Int Tm:=if cE l=0 then il x else .error (cE l)
theorem soM {l:LT} {p:Tm×Int} {x:Except Int Tm} (h0:cE l=0->iz p=x) (hc:cE l≠0->p.2=cE l):il (iz p)=cj l x:=by
 unfold cj
 by_cases h:cE l=0
 ·grind
 ·rw [if_neg h]
  unfold iz
  rw [hc h,if_neg h];rfl
theorem Qv {c:Int} {t a f y:Tm} (h:(hY c t a f y).2=0):c=0:=by
 grind [zr]
theorem agx {c:Int} {t:Tm} (h:(iN c t).2=0):c=0:=by
 grind [tM]
theorem Zc {p:Tm×Int} (h:p.2=0):iz p= .ok p.1:=if_pos h
theorem Zk {n m:Nat} {c a b:Int} {t:Tm} (h:Fd2 n m t) (ha:0<=a/\a<=1000000000) (hz:(bW c a b t).2=0):Fd2 n m (bW c a b t).1:=by
 have h0:=kW hz
 subst h0
 rw [mb] at hz ⊢
 cases hx:av a b t with
 |ok t'=>exact h.up ha hx
 |error e=>
  rw [hx] at hz
  have:=bN hx
  have hz:e=0:=hz
  omega
theorem aqF (hk:F3 k) {t a:Tm} (ht:In k t) (ha:In k a) (hst:ax t<=150) (hsa:ax a<=150) (Y:Tm×Int->OS S):Dh k t a Y=Y (tE (cj [t,a] (gk t a))):=by
 have hin: ∀x∈[t,a],In k x:=fun x hx=>by
  grind
 have hfm:cE [t,a]=0-> ∀x∈[t,a],Fm x:=fun h=>qC (fun x hx=>(hin x hx).1) h
 have ft:cE [t,a]=0->Fd2 150 150 t:=fun h=>⟨ht.1,(hfm h t (by simp)).f2.2.1,by have:=nI t;omega,hst⟩
 have fa:cE [t,a]=0->Fd2 150 150 a:=fun h=>⟨ha.1,(hfm h a (by simp)).f2.2.1,by have:=nI a;omega,hsa⟩
 generalize hc:cE [t,a]=c at ft fa
 have e1: ∀g,eB k a 1 0 c g=g (bW c 1 0 a):=fun g=>l6 (S:=S) hk (fun h=>(fa h).fm (by omega) (by omega)) (by omega) (by omega) g
 generalize h1:bW c 1 0 a=p1 at e1
 have z1:p1.2=0->c=0:=fun h=>kW (by rw [h1];exact h)
 have e2: ∀g,eB k a 1 0 p1.2 g=g (bW p1.2 1 0 a):=fun g=>l6 (S:=S) hk (fun h=>(fa (z1 h)).fm (by omega) (by omega)) (by omega) (by omega) g
 generalize h2:bW p1.2 1 0 a=p2 at e2
 have z2:p2.2=0->c=0:=fun h=>z1 (kW (by rw [h2];exact h))
 have e3: ∀g,eB k t 2 0 p2.2 g=g (bW p2.2 2 0 t):=fun g=>l6 (S:=S) hk (fun h=>(ft (z2 h)).fm (by omega) (by omega)) (by omega) (by omega) g
 have f3:(bW p2.2 2 0 t).2=0->Fd2 150 150 (bW p2.2 2 0 t).1:=fun h=>Zk (ft (z2 (kW h))) (by omega) h
 generalize h3:bW p2.2 2 0 t=p3 at e3 f3
 have z3:p3.2=0->c=0:=fun h=>z2 (kW (by rw [h3];exact h))
 have e4: ∀g,eB k a 2 0 p3.2 g=g (bW p3.2 2 0 a):=fun g=>l6 (S:=S) hk (fun h=>(fa (z3 h)).fm (by omega) (by omega)) (by omega) (by omega) g
 have f4:(bW p3.2 2 0 a).2=0->Fd2 150 150 (bW p3.2 2 0 a).1:=fun h=>Zk (fa (z3 (kW h))) (by omega) h
 have y4:(bW p3.2 2 0 a).2=0->p3.2=0:=fun h=>kW h
 generalize h4:bW p3.2 2 0 a=p4 at e4 f4 y4
 have e5: ∀g,ym k p3.1 p4.1 (vN 1) (vN 0) p4.2 g=g (7,0,au,(hY p4.2 p3.1 p4.1 (vN 1) (vN 0)).1.kids,(hY p4.2 p3.1 p4.1 (vN 1) (vN 0)).2):=
  fun g=>are (S:=S) hk (fun h=>(f4 h).fm (by omega) (by omega)) (fun _=>fm_v1) (fun _=>fm_v0) g
 have f5:(hY p4.2 p3.1 p4.1 (vN 1) (vN 0)).2=0->Fd2 153 1809 (hY p4.2 p3.1 p4.1 (vN 1) (vN 0)).1:=fun h=>by
  have h0:=Qv h
  have:=Zc h
  rw [h0,Qu] at this
  rw [h0]
  exact J8 (by omega) (by omega) (f3 (y4 h0)) (f4 h0) (nR (by omega) (by omega) (.inr rfl)) (nR (by omega) (by omega) (.inl rfl)) this
 have k5:(hY p4.2 p3.1 p4.1 (vN 1) (vN 0)).1= .mk 7 0 au [] (hY p4.2 p3.1 p4.1 (vN 1) (vN 0)).1.kids []:=rfl
 have x5:(hY p4.2 p3.1 p4.1 (vN 1) (vN 0)).2=0->c=0:=fun h=>z3 (y4 (Qv h))
 generalize h5:hY p4.2 p3.1 p4.1 (vN 1) (vN 0)=p5 at e5 f5 k5 x5
 have e6: ∀g,yl k (.mk 7 0 au [] p5.1.kids []) p5.2 g=g (7,0,au,(iN p5.2 p5.1).1.kids,(iN p5.2 p5.1).2):=fun g=>by
  rw [<-k5];exact aq2 (S:=S) hk (fun h=>(f5 h).fm (by omega) (by omega)) g
 have hM:pA c t a=(aD 7 [aD 4 [t,p1.1],aD 4 [p2.1,(iN p5.2 p5.1).1]],(iN p5.2 p5.1).2):=by
  grind [pA]
 have k6:(iN p5.2 p5.1).1= .mk 7 0 au [] (iN p5.2 p5.1).1.kids []:=rfl
 simp only [Dh,al hk.fu,aA,MV hk hin (by simp),hc,td t ht.1 _ ht.2.1,e1,e2,e3,e4,c8,iO]
 have e5':=e5
 unfold vN at e5'
 simp only [e5',e6,<-k6]
 refine ak (b:=g_ k (pA c t a).1 (pA c t a).2 fun r=>Y (r.1,r.2.1)) (by rw [hM];rfl) ?_
 refine (MX hk (fun h=> ?_) Y).trans ?_
 ·have hz:c=0:=x5 (agx (by rw [hM] at h;exact h))
  have:=Zc h
  subst hz
  rw [Qq] at this
  exact (JY (by omega) (by omega) (ft rfl) (fa rfl) this).isIn hk (by omega) (by omega)
 grind [soM,Qq,ajI]
structure Gd (x:Except Int Tm):Prop where
 en: ∀e,x= .error e->0<e/\e<=1000
 kd: ∀t,x= .ok t->0<=t.kind
theorem h9 {t:Tm} (h:0<=t.kind):Gd (.ok t):=⟨fun e h=>(by cases h),fun t' h'=>by grind⟩
theorem cP {a b:Int} {t:Tm} (h:Fm t):Gd (av a b t):=⟨fun e he=>bN he,fun t' h'=>by rw [Zj h'];exact h.rows.no.2.2⟩
theorem dU {x:Except Int Tm} {f:Tm->Except Int Tm} (hx:Gd x) (hf: ∀t,x= .ok t->Gd (f t)):Gd (bE x f):=by
 cases hh:x with
 |error e=>exact ⟨fun e' h=>by injection h with h;exact h▸hx.en e hh,fun t h=>by cases h⟩
 |ok t=>exact hf t hh
theorem lz {kd:Int} (h:0<=kd) (l:LT):Gd (.ok (aD kd l)):=h9 h
theorem jy (hk:F3 k) {kd:Int} {x y:Except Int Tm} (hx:Gd x) (hy:Gd y) (Y:Tm->OS S):cG k kd (rE x) (rE y) Y=Y (rE (bE x fun a=>bE y fun b=> .ok (aD kd [a,b]))):=
 aqT hk (fun e h=>(hx.en e h).1) hx.kd (fun e h=>(hy.en e h).1) hy.kd Y
theorem MT (hk:F3 k) {kd:Int} {x y z:Except Int Tm} (hx:Gd x) (hy:Gd y) (hz:Gd z) (Y:Tm->OS S):nF k kd (rE x) (rE y) (rE z) Y=Y (rE (bE x fun a=>bE y fun b=>bE z fun c=> .ok (aD kd [a,b,c]))):=by
 simp only [nF,al hk.fu,aA,rq,Bp]
 have:=KJ hk.fu Y (kd:=kd) (l:=[rE x,rE y,rE z]) (by simp) [rE x,rE y,rE z] [] k rfl (by grind)
 refine ak this ?_
 congr 1
 rw [List.find?_cons,List.find?_cons,List.find?_cons]
 cases x with
 |error e=>rw [show rE (.error e)=bD e from rfl,fj (hx.en e rfl).1];rfl
 |ok a=>
  rw [show rE (.ok a)=a from rfl,decide_eq_false (by have:=hx.kd a rfl;omega),aF]
  cases y with
  |error e=>rw [show rE (.error e)=bD e from rfl,fj (hy.en e rfl).1];rfl
  |ok b=>
   rw [show rE (.ok b)=b from rfl,decide_eq_false (by have:=hy.kd b rfl;omega),aF]
   cases z with
   |error e=>rw [show rE (.error e)=bD e from rfl,fj (hz.en e rfl).1];rfl
   |ok c=>rw [show rE (.ok c)=c from rfl,decide_eq_false (by have:=hz.kd c rfl;omega)];rfl
theorem MU (hk:F3 k) {x:Except Int Tm} (hx:Gd x) (hf: ∀t,x= .ok t->Fm t) {a b:Int} (ha:0<=a/\a<=1000000000) (hb:0<=b/\b<9223372036854775808) (Y:Tm->OS S):cY k (rE x) a b Y=Y (rE (bE x (av a b))):=by
 cases hh:x with
 |error e=>
  simp only [cY,aA]
  rw [show rE (.error e)=bD e from rfl,fj (hx.en e hh).1,aj];rfl
 |ok t=>exact fq hk (hf t hh) ha hb Y
theorem aqH (hk:F3 k) {T A:Except Int Tm} (hT:Gd T) (hA:Gd A) (hA': ∀t,A= .ok t->Fm t) {f y:Tm} (hf:Fm f) (hy:Fm y) (Y:Tm->OS S):
  yZ k (rE T) (rE A) f y Y=Y (rE (bE T fun t=>bE A fun a=>jm t a f y)):=by
 have h6: ∀g:Tm->OS S,cG k 6 (rE (av 1 0 f)) (.mk 1 0 au [] [] []) g=g (rE (bE (av 1 0 f) fun a=> .ok (aD 6 [a,vN 0]))):=fun g=>jy hk (y:= .ok (vN 0)) (cP hf) (h9 (by decide)) g
 have h11: ∀g:Tm->OS S,nF k 11 (rE (bE A (av 1 1))) (rE (av 1 0 y)) (rE (bE (av 1 0 f) fun a=> .ok (aD 6 [a,vN 0]))) g=_:=fun g=>MT hk (dU hA fun t h=>cP (hA' t h)) (cP hy) (dU (cP hf) fun t h=>lz (by decide) _) g
 have h7: ∀g:Tm->OS S,cG k 7 (rE T) (rE (bE (bE A (av 1 1)) fun a=>bE (av 1 0 y) fun b=>bE (bE (av 1 0 f) fun a=> .ok (aD 6 [a,vN 0])) fun c=> .ok (aD 11 [a,b,c]))) g=_:=
  fun g=>jy hk hT (dU (dU hA fun t h=>cP (hA' t h)) fun _ _=>dU (cP hy) fun _ _=>dU (dU (cP hf) fun t h=>lz (by decide) _) fun _ _=>lz (by decide) _) g
 simp only [yZ,al hk.fu,aA,MU hk hA hA' (show (0:Int)<=1/\(1:Int)<=1000000000 by omega) (show (0:Int)<=1/\(1:Int)<9223372036854775808 by omega),
  fq hk hy (show (0:Int)<=1/\(1:Int)<=1000000000 by omega) (show (0:Int)<=0/\(0:Int)<9223372036854775808 by omega),fq hk hf (show (0:Int)<=1/\(1:Int)<=1000000000 by omega) (show (0:Int)<=0/\(0:Int)<9223372036854775808 by omega),gV,h6,h11,h7]
 congr 2
 cases T with
 |error e=>rfl
 |ok t=>
  rw [aF,aF]
  cases A with
  |error e=>rfl
  |ok a=>
   rw [aF,aF]
   unfold jm
   cases av 1 1 a with
   |error e=>rfl
   |ok a'=>
    rw [aF,aF]
    cases av 1 0 y with
    |error e=>rfl
    |ok y'=>
     rw [aF,aF]
     cases av 1 0 f with
     |error e=>rfl
     |ok f'=>rfl
theorem aqB (hk:F3 k) {X:Except Int Tm} (hX:Gd X) (hX': ∀t,X= .ok t->Fm t) (Y:Tm->OS S):yX k (rE X) Y=Y (rE (bE X lk)):=by
 have g1:Gd (bE X (av 1 0)):=dU hX fun t h=>cP (hX' t h)
 have g2:Gd (bE X (av 2 1)):=dU hX fun t h=>cP (hX' t h)
 have h11: ∀g:Tm->OS S,nF k 11 (rE (bE X (av 2 1))) (.mk 1 1 au [] [] []) (.mk 1 0 au [] [] []) g=g (rE (bE (bE X (av 2 1)) fun a=> .ok (aD 11 [a,vN 1,vN 0]))):=fun g=>MT hk (y:= .ok (vN 1)) (z:= .ok (vN 0)) g2 (h9 (by decide)) (h9 (by decide)) g
 have h4: ∀g:Tm->OS S,cG k 4 (rE (bE X (av 1 0))) (rE (bE (bE X (av 2 1)) fun a=> .ok (aD 11 [a,vN 1,vN 0]))) g=_:=fun g=>jy hk g1 (dU g2 fun _ _=>lz (by decide) _) g
 have h7: ∀g:Tm->OS S,cG k 7 (rE X) (rE (bE (bE X (av 1 0)) fun a=>bE (bE (bE X (av 2 1)) fun a=> .ok (aD 11 [a,vN 1,vN 0])) fun b=> .ok (aD 4 [a,b]))) g=_:=
  fun g=>jy hk hX (dU g1 fun _ _=>dU (dU g2 fun _ _=>lz (by decide) _) fun _ _=>lz (by decide) _) g
 simp only [yX,al hk.fu,aA,MU hk hX hX' (show (0:Int)<=1/\(1:Int)<=1000000000 by omega) (show (0:Int)<=0/\(0:Int)<9223372036854775808 by omega),
  MU hk hX hX' (show (0:Int)<=2/\(2:Int)<=1000000000 by omega) (show (0:Int)<=1/\(1:Int)<9223372036854775808 by omega),gV,h11,h4,h7]
 congr 2
 cases X with
 |error e=>rfl
 |ok t=>
  rw [aF,aF,aF,aF]
  unfold lk
  cases av 1 0 t with
  |error e=>rfl
  |ok a'=>
   rw [aF,aF]
   cases av 2 1 t with
   |error e=>rfl
   |ok y'=>rfl
theorem aqG (hk:F3 k) {t a:Tm} (ht:Fd2 150 150 t) (ha:Fd2 150 150 a) (Y:Tm->OS S):yY k t a Y=Y (rE (gk t a)):=by
 have fmt:=ht.fm (by omega) (by omega)
 have fma:=ha.fm (by omega) (by omega)
 have gX:Gd (bE (av 2 0 t) fun t'=>bE (av 2 0 a) fun a'=>jm t' a' (vN 1) (vN 0)):=dU (cP fmt) fun _ _=>dU (cP fma) fun _ h=>by
  have hh:=dK (by omega) fma h
  exact dU (cP hh) fun _ _=>dU (cP fm_v0) fun _ _=>dU (cP fm_v1) fun _ _=>lz (by decide) _
 have fX: ∀x,(bE (av 2 0 t) fun t'=>bE (av 2 0 a) fun a'=>jm t' a' (vN 1) (vN 0))= .ok x->Fd2 153 1809 x:=fun x h=>by
  obtain ⟨t',h1,h⟩:=aY h
  obtain ⟨a',h2,h⟩:=aY h
  exact J8 (by omega) (by omega) (ht.up (by omega) h1) (ha.up (by omega) h2) (nR (by omega) (by omega) (.inr rfl)) (nR (by omega) (by omega) (.inl rfl)) h
 have hF: ∀g:Tm->OS S,yZ k (rE (av 2 0 t)) (rE (av 2 0 a)) (.mk 1 1 au [] [] []) (.mk 1 0 au [] [] []) g=_:=fun g=>aqH hk (cP fmt) (cP fma) (fun _ h=>dK (by omega) fma h) fm_v1 fm_v0 g
 have hC: ∀g:Tm->OS S,yX k (rE (bE (av 2 0 t) fun t'=>bE (av 2 0 a) fun a'=>jm t' a' (vN 1) (vN 0))) g=_:=fun g=>aqB hk gX (fun x h=>(fX x h).fm (by omega) (by omega)) g
 have gC:Gd (bE (bE (av 2 0 t) fun t'=>bE (av 2 0 a) fun a'=>jm t' a' (vN 1) (vN 0)) lk):=dU gX fun x h=>by
  have hh:=(fX x h).fm (by omega) (by omega)
  exact dU (cP hh) fun _ _=>dU (cP hh) fun _ _=>lz (by decide) _
 have h4: ∀g:Tm->OS S,cG k 4 t (rE (av 1 0 a)) g=g (rE (bE (av 1 0 a) fun b=> .ok (aD 4 [t,b]))):=fun g=>jy hk (x:= .ok t) (h9 fmt.rows.no.2.2) (cP fma) g
 have h4': ∀g:Tm->OS S,cG k 4 (rE (av 1 0 a)) (rE (bE (bE (av 2 0 t) fun t'=>bE (av 2 0 a) fun a'=>jm t' a' (vN 1) (vN 0)) lk)) g=_:=fun g=>jy hk (cP fma) gC g
 have h7: ∀g:Tm->OS S,cG k 7 (rE (bE (av 1 0 a) fun b=> .ok (aD 4 [t,b]))) (rE (bE (av 1 0 a) fun x=>bE (bE (bE (av 2 0 t) fun t'=>bE (av 2 0 a) fun a'=>jm t' a' (vN 1) (vN 0)) lk) fun b=> .ok (aD 4 [x,b]))) g=_:=
  fun g=>jy hk (dU (cP fma) fun _ _=>lz (by decide) _) (dU (cP fma) fun _ _=>dU gC fun _ _=>lz (by decide) _) g
 simp only [yY,al hk.fu,aA,fq hk fma (show (0:Int)<=1/\(1:Int)<=1000000000 by omega) (show (0:Int)<=0/\(0:Int)<9223372036854775808 by omega),
  fq hk fmt (show (0:Int)<=2/\(2:Int)<=1000000000 by omega) (show (0:Int)<=0/\(0:Int)<9223372036854775808 by omega),fq hk fma (show (0:Int)<=2/\(2:Int)<=1000000000 by omega) (show (0:Int)<=0/\(0:Int)<9223372036854775808 by omega),
  gV,h4,hF,hC,h4',h7]
 congr 2
 unfold gk
 cases av 1 0 a with
 |error e=>rfl
 |ok a1=>
  simp only [aF]
  cases av 2 0 t with
  |error e=>rfl
  |ok t'=>
   simp only [aF]
   cases av 2 0 a with
   |error e=>rfl
   |ok a'=>
    simp only [aF]
    cases jm t' a' (vN 1) (vN 0) with
    |error e=>rfl
    |ok x=>
     simp only [aF]
     cases lk x with
     |error e=>rfl
     |ok c=>rfl
theorem M8 (hk:F3 k) {l:LT} {x:Except Int Tm} (hl: ∀t∈l,In k t) (hlen:l.length<1000) {F:(Tm->OS S)->OS S} (hF:cE l=0-> ∀g,F g=g (rE x)) (hx:cE l=0->(∀e,x= .error e->0<e/\e<=1000)/\ ∀t,x= .ok t->In k t/\0<=t.kind) (Y:Tm×Int->OS S):
  (rx k l fun r1=>ac (!(r1==0)) (Y (aH,r1)) (F fun r2=>pn k r2 fun r3=>Y (r3.1,r3.2)))=Y (tE (cj l x)):=by
 rw [aqQ hk hl hlen,cH]
 unfold cj
 by_cases h0:cE l=0
 ·grind [ah,XY]
 ·rw [decide_eq_false h0,ca,aj,if_neg h0];rfl
theorem ajH (hk:F3 k) {t a:Tm} (ht:Fd2 150 150 t) (ha:Fd2 150 150 a):(∀e,gk t a= .error e->0<e/\e<=1000)/\ ∀x,gk t a= .ok x->In k x/\0<=x.kind:=by
 refine ⟨fun e h=> ?_,fun x h=>⟨(JY (by omega) (by omega) ht ha h).isIn hk (by omega) (by omega), ?_⟩⟩
 ·rcases ba h with h|⟨_,_,h⟩
  ·exact bN h
  rcases ba h with h|⟨_,_,h⟩
  ·grind
  rcases ba h with h|⟨_,_,h⟩
  ·exact bN h
  rcases ba h with h|⟨_,_,h⟩
  ·exact bN h
  rcases ba h with h|⟨_,_,h⟩
  ·exact Qw h
  rcases ba h with h|⟨_,_,h⟩
  ·exact agz h
  simp_all
 ·obtain ⟨_,_,h⟩:=aY h
  obtain ⟨_,_,h⟩:=aY h
  obtain ⟨_,_,h⟩:=aY h
  obtain ⟨_,_,h⟩:=aY h
  obtain ⟨_,_,h⟩:=aY h
  obtain ⟨_,_,h⟩:=aY h
  injection h with h;subst h;exact (by decide:(0:Int)<=7)
def LQ (r:LC):Tm:= .mk 13 0 au r [aD 10 [vN 0],vN 1,aD 9 [vN 0]] []
def uI:LT:=[aD 5 [vN 0],aD 5 [aD 8 [aD 8 [vN 0,aD 12 [vN 0]],aD 5 [aD 12 [aD 8 [LQ [⟨1,0⟩],aD 12 [LQ [⟨3,0⟩]]]]]]]]
theorem akl (q:Nat) (Y:Int×Int×BA×LT->OS S):Dj (q+100) Y=Y (8,0,au,uI):=by kernel_rfl
theorem ajM:ck (aD 8 uI)=0:=by kernel_rfl
theorem YB (hk:F3 k) {t a:Tm} (ht:In k t) (ha:In k a) (hst:ax t<=150) (hsa:ax a<=150) (Y:Tm×Int->OS S):Eu k t a Y=Y (tE (cj [t,a] (gk t a))):=by
 have hin: ∀x∈[t,a],In k x:=fun x hx=>by
  grind
 have hfm:cE [t,a]=0-> ∀x∈[t,a],Fm x:=fun h=>qC (fun x hx=>(hin x hx).1) h
 have ft:cE [t,a]=0->Fd2 150 150 t:=fun h=>⟨ht.1,(hfm h t (by simp)).f2.2.1,by have:=nI t;omega,hst⟩
 have fa:cE [t,a]=0->Fd2 150 150 a:=fun h=>⟨ha.1,(hfm h a (by simp)).f2.2.1,by have:=nI a;omega,hsa⟩
 simp only [Eu,al hk.fu,aA]
 exact M8 hk hin (by simp) (F:=yY k t a) (fun h g=>aqG hk (ft h) (fa h) g) (fun h=>ajH hk (ft h) (fa h)) Y
section
variable {hd:Tm->(Tm->OS S)->OS S} {t:Tm}
theorem amT (hk:Fu k) (Y:Tm->OS S) (rec1:LB->Int->OS S) {ks:LT} {acc:LB} {x:Br Tm} {i:Int} (hi:ai t.sys i=some x) (hQ: ∀y∈x.kids,∀g,hd y g=g y) (hl:x.kids.length<1073741824) (hacc:acc.length<1073741824):
  ∀ (r p:LT) (m:Nat),x.kids=p++r->r.length<m->sf hd k Y rec1 t ks acc x i m p (p.length:Int)=rec1 (acc++[x]) (af .i64 (i+1)):=by
 intro r
 induction r with
 |nil=>
  intro p m h hm
  obtain ⟨m,rfl,hm'⟩:=aq hm
  simp only [sf,CD,hi,aJ,cV h,ah]
  rw [bn (by grind)]
  have:p=x.kids:=by grind
  subst this
  rfl
 |cons y r ih=>
  intro p m h hm
  obtain ⟨m,rfl,hm'⟩:=aq hm
  obtain ⟨e1,e2,e3,e4⟩:=aR h (by omega)
  have hlen:p.length+r.length+1=x.kids.length:=by grind
  simp only [sf,CD,hi,e1,aj,e2,aJ,aA,e3,hQ y (by grind)]
  grind [bn]
theorem amS (hk:Fu k) (Y:Tm->OS S) (ht:OkT t) (hQ: ∀b∈t.sys,∀y∈b.kids,∀g,hd y g=g y) {ks:LT}:
  ∀ (r p:LB) (m:Nat),t.sys=p++r->r.length<m->oa hd k Y t ks m p (p.length:Int)=Y (.mk t.kind t.n t.name t.r ks t.sys):=by
 obtain ⟨o1,o2,o3,o4,o5,o6,o7⟩:=ht.no
 intro r
 induction r with
 |nil=>
  grind [aq,oa,xF,ah]
 |cons y r ih=>
  intro p m h hm
  obtain ⟨m,rfl,hm'⟩:=aq hm
  obtain ⟨e1,e2,e3,e4⟩:=aR h (by omega)
  have hy:y∈t.sys:=by grind
  have hb:=(ht.bi hy).1
  have hlen:p.length+r.length+1=t.sys.length:=by grind
  simp only [oa,xF,e1,aj,e2,aJ]
  rw [bn (by grind)]
  have:=amT (t:=t) hk Y (oa hd k Y t ks m) (ks:=ks) (acc:=p) e2 (hQ y hy) hb.2.2 (by omega) y.kids [] k rfl (by omega)
  grind
theorem amR (hk:Fu k) (Y:Tm->OS S) (ht:OkT t) (hQ: ∀y∈t.kids,∀g,hd y g=g y) (hQ': ∀b∈t.sys,∀y∈b.kids,∀g,hd y g=g y):
  ∀ (r p:LT) (m:Nat),t.kids=p++r->r.length<m->vq hd k Y t m p (p.length:Int)=Y t:=by
 obtain ⟨o1,o2,o3,o4,o5,o6,o7⟩:=ht.no
 intro r
 induction r with
 |nil=>
  intro p m h hm
  obtain ⟨m,rfl,hm'⟩:=aq hm
  simp only [vq,xE,cV h,ah]
  have:=amS hk Y ht hQ' (ks:=p) t.sys [] k rfl (by omega)
  refine ak this ?_
  have hp:p=t.kids:=by grind
  subst hp
  cases t;rfl
 |cons y r ih=>
  intro p m h hm
  obtain ⟨m,rfl,hm'⟩:=aq hm
  obtain ⟨e1,e2,e3,e4⟩:=aR h (by omega)
  grind [vq,xE,aj,aA,bn]
end
theorem ar2 (t:Tm):OkT t-> ∀ {k:Nat} (Y:Tm->OS S),Fd k (aw t)->mu k t Y=Y t:=by
 induction t using eI with
 |h t ih1 ih2=>
  intro ht k Y hk
  obtain ⟨q,rfl,hq,hf⟩:=hk.pos' (du t)
  obtain ⟨o1,o2,o3,o4,o5,o6,o7⟩:=ht.no
  simp only [mu,Og]
  rw [bn (by grind)]
  exact amR hq Y ht (fun y hy g=>ih1 y hy (ht.ki hy) g (hf _ (dc hy))) (fun b hb y hy g=>ih2 b hb y hy ((ht.bi hb).2 y hy) g (hf _ (di hb hy))) t.kids [] q rfl (by omega)
def bt (sys:LB):Tm:= .mk 15 0 au [] [.mk 3 0 au [] [] [],.mk 3 0 au [] [] []] sys
theorem YM (hk:Fu k) (sys:LB) (Y:Int×Int×BA×LT×LB->OS S):tN k sys Y=Y (15,0,au,[.mk 3 0 au [] [] [],.mk 3 0 au [] [] []],sys):=by
 simp_all [tN,c8,al]
theorem X2 (hk:Fu k) (sys:LB) (Y:Tm->OS S):yV k 15 sys Y=Y (bt sys):=by
 obtain ⟨q,hq⟩: ∃q,k=q+3:=⟨k-3,by omega⟩
 have h2:fK 15=2:=by rfl
 have hj:vz k Y 15 sys k [] 0=Y (bt sys):=by
  have: ∀j,j=q+3->vz k Y 15 sys j [] 0=Y (bt sys):=by
   rintro j rfl
   simp only [vz,IN,al hk,YC,h2,show decide ((0:Int)<2)=true from rfl,aj]
   rfl
  grind
 grind [yV,Ov]
def ay (b:Br Tm):Tm:=b.kids.headD aH
structure SyF (sys:LB):Prop where
 kid: ∀b∈sys,b.kids=[ay b]/\Fm (ay b)/\aI b.face/\b.face.length<1073741824
 len:sys.length<=20000
 siz:aX sys<=20000
theorem kX {sys:LB} (h:Fm (bt sys)):SyF sys:=by
 obtain ⟨h1,h2,h3⟩:=h8 h.2
 have hz:ax (bt sys)=3+aX sys:=by rfl
 have hd:bg sys+1<=aw (bt sys):=by grind [bt,aw]
 unfold bt at h3
 rw [bM] at h3
 simp only [aZ] at h3
 obtain ⟨_,ho,_,hS⟩:=h3
 have ho:(sys.all (cO 15 24)&&decide (([]:LC).length=0))=true:=by
  grind [dE]
 simp only [aZ] at ho
 have hb:=dA.1 ho.1
 rw [BB,dA] at hS
 have hk: ∀b∈sys,b.kids=[ay b]/\Fm (ay b)/\aI b.face/\b.face.length<1073741824:=by
  intro b hb'
  have h1':=hb b hb'
  unfold cO at h1'
  simp only [aZ,decide_eq_true_eq] at h1'
  have hl:b.kids.length=1:=by grind [dF]
  have hok:=h.1.br (by exact hb':b∈sys)
  match hb2:b.kids,hl with
  |[x],_=>
   have hx:ay b=x:=by grind [ay]
   have hmem:x∈b.kids:=by grind
   rw [hx]
   refine ⟨rfl,⟨hok.2 x hmem,rG ?_ ?_ ?_⟩,hok.1.1,hok.1.2.1⟩
   ·have:=JB hmem;have:=PG hb';omega
   ·have:=kS hmem;have:=ti hb';omega
   ·have:=dA.1 (hS b hb') x hmem
    rw [<-this]
    exact nu x (by omega) (by decide)
 have hlen: ∀l:LB,(∀b∈l,b.kids=[ay b])->l.length<=aX l:=by
  intro l
  induction l<;>grind [aX,m9,aK,l7]
 exact ⟨hk,by grind,by omega⟩
def lj (line:Tm):LB->Except Int (LB)
 |[]=> .ok []
 |b::r=>bE (eY [⟨1,0⟩,⟨2,0⟩] line) fun u=>bE (lj line r) fun l=> .ok (.mk b.face [.mk 14 0 au [⟨1,0⟩] [u,ay b] []]::l)
def g9 (line a:Tm) (sys:LB):Except Int Tm:=bE (dY 0 [⟨0,0⟩] line) fun l1=>bE (lj line sys) fun l=> .ok (.mk 15 0 au [] [l1,aD 14 [line,a]] l)
theorem Xz:RF [⟨1,0⟩,⟨2,0⟩]:=by
 refine ⟨by rfl,fun c hc=> ?_⟩
 simp only [gc,List.not_mem_nil,or_false] at hc
 rcases hc with rfl|rfl
 ·exact ⟨⟨by decide,by decide⟩,by decide,by decide⟩
 ·exact ⟨⟨by decide,by decide⟩,by decide,by decide⟩
theorem A3:RF [⟨0,0⟩]:=kP ⟨⟨by decide,by decide⟩,by decide,by decide⟩
theorem aoy:aI [⟨1,0⟩]:=fun c hc=>by grind [aoA]
theorem Y7 {r:LC} {t y:Tm} (ht:Fm t) (h:dY 0 r t= .ok y):OkT y/\aw y<=200/\ax y<=20000:=by
 obtain ⟨w1,w2,w3,w4⟩:=Y8 h
 have h4:=w4 ht.ok ht.rows
 have:=ht.dep;have:=ht.siz
 grind
theorem agu {line:Tm}: ∀ {r:LB} {e:Int},lj line r= .error e->0<e/\e<=1000:=by
 intro r
 induction r with
 |nil=>intro e h;cases h
 |cons b r ih=>
  intro e h
  rcases ba h with h|⟨_,_,h⟩<;>grind [ba,oU]
theorem tL {line a:Tm} {sys:LB} {e:Int} (h:g9 line a sys= .error e):0<e/\e<=1000:=by
 rcases ba h with h|⟨_,_,h⟩
 ·exact tl h
 rcases ba h with h|⟨_,_,h⟩
 ·exact agu h
 simp_all
theorem agv {line:Tm} (hl:Fm line): ∀ {r l:LB},(∀b∈r,b.kids=[ay b]/\Fm (ay b)/\aI b.face/\b.face.length<1073741824)->lj line r= .ok l->bH l/\bg l<=201/\aX l<=r.length*20001+aX r/\l.length=r.length:=by
 intro r
 induction r with
 |nil=>
  intro l _ h
  injection h with h;grind [bH,bg]
 |cons b r ih=>
  intro l hr h
  obtain ⟨u,h1,h⟩:=aY h
  obtain ⟨l',h2,h⟩:=aY h
  injection h with h;subst h
  obtain ⟨b1,b2,b3,b4⟩:=hr b (by simp)
  obtain ⟨i1,i2,i3,i4⟩:=ih (fun b hb=>hr b (by simp [hb])) h2
  obtain ⟨a1,a2,a3,a4⟩:=Pi hl h1
  have:=b2.dep
  refine ⟨?_, ?_, ?_,by simp [i4]⟩
  ·rw [bH,iH,bo,bo,OkT,bo,bo,bo,bH]
   refine ⟨⟨⟨b3,b4,by simp⟩,⟨⟨by unfold a6;omega,by unfold a6;omega,by simp,aoy,by simp,by simp,by simp⟩,⟨a1,b2.ok,trivial⟩,trivial⟩,trivial⟩,i1⟩
  all_goals grind [bg,iP,a7,aw,aX,aK,ax,m9]
theorem Dc (hk:F3 k) {line a:Tm} {sys:LB} (hl:Fm line) (ha:Fm a) (hs:SyF sys) {t:Tm} (h:g9 line a sys= .ok t):In k t/\0<=t.kind:=by
 obtain ⟨l1,h1,h⟩:=aY h
 obtain ⟨l,h2,h⟩:=aY h
 injection h with h;subst h
 obtain ⟨a1,a2,a3⟩:=Y7 hl h1
 obtain ⟨i1,i2,i3,i4⟩:=agv hl hs.kid h2
 have:=hs.len;have:=hs.siz;have:=hl.dep;have:=ha.dep;have:=hl.siz;have:=ha.siz
 have hm:sys.length*20001<=20000*20001:=jG _ hs.len
 refine ⟨⟨?_,hk.fd ?_, ?_⟩,(by decide:(0:Int)<=15)⟩
 ·rw [OkT,bo,bo,bo]
  exact ⟨⟨by unfold a6;omega,by unfold a6;omega,by simp,fun c hc=>(by cases hc),by simp,by simp,by omega⟩,⟨a1,LA (by omega) (by simp) fun x hx=>by
   simp at hx
   rcases hx with rfl|rfl
   ·exact hl.ok
   ·exact ha.ok,trivial⟩,i1⟩
 ·grind [aD,aw,a7,bg]
 ·unfold aD;rw [ax,aK,aK,aK,ax,aK,aK,aK,aX];omega
theorem aq7 (hk:F3 k) {c:Int} {t:Tm} (h:c=0->Fm t) (Y:Tm×Int->OS S):Dk k t c Y=Y (if c=0 then tE (dY 0 [⟨0,0⟩] t) else (aH,c)):=by
 simp only [Dk,al hk.fu,eT,cH,ri,aA]
 by_cases hc:c=0
 ·grind [ah,MS,A3,wH]
 ·rw [decide_eq_false hc,ca,aj,if_neg hc];rfl
theorem KK (hk:F3 k) (Y:Tm×Int->OS S) {line:Tm} {q:Int×Int×BA×LT} {w:Tm} {c:Int} (hc:c≠0) (hw:w.sys.length<1073741824):
  ∀ (r p acc:LB) (m:Nat),w.sys=p++r->0<m->nZ k Y line q w m c acc (p.length:Int)=Y (aH,c):=by
 intro r p acc m h hm
 obtain ⟨m,rfl⟩: ∃j,m=j+1:=⟨m-1,by omega⟩
 cases r with
 |nil=>grind [nZ,tu,ah,aA,al,wE]
 |cons x r=>
  obtain ⟨e1,e2,e3,e4⟩:=aR h (by omega)
  grind [nZ,tu,aj,eT,aA,al,wE]
theorem alO (hk:F3 k) (Y:Tm×Int->OS S) {line:Tm} (hl:Fm line) {q:Int×Int×BA×LT} {w:Tm} (hw:w.sys.length<1073741824) (hs: ∀b∈w.sys,b.kids=[ay b]):
  ∀ (r p acc:LB) (m:Nat),w.sys=p++r->r.length<m->acc.length+r.length<1073741824->
   nZ k Y line q w m 0 acc (p.length:Int)=eE (lj line r) (fun l=>g_ k (.mk q.1 q.2.1 q.2.2.1 [] q.2.2.2 (acc++l)) 0 fun z=>Y (z.1,z.2.1)) fun e=>Y (aH,e):=by
 intro r
 induction r with
 |nil=>
  intro p acc m h hm ha
  obtain ⟨m,rfl,hm'⟩:=aq hm
  simp only [nZ,tu,cV h,ah,al hk.fu,aA,lj,bA,dZ]
 |cons x r ih=>
  intro p acc m h hm ha
  obtain ⟨m,rfl,hm'⟩:=aq hm
  obtain ⟨e1,e2,e3,e4⟩:=aR h (by omega)
  have hx:=hs x (by grind)
  have hg:ai x.kids 0=some (ay x):=by rw [hx];rfl
  have hat: ∀g:Tm×Int->OS S,o9 k line [⟨1,0⟩,⟨2,0⟩] 0 g=g (tE (eY [⟨1,0⟩,⟨2,0⟩] line)):=fun g=>X7 hk hl Xz g
  simp only [nZ,tu,e1,aj,e2,aJ,al hk.fu,eT,cH,show decide ((0:Int)=0)=true from rfl,bY,ah,aA,hat,hg,c8]
  rw [bn (by grind),lj,bq]
  cases hx2:eY [⟨1,0⟩,⟨2,0⟩] line with
  |error e=>
   have he:=oU hx2
   rw [e3]
   exact KK hk Y (show e≠0 by omega) hw r (p++[x]) _ m e4 (by grind)
  |ok u=>
   rw [bA,bq,e3]
   refine (ih (p++[x]) (acc++[.mk x.face [.mk 14 0 au [⟨1,0⟩] [u,ay x] []]]) m e4 hm' (by grind)).trans ?_
   grind [bA]
theorem aqz (hk:F3 k) {line a:Tm} {sys:LB} (hl:In k line) (ha:In k a) (hs:In k (bt sys)) (Y:Tm×Int->OS S):Dg k line a sys Y=Y (tE (cj [line,a,bt sys] (g9 line a sys))):=by
 have hin: ∀x∈[line,a,bt sys],In k x:=fun x hx=>by
  grind
 have hfm:cE [line,a,bt sys]=0-> ∀x∈[line,a,bt sys],Fm x:=fun h=>qC (fun x hx=>(hin x hx).1) h
 have hsl:sys.length<1073741824:=hs.1.node.2.2.2.2.2.2
 simp only [Dg,Nl,al hk.fu,aA,YM hk.fu]
 have hb: ∀g:Int->OS S,o8 k [line,a,.mk 15 0 au [] [.mk 3 0 au [] [] [],.mk 3 0 au [] [] []] sys] g=g (cE [line,a,bt sys]):=fun g=>MV hk hin (by simp) g
 have hc: ∀g:Tm->OS S,fc k (.mk 15 0 au [] [.mk 3 0 au [] [] [],.mk 3 0 au [] [] []] sys) g=g (bt sys):=fun g=>td (bt sys) hs.1 g hs.2.1
 simp only [hb,hc,td line hl.1 _ hl.2.1,td a ha.1 _ ha.2.1,aq7 hk (fun h=>hfm h line (by simp)),c8]
 unfold cj
 by_cases h0:cE [line,a,bt sys]=0
 ·have fl:=hfm h0 line (by simp)
  have fa:=hfm h0 a (by simp)
  have sy:=kX (hfm h0 (bt sys) (by simp))
  simp only [h0,if_true]
  have hret:Y (tE (il (g9 line a sys)))=eE (g9 line a sys) (fun t=>g_ k t 0 fun z=>Y (z.1,z.2.1)) fun e=>Y (aH,e):=by
   unfold il
   rw [j9 _ Y,bq]
   refine de (fun t ht=> ?_) fun _ _=>rfl
   rw [<-j9 _ Y]
   exact ((MX hk (t:=t) (c:=0) (fun _=>(Dc hk fl fa sy ht).1) Y).trans rfl).symm
  rw [hret]
  unfold g9
  rw [bq]
  cases h1:dY 0 [⟨0,0⟩] line with
  |error e=>
   have he:=tl h1
   exact KK hk Y (w:=bt sys) (show e≠0 by omega) hsl sys [] [] k rfl (by omega)
  |ok l1=>
   rw [bA,bq]
   refine (alO hk Y fl (w:=bt sys) hsl (fun b hb=>(sy.kid b hb).1) sys [] [] k rfl (by omega) (by grind)).trans ?_
   rfl
 ·simp only [if_neg h0]
  exact KK hk Y (w:=bt sys) h0 hsl sys [] [] k rfl (by omega)
theorem qx (hk:F3 k) {kd n:Int} {nm:BA} {r:LC} {ks:LT} {acc:LB} (hkd:0<=kd) (hacc:acc.length<1073741824) {f:LC} {x:Except Int Tm} (hx:Gd x) (Y:Tm->OS S):
  eU k (.mk kd n nm r ks acc) f (rE x) Y=Y (rE (bE x fun y=> .ok (.mk kd n nm r ks (acc++[.mk f [y]])))):=by
 simp only [eU,aA]
 rw [show decide ((Tm.mk kd n nm r ks acc).kind<0)=false from decide_eq_false (show ¬kd<0 by omega),ah]
 cases x with
 |error e=>rw [show rE (.error e)=bD e from rfl,fj (hx.en e rfl).1,aj];rfl
 |ok y=>
  rw [show rE (.ok y)=y from rfl,decide_eq_false (by have:=hx.kd y rfl;omega),ah,bn (n:=([]:LB).length) (m:=(Tm.mk kd n nm r ks acc).sys.length) (by show 0+acc.length<=_;omega),bn (by show acc.length+1<=_;omega)];rfl
theorem RH (hk:F3 k) (Y:Tm->OS S) {line:Tm} {sys:LB} {e:Int} (he:0<e) (hsl:sys.length<1073741824):
  ∀ (r p:LB) (m:Nat),sys=p++r->0<m->mL k Y line sys m (bD e) (p.length:Int)=Y (bD e):=by
 intro r p m h hm
 obtain ⟨m,rfl⟩: ∃j,m=j+1:=⟨m-1,by omega⟩
 have hb:decide ((bD e).kind>=0)=false:=decide_eq_false (show ¬ (-e>=0) by omega)
 cases r with
 |nil=>grind [mL,tz,ah,aA]
 |cons x r=>
  obtain ⟨e1,e2,e3,e4⟩:=aR h (by omega)
  grind [mL,tz,aj,ah,aA]
theorem amQ (hk:F3 k) (Y:Tm->OS S) {line:Tm} (hl:Fm line) {sys:LB} (hsl:sys.length<1073741824) (hs: ∀b∈sys,b.kids=[ay b]/\Fm (ay b)) {ks:LT}:
  ∀ (r p acc:LB) (m:Nat),sys=p++r->r.length<m->acc.length+r.length<1073741824->
   mL k Y line sys m (.mk 15 0 au [] ks acc) (p.length:Int)=Y (rE (bE (lj line r) fun l=> .ok (.mk 15 0 au [] ks (acc++l)))):=by
 intro r
 induction r with
 |nil=>
  intro p acc m h hm ha
  obtain ⟨m,rfl,hm'⟩:=aq hm
  simp only [mL,tz,cV h,ah,aA,lj,aF,dZ];rfl
 |cons x r ih=>
  intro p acc m h hm ha
  obtain ⟨m,rfl,hm'⟩:=aq hm
  obtain ⟨e1,e2,e3,e4⟩:=aR h (by omega)
  obtain ⟨hx,hxf⟩:=hs x (by grind)
  have hg:ai x.kids 0=some (ay x):=by rw [hx];rfl
  have hkd:decide ((Tm.mk 15 0 au [] ks acc).kind>=0)=true:=rfl
  have hfar: ∀g:Tm->OS S,rp k line [⟨1,0⟩,⟨2,0⟩] g=g (rE (eY [⟨1,0⟩,⟨2,0⟩] line)):=fun g=>X0 hk hl Xz g
  have ga:Gd (eY [⟨1,0⟩,⟨2,0⟩] line):=⟨fun e h=>oU h,fun t h=>by rw [Ph h];exact hl.rows.no.2.2⟩
  have htwo: ∀g:Tm->OS S,cG k 14 (rE (eY [⟨1,0⟩,⟨2,0⟩] line)) (ay x) g=g (rE (bE (eY [⟨1,0⟩,⟨2,0⟩] line) fun u=> .ok (aD 14 [u,ay x]))):=fun g=>jy hk (y:= .ok (ay x)) ga (h9 hxf.rows.no.2.2) g
  simp only [mL,tz,e1,aj,hkd,e2,aJ,al hk.fu,aA,hfar,hg,htwo]
  rw [lj]
  cases hx2:eY [⟨1,0⟩,⟨2,0⟩] line with
  |error e=>
   have he:=oU hx2
   have hb:decide ((bD e).kind>=0)=false:=decide_eq_false (show ¬ (-e>=0) by omega)
   grind [cA,rE,ah,qx,RH]
  |ok u=>
   rw [aF,aF,show rE (.ok (aD 14 [u,ay x]))=aD 14 [u,ay x] from rfl,show decide ((aD 14 [u,ay x]).kind>=0)=true from rfl,aj]
   have:=qx hk (kd:=15) (n:=0) (nm:=au) (r:=[]) (ks:=ks) (acc:=acc) (by decide) (by omega) (f:=x.face) (x:= .ok (.mk 14 0 au [⟨1,0⟩] [u,ay x] [])) (h9 (show (0:Int)<=14 by decide)) fun r9=>mL k Y line sys m r9 (af .i64 ((p.length:Int)+1))
   refine this.trans ?_
   rw [aF,e3]
   refine (ih (p++[x]) (acc++[.mk x.face [.mk 14 0 au [⟨1,0⟩] [u,ay x] []]]) m e4 hm' (by grind)).trans ?_
   congr 2
   cases lj line r with
   |error e=>rfl
   |ok l=>grind [aF]
theorem aqA (hk:F3 k) {line a:Tm} {sys:LB} (hl:Fm line) (ha:Fm a) (sy:SyF sys) (Y:Tm->OS S):yW k line a sys Y=Y (rE (g9 line a sys)):=by
 have gt:Gd (dY 0 [⟨0,0⟩] line):=⟨fun e h=>tl h,fun t h=>by rw [Ha h];exact hl.rows.no.2.2⟩
 have h14: ∀g:Tm->OS S,cG k 14 line a g=g (aD 14 [line,a]):=fun g=>jy hk (x:= .ok line) (y:= .ok a) (h9 hl.rows.no.2.2) (h9 ha.rows.no.2.2) g
 have h15: ∀g:Tm->OS S,cG k 15 (rE (dY 0 [⟨0,0⟩] line)) (aD 14 [line,a]) g=g (rE (bE (dY 0 [⟨0,0⟩] line) fun l1=> .ok (aD 15 [l1,aD 14 [line,a]]))):=fun g=>jy hk (y:= .ok (aD 14 [line,a])) gt (lz (by decide) _) g
 have hsl:=sy.len
 simp only [yW,Ow,al hk.fu,aA,GP hk hl (show (0:Int)<=0/\(0:Int)<24 by omega) A3,h14,h15]
 rw [decide_eq_false (by have:=hl.rows.no.2.2;omega),ah]
 unfold g9
 cases h1:dY 0 [⟨0,0⟩] line with
 |error e=>
  have he:=tl h1
  exact RH hk Y he.1 (by omega) sys [] k rfl (by omega)
 |ok l1=>
  rw [aF,aF]
  exact amQ hk Y hl (by omega) (fun b hb=>⟨(sy.kid b hb).1,(sy.kid b hb).2.1⟩) sys [] [] k rfl (by omega) (by grind)
theorem ar1 (hk:F3 k) {line a:Tm} {sys:LB} (hl:In k line) (ha:In k a) (hs:In k (bt sys)) (Y:Tm×Int->OS S):Et k line a sys Y=Y (tE (cj [line,a,bt sys] (g9 line a sys))):=by
 have hin: ∀x∈[line,a,bt sys],In k x:=fun x hx=>by
  grind
 have hfm:cE [line,a,bt sys]=0-> ∀x∈[line,a,bt sys],Fm x:=fun h=>qC (fun x hx=>(hin x hx).1) h
 simp only [Et,al hk.fu,aA,X2 hk.fu]
 exact M8 hk hin (by simp) (F:=yW k line a sys) (fun h g=>aqA hk (hfm h line (by simp)) (hfm h a (by simp)) (kX (hfm h (bt sys) (by simp))) g)
  (fun h=>⟨fun e he=>tL he,fun t ht=>Dc hk (hfm h line (by simp)) (hfm h a (by simp)) (kX (hfm h (bt sys) (by simp))) ht⟩) Y
def kH:LB->Except Int (LB)
 |[]=> .ok []
 |b::r=>bE (d9 (bP b.face 0 1)) fun f=>bE (eY [⟨3,0⟩] (ay b)) fun u=>bE (kH r) fun l=> .ok (.mk f [u]::l)
def d6 (t a:Tm) (sys:LB):Except Int Tm:=bE (av 0 1 t) fun t'=>bE (av 0 1 a) fun a'=>bE (kH sys) fun l=>bE (av 0 2 a) fun a2=> .ok (.mk 15 0 au [] [t',a'] (l++[.mk [⟨0,1⟩] [a2]]))
theorem ajQ: ∀ {r:LB} {e:Int},kH r= .error e->0<e/\e<=1000:=by
 intro r
 induction r with
 |nil=>intro e h;cases h
 |cons b r ih=>
  intro e h
  rcases ba h with h|⟨_,_,h⟩<;>grind [ba,OT,sG,oU]
theorem mD {t a:Tm} {sys:LB} {e:Int} (h:d6 t a sys= .error e):0<e/\e<=1000:=by
 rcases ba h with h|⟨_,_,h⟩
 ·exact bN h
 rcases ba h with h|⟨_,_,h⟩
 ·exact bN h
 rcases ba h with h|⟨_,_,h⟩
 ·exact ajQ h
 rcases ba h with h|⟨_,_,h⟩
 ·exact bN h
 simp_all
theorem ajR: ∀ {r l:LB},(∀b∈r,b.kids=[ay b]/\Fm (ay b)/\aI b.face/\b.face.length<1073741824)->kH r= .ok l->bH l/\bg l<=201/\aX l<=r.length*20001/\l.length=r.length:=by
 intro r
 induction r with
 |nil=>
  intro l _ h
  injection h with h;grind [bH,bg,aX]
 |cons b r ih=>
  intro l hr h
  obtain ⟨f,h0,h⟩:=aY h
  obtain ⟨u,h1,h⟩:=aY h
  obtain ⟨l',h2,h⟩:=aY h
  injection h with h;subst h
  obtain ⟨b1,b2,b3,b4⟩:=hr b (by simp)
  obtain ⟨i1,i2,i3,i4⟩:=ih (fun b hb=>hr b (by simp [hb])) h2
  obtain ⟨a1,a2,a3,a4⟩:=Pi b2 h1
  obtain ⟨g1,rfl⟩:=qF h0
  have hf:=mP g1
  have:=hf.len
  refine ⟨?_, ?_, ?_,by simp [i4]⟩
  ·rw [bH,iH,bo,bo]
   exact ⟨⟨⟨hf.2,by omega,by simp⟩,a1,trivial⟩,i1⟩
  all_goals grind [bg,iP,a7,aX,g4,aK]
theorem aow {l l':LB} (h:bH l) (h':bH l'):bH (l++l'):=by
 grind [T8]
theorem agG (l l':LB):bg (l++l')=max (bg l) (bg l'):=by
 induction l<;>grind [bg]
theorem ast (l l':LB):aX (l++l')=aX l+aX l':=by
 induction l<;>grind [aX]
theorem aox:aI [⟨0,1⟩]:=fun c hc=>by grind [aoz]
theorem uB (hk:F3 k) {t a:Tm} {sys:LB} (ht:Fm t) (ha:Fm a) (hs:SyF sys) {x:Tm} (h:d6 t a sys= .ok x):In k x/\0<=x.kind:=by
 obtain ⟨t',h1,h⟩:=aY h
 obtain ⟨a',h2,h⟩:=aY h
 obtain ⟨l,h3,h⟩:=aY h
 obtain ⟨a2,h4,h⟩:=aY h
 injection h with h;subst h
 have f1:=dK (by omega) ht h1
 have f2:=dK (by omega) ha h2
 have f4:=dK (by omega) ha h4
 obtain ⟨i1,i2,i3,i4⟩:=ajR hs.kid h3
 have:=hs.len;have:=f1.dep;have:=f2.dep;have:=f4.dep;have:=f1.siz;have:=f2.siz;have:=f4.siz
 have hm:sys.length*20001<=20000*20001:=jG _ hs.len
 refine ⟨⟨?_,hk.fd ?_, ?_⟩,(by decide:(0:Int)<=15)⟩
 ·rw [OkT,bo,bo,bo]
  refine ⟨⟨by unfold a6;omega,by unfold a6;omega,by simp,fun c hc=>(by cases hc),by simp,by simp,by grind⟩,⟨f1.ok,f2.ok,trivial⟩,aow i1 ?_⟩
  rw [bH,bH,iH,bo,bo]
  exact ⟨⟨⟨aox,by simp,by simp⟩,f4.ok,trivial⟩,trivial⟩
 all_goals grind [aw,a7,agG,bg,iP,ax,aK,ast,aX,g4]
theorem zJ (hk:F3 k) (Y:Tm×Int->OS S) {a:Tm} {q:Int×Int×BA×LT} {sys:LB} {c:Int} (hc:c≠0) (hsl:sys.length<1073741824):
  ∀ (r p acc:LB) (m:Nat),sys=p++r->0<m->acc.length<1073741824->kK k Y a q sys m c acc (p.length:Int)=Y (aH,c):=by
 intro r p acc m h hm ha
 obtain ⟨m,rfl⟩: ∃j,m=j+1:=⟨m-1,by omega⟩
 have hr: ∀ (b:Br Tm) (f:Unit->OS S),ag (aS 1099511627776 acc.length [b].length) f=f ():=fun b f=>bn (by grind) f
 cases r with
 |nil=>grind [kK,tv,ah,aA,al,M_,wE]
 |cons x r=>
  obtain ⟨e1,e2,e3,e4⟩:=aR h (by omega)
  grind [kK,tv,aj,eT,aA,al,M_,wE]
theorem al9 (hk:F3 k) (Y:Tm×Int->OS S) {a:Tm} (ha:Fm a) {q:Int×Int×BA×LT} {sys:LB} (hsl:sys.length<1073741824) (hs: ∀b∈sys,b.kids=[ay b]/\Fm (ay b)/\aI b.face/\b.face.length<1073741824):
  ∀ (r p acc:LB) (m:Nat),sys=p++r->r.length<m->acc.length+r.length<1073741823->
   kK k Y a q sys m 0 acc (p.length:Int)=eE (bE (kH r) fun l=>bE (av 0 2 a) fun a2=> .ok (l++[.mk [⟨0,1⟩] [a2]])) (fun l=>g_ k (.mk q.1 q.2.1 q.2.2.1 [] q.2.2.2 (acc++l)) 0 fun z=>Y (z.1,z.2.1)) fun e=>Y (aH,e):=by
 intro r
 induction r with
 |nil=>
  intro p acc m h hm hacc
  obtain ⟨m,rfl,hm'⟩:=aq hm
  have hr: ∀ (b:Br Tm) (f:Unit->OS S),ag (aS 1099511627776 acc.length [b].length) f=f ():=fun b f=>bn (by grind) f
  have hup: ∀g:Tm×Int->OS S,eB k a 0 2 0 g=g (tE (av 0 2 a)):=fun g=>YL hk ha (by omega) (by omega) g
  simp only [kK,tv,cV h,ah,al hk.fu,aA,hup,hr,kH,aF]
  cases hu:av 0 2 a with
  |error e=>
   have he:=bN hu
   show g_ k _ e _=Y (aH,e)
   grind [wE]
  |ok a2=>rfl
 |cons x r ih=>
  intro p acc m h hm hacc
  obtain ⟨m,rfl,hm'⟩:=aq hm
  obtain ⟨e1,e2,e3,e4⟩:=aR h (by omega)
  obtain ⟨x1,x2,x3,x4⟩:=hs x (by grind)
  have hg:ai x.kids 0=some (ay x):=by rw [x1];rfl
  have hr: ∀ (b:Br Tm) (f:Unit->OS S),ag (aS 1099511627776 acc.length [b].length) f=f ():=fun b f=>bn (by grind) f
  have hrow: ∀g:LC×Int->OS S,yn k x.face 0 g=g (bP x.face 0 1):=fun g=>asc hk x3 x4 g
  simp only [kK,tv,e1,aj,e2,aJ,al hk.fu,eT,cH,show decide ((0:Int)=0)=true from rfl,bY,ah,aA,hrow,hg,hr]
  rw [kH,bq,bq]
  by_cases h1:(bP x.face 0 1).2=0
  ·rw [kV h1,bA,h1,X7 hk x2 XA,bq]
   cases h2:eY [⟨3,0⟩] (ay x) with
   |error e=>
    have he:=oU h2
    rw [e3]
    exact zJ hk Y (show e≠0 by omega) hsl r (p++[x]) _ m e4 (by grind) (by grind)
   |ok u=>
    rw [bA,e3]
    refine (ih (p++[x]) (acc++[.mk (bP x.face 0 1).1 [u]]) m e4 hm' (by grind)).trans ?_
    rw [bq,bq]
    refine de (fun l _=> ?_) fun _ _=>rfl
    grind [bq,bA]
  ·rw [kg h1,aqX h1 hk,e3]
   exact zJ hk Y h1 hsl r (p++[x]) _ m e4 (by grind) (by grind)
theorem aqI (hk:F3 k) {t a:Tm} {sys:LB} (ht:In k t) (ha:In k a) (hs:In k (bt sys)) (Y:Tm×Int->OS S):Di k t a sys Y=Y (tE (cj [t,a,bt sys] (d6 t a sys))):=by
 have hin: ∀x∈[t,a,bt sys],In k x:=fun x hx=>by
  grind
 have hfm:cE [t,a,bt sys]=0-> ∀x∈[t,a,bt sys],Fm x:=fun h=>qC (fun x hx=>(hin x hx).1) h
 have hsl:sys.length<1073741824:=hs.1.node.2.2.2.2.2.2
 have hb: ∀g:Int->OS S,o8 k [t,a,.mk 15 0 au [] [.mk 3 0 au [] [] [],.mk 3 0 au [] [] []] sys] g=g (cE [t,a,bt sys]):=fun g=>MV hk hin (by simp) g
 simp only [Di,Nm,al hk.fu,aA,YM hk.fu,hb,c8,l6 hk (fun h=>hfm h t (by simp)) (show (0:Int)<=0/\(0:Int)<=1000000 by omega) (show (0:Int)<=1/\(1:Int)<9223372036854775808 by omega),
  l6 hk (fun h=>hfm (kW h) a (by simp)) (show (0:Int)<=0/\(0:Int)<=1000000 by omega) (show (0:Int)<=1/\(1:Int)<9223372036854775808 by omega)]
 unfold cj
 have hfuel:sys.length<k:=by omega
 by_cases h0:cE [t,a,bt sys]=0
 ·have fl:=hfm h0 t (by simp)
  have fa:=hfm h0 a (by simp)
  have sy:=kX (hfm h0 (bt sys) (by simp))
  have hlen:=sy.len
  rw [h0,if_pos rfl,mb]
  have hret:Y (tE (il (d6 t a sys)))=eE (d6 t a sys) (fun t=>g_ k t 0 fun z=>Y (z.1,z.2.1)) fun e=>Y (aH,e):=by
   unfold il
   rw [j9 _ Y,bq]
   refine de (fun t ht=> ?_) fun _ _=>rfl
   rw [<-j9 _ Y]
   exact ((MX hk (t:=t) (c:=0) (fun _=>(uB hk fl fa sy ht).1) Y).trans rfl).symm
  rw [hret]
  unfold d6
  rw [bq]
  cases h1:av 0 1 t with
  |error e=>
   have he:=bN h1
   show kK k Y a _ sys k (bW e 0 1 a).2 [] 0=Y (aH,e)
   rw [jA (show e≠0 by omega)]
   exact zJ hk Y (show e≠0 by omega) hsl sys [] [] k rfl (by omega) (by simp)
  |ok t'=>
   rw [bA,bq]
   show kK k Y a (15,0,au,[t',(bW 0 0 1 a).1]) sys k (bW 0 0 1 a).2 [] 0=_
   rw [mb]
   cases h2:av 0 1 a with
   |error e=>
    have he:=bN h2
    exact zJ hk Y (show e≠0 by omega) hsl sys [] [] k rfl (by omega) (by simp)
   |ok a'=>
    rw [bA]
    refine (al9 hk Y fa hsl sy.kid sys [] [] k rfl hfuel (by grind)).trans ?_
    rw [bq,bq]
    refine de (fun l _=> ?_) fun _ _=>rfl
    rw [bq,bq]
    rfl
 ·rw [if_neg h0,jA h0]
  show kK k Y a _ sys k (bW (cE [t,a,bt sys]) 0 1 a).2 [] 0=_
  rw [jA h0]
  exact zJ hk Y h0 hsl sys [] [] k rfl (by omega) (by simp)
theorem IB (hk:F3 k) {e:Int} (he:0<e) (f:LC) (x:Tm) (Y:Tm->OS S):eU k (bD e) f x Y=Y (bD e):=by
 grind [eU,aA,fj,aj]
theorem KO (hk:F3 k) (Y:Tm->OS S) {a:Tm} (ha:Fm a) {sys:LB} {e:Int} (he:0<e) (hsl:sys.length<1073741824):
  ∀ (r p:LB) (m:Nat),sys=p++r->0<m->ol k Y a sys m (bD e) (p.length:Int)=Y (bD e):=by
 intro r p m h hm
 obtain ⟨m,rfl⟩: ∃j,m=j+1:=⟨m-1,by omega⟩
 have hb:decide ((bD e).kind>=0)=false:=decide_eq_false (show ¬ (-e>=0) by omega)
 have hup: ∀g:Tm->OS S,cY k a 0 2 g=g (rE (av 0 2 a)):=fun g=>fq hk ha (by omega) (by omega) g
 cases r with
 |nil=>grind [ol,tA,ah,aA,al,IB]
 |cons x r=>
  obtain ⟨e1,e2,e3,e4⟩:=aR h (by omega)
  grind [ol,tA,aj,ah,aA,al,IB]
theorem am0 (hk:F3 k) (Y:Tm->OS S) {a:Tm} (ha:Fm a) {sys:LB} (hsl:sys.length<1073741824) (hs: ∀b∈sys,b.kids=[ay b]/\Fm (ay b)/\aI b.face/\b.face.length<1073741824) {ks:LT}:
  ∀ (r p acc:LB) (m:Nat),sys=p++r->r.length<m->acc.length+r.length<1073741823->
   ol k Y a sys m (.mk 15 0 au [] ks acc) (p.length:Int)=Y (rE (bE (bE (kH r) fun l=>bE (av 0 2 a) fun a2=> .ok (l++[.mk [⟨0,1⟩] [a2]])) fun l=> .ok (.mk 15 0 au [] ks (acc++l)))):=by
 have hup: ∀g:Tm->OS S,cY k a 0 2 g=g (rE (av 0 2 a)):=fun g=>fq hk ha (by omega) (by omega) g
 intro r
 induction r with
 |nil=>
  intro p acc m h hm hacc
  obtain ⟨m,rfl,hm'⟩:=aq hm
  have hand: ∀g:Tm->OS S,eU k (.mk 15 0 au [] ks acc) [⟨0,1⟩] (rE (av 0 2 a)) g=_:=fun g=>qx hk (by decide) (by omega) (cP ha) g
  simp only [ol,tA,cV h,ah,aA,al hk.fu,hup,hand,kH,aF]
  congr 2
  cases av 0 2 a with
  |error e=>rfl
  |ok a2=>rfl
 |cons x r ih=>
  intro p acc m h hm hacc
  obtain ⟨m,rfl,hm'⟩:=aq hm
  obtain ⟨e1,e2,e3,e4⟩:=aR h (by omega)
  obtain ⟨x1,x2,x3,x4⟩:=hs x (by grind)
  have hg:ai x.kids 0=some (ay x):=by rw [x1];rfl
  have hkd:decide ((Tm.mk 15 0 au [] ks acc).kind>=0)=true:=rfl
  have hlift: ∀g:LC×Int->OS S,nC k x.face 0 1 g=g (bP x.face 0 1):=fun g=>wI hk.fu x3 x4 (by unfold a6;omega) (by unfold a6;omega) g
  have hfar: ∀g:Tm->OS S,rp k (ay x) [⟨3,0⟩] g=g (rE (eY [⟨3,0⟩] (ay x))):=fun g=>X0 hk x2 XA g
  have ga:Gd (eY [⟨3,0⟩] (ay x)):=⟨fun e h=>oU h,fun t h=>by rw [Ph h];exact x2.rows.no.2.2⟩
  have hand: ∀ (f:LC) (g:Tm->OS S),eU k (.mk 15 0 au [] ks acc) f (rE (eY [⟨3,0⟩] (ay x))) g=g (rE (bE (eY [⟨3,0⟩] (ay x)) fun y=> .ok (.mk 15 0 au [] ks (acc++[.mk f [y]])))):=fun f g=>qx hk (by decide) (by omega) ga g
  simp only [ol,tA,e1,aj,hkd,e2,aJ,al hk.fu,aA,hlift,hg,hfar,hand,cH]
  rw [kH]
  by_cases h1:(bP x.face 0 1).2=0
  ·rw [decide_eq_true h1,bY,ah,kV h1,aF]
   cases h2:eY [⟨3,0⟩] (ay x) with
   |error e=>
    grind [oU,cA,rE,KO]
   |ok u=>
    rw [aF,aF,e3]
    refine (ih (p++[x]) (acc++[.mk (bP x.face 0 1).1 [u]]) m e4 hm' (by grind)).trans ?_
    congr 2
    cases kH r with
    |error e=>rfl
    |ok l=>
     rw [aF,aF,aF]
     cases av 0 2 a with
     |error e=>rfl
     |ok a2=>grind [aF]
  ·rw [decide_eq_false h1,ca,aj,kg h1,jb (OT (sG _ _ _) (kg h1))];rfl
theorem aqJ (hk:F3 k) {t a:Tm} {sys:LB} (ht:Fm t) (ha:Fm a) (sy:SyF sys) (Y:Tm->OS S):y7 k t a sys Y=Y (rE (d6 t a sys)):=by
 have h15: ∀g:Tm->OS S,cG k 15 (rE (av 0 1 t)) (rE (av 0 1 a)) g=g (rE (bE (av 0 1 t) fun x=>bE (av 0 1 a) fun y=> .ok (aD 15 [x,y]))):=fun g=>jy hk (cP ht) (cP ha) g
 have hsl:=sy.len
 simp only [y7,Ox,al hk.fu,aA,fq hk ht (show (0:Int)<=0/\(0:Int)<=1000000000 by omega) (show (0:Int)<=1/\(1:Int)<9223372036854775808 by omega),fq hk ha (show (0:Int)<=0/\(0:Int)<=1000000000 by omega) (show (0:Int)<=1/\(1:Int)<9223372036854775808 by omega),h15]
 have hfuel:sys.length<k:=by omega
 unfold d6
 cases h1:av 0 1 t with
 |error e=>exact KO hk Y ha (bN h1).1 (by omega) sys [] k rfl (by omega)
 |ok t'=>
  rw [aF,aF]
  cases h2:av 0 1 a with
  |error e=>exact KO hk Y ha (bN h2).1 (by omega) sys [] k rfl (by omega)
  |ok a'=>
   rw [aF,aF]
   refine (am0 hk Y ha (by omega) sy.kid (ks:=[t',a']) sys [] [] k rfl hfuel (by grind)).trans ?_
   congr 2
   cases kH sys with
   |error e=>rfl
   |ok l=>
    rw [aF,aF]
    cases av 0 2 a with
    |error e=>rfl
    |ok a2=>rfl
theorem M4 (hk:F3 k) {t a:Tm} {sys:LB} (ht:In k t) (ha:In k a) (hs:In k (bt sys)) (Y:Tm×Int->OS S):y6 k t a sys Y=Y (tE (cj [t,a,bt sys] (d6 t a sys))):=by
 have hin: ∀x∈[t,a,bt sys],In k x:=fun x hx=>by
  grind
 have hfm:cE [t,a,bt sys]=0-> ∀x∈[t,a,bt sys],Fm x:=fun h=>qC (fun x hx=>(hin x hx).1) h
 simp only [y6,al hk.fu,aA,X2 hk.fu]
 exact M8 hk hin (by simp) (F:=y7 k t a sys) (fun h g=>aqJ hk (hfm h t (by simp)) (hfm h a (by simp)) (kX (hfm h (bt sys) (by simp))) g)
  (fun h=>⟨fun e he=>mD he,fun x hx=>uB hk (hfm h t (by simp)) (hfm h a (by simp)) (kX (hfm h (bt sys) (by simp))) hx⟩) Y
end Go.Proofs.YtgajalidbabccaaGreatDoor
