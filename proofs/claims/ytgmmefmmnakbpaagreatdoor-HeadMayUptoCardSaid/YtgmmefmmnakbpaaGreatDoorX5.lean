/- Part 5 of a proof; sources: wip/. -/
import Derived.Test.YtgmmefmmnakbpaaGreatDoorX4
import Derived.KernelRfl
open Bool renaming and_eq_true→qC,not_false→ub,not_true→xJ
open ByteArray renaming empty→qw
open Eq renaming trans→qy
open Go.IntKind renaming wrap→p5
open Int renaming add_zero→xm,le_refl→BF,toNat→BT
open List renaming all_cons→EZ,all_eq_true→zf,append_nil→zr,getElem?_eq_getElem→Bw,length_append→Is,length_cons→uL,length_eq_zero_iff→L3,map_cons→HW,mem_append→zx,mem_cons→BB,mem_map→xq,nil_append→An
open Nat renaming le_refl→zk,le_trans→zj,mul_le_mul_right→Iq
open Option renaming bind→pA,bind_some→rf
set_option linter.unusedVariables false
set_option linter.unusedSimpArgs false
namespace Go.Proofs.YtgmmefmmnakbpaaGreatDoor
set_option maxRecDepth 100000
open Go PI
section
variable {S:Type} {k:Nat}
theorem N3 (n:Int) (u:Tm) (v d kd:Int) (b:Br Tm) (l:LB):IE n u v d kd (b::l)=bE (bE (L7 n u v d kd b.c) fun h=> .ok (.mk b.f h)) fun j=>bE (IE n u v d kd l) fun l'=> .ok (j::l'):=by cases b;rfl
theorem agP (t:Tm) (I:Int->OS S):ze k t I=I (av t.k):=by
 simp only [ze,av]
 by_cases h:t.k=15
 ·rw [h];rfl
 ·rw [beq_false_of_ne h,if_neg h];rfl
theorem Fm.r1 {t:Tm} (h:Fm t) (hk:t.k=1):t.r=[]:=by
 have:=h.own
 obtain ⟨kd,n,j,r,q,sys⟩:=t
 have hk:kd=1:=hk
 subst hk
 unfold cL at this
 simp only [qC,decide_eq_true_eq,if_true] at this
 exact L3.1 this.2.1
section
variable {hd:Tm->Int->Tm->Int->Int->(sH Int Tm->OS S)->OS S} {t u:Tm} {n v d:Int}
theorem afl (hk:Fu k) (I:sH Int Tm->OS S) (j:LB->Int->OS S) {ks:LT} {o:LB} {x:Br Tm} {i:Int} (z:0<=d/\d<4611686018427387904) (A: ∀y∈x.c,∀g:sH Int Tm->OS S,hd y n u v (d+av t.k) g=g (pE (HZ n u v (d+av t.k) y))) (hl:x.c.length<1073741824) (ho:o.length<1073741824):
  ∀ (r p acc:LT) (m:Nat),x.c=p++r->r.length<m->acc.length+r.length<1073741824->
   TI hd k I j t ks o x u n v d i m acc (p.length:Int)=eE (L7 n u v d t.k r) (fun l=>j (o++[.mk x.f (acc++l)]) (p5 .i64 (i+1))) fun e=>I (.gF e):=by
 have B:=IB t.k
 have q:p5 .i64 (d+av t.k)=d+av t.k:=by grind [xi]
 intro r
 induction r with
 |nil=>
  grind [qI,TI,xj,n3,L7,aP,J5]
 |cons y r O=>
  intro p acc m h E ha
  obtain ⟨m,rfl,F⟩:=qI E
  obtain ⟨J,L,M,T⟩:=sX h (by omega)
  rw [uL] at ha
  simp only [TI,xj,J,ae,L,rf,ar,ag hk,agP,q,A y (by grind),M,L7]
  grind [AS,ij,Hg,J5,aP]
theorem afk (hk:Fu k) (I:sH Int Tm->OS S) {ks:LT} (q:p9 t) (j:0<=d/\d<4611686018427387904) (A: ∀b∈t.s,∀y∈b.c,∀g:sH Int Tm->OS S,hd y n u v (d+av t.k) g=g (pE (HZ n u v (d+av t.k) y))):
  ∀ (r p acc:LB) (m:Nat),t.s=p++r->r.length<m->acc.length+r.length<1073741824->
   kw hd k I t ks u n v d m acc (p.length:Int)=eE (IE n u v d t.k r) (fun l=>I (.ok (.mk t.k 0 t.name t.r ks (acc++l)))) fun e=>I (.gF e):=by
 intro r
 induction r with
 |nil=>
  grind [qI,kw,sk,n3,IE,aP]
 |cons x r M=>
  intro p acc m h B ha
  obtain ⟨m,rfl,E⟩:=qI B
  have F:=q.no.2.2.2.2.2.2
  obtain ⟨J,L,O,T⟩:=sX h (by omega)
  have z:x∈t.s:=by grind
  obtain ⟨⟨f1,f2,f3⟩,_⟩:=q.bi z
  rw [uL] at ha
  simp only [kw,sk,J,ae,L,rf]
  rw [J5 (by omega)]
  refine (afl (o:=acc) (i:=(p.length:Int)) hk I (kw hd k I t ks u n v d m) j (A x z) f3 (by omega) x.c [] [] k rfl (by omega) (by grind)).trans ?_
  rw [N3,AS,AS]
  refine Hg (fun l _=> ?_) fun e _=>rfl
  grind [aP,AS]
theorem afj (hk:Fu k) (I:sH Int Tm->OS S) (A:p9 t) (B:0<=v/\v<4611686018427387904) (q:0<=d/\d<4611686018427387904) (E: ∀y∈t.c,∀a b,0<=a/\a<=1->0<=b/\b<=1-> ∀g:sH Int Tm->OS S,hd y n u (v+a) (d+b) g=g (pE (HZ n u (v+a) (d+b) y)))
  (x: ∀b∈t.s,∀y∈b.c,∀g:sH Int Tm->OS S,hd y n u v (d+av t.k) g=g (pE (HZ n u v (d+av t.k) y))):
  ∀ (r p acc:LT) (m:Nat),t.c=p++r->r.length<m->acc.length+r.length<1073741824->
   qj hd k I t u n v d m acc (p.length:Int)=eE (dX n u v d t.k p.length r) (fun l=>eE (IE n u v d t.k t.s) (fun l'=>I (.ok (.mk t.k 0 t.name t.r (acc++l) l'))) fun e=>I (.gF e)) fun e=>I (.gF e):=by
 obtain ⟨Y,o2,o3,o4,o5,o6,o7⟩:=A.no
 intro r
 induction r with
 |nil=>
  intro p acc m h z ha
  obtain ⟨m,rfl,j⟩:=qI z
  simp only [qj,eB,zt h,n3,dX,aP,zr]
  exact afk hk I A q x t.s [] [] k rfl (by omega) (by grind)
 |cons y r F=>
  intro p acc m h z ha
  obtain ⟨m,rfl,j⟩:=qI z
  obtain ⟨J,L,M,O⟩:=sX h (by omega)
  have bv:=g7 t.k p.length
  have bd:=gr t.k p.length
  have T:p5 .i64 (v+tZ t.k p.length)=v+tZ t.k p.length:=by grind [xi]
  have wd:p5 .i64 (d+bJ t.k p.length)=d+bJ t.k p.length:=by grind [xi]
  rw [uL] at ha
  simp only [qj,eB,J,ae,L,rf,ar,ag hk,jE,T,wd,E y (by grind) _ _ bv bd,M,dX]
  rw [AS,ij]
  refine Hg (fun W _=> ?_) fun e _=>rfl
  rw [J5 (by grind),F (p++[y]) (acc++[W]) m O j (by grind),AS,Is,List.length_singleton]
  grind [aP]
end
theorem ajw {u:Tm} {n:Int} (fu:Fm u) (hn:0<=n/\n<=1099511627776) (t:Tm): ∀ {k:Nat} {v d:Int} (I:sH Int Tm->OS S),Fm t->4294968296+am t<=k->0<=v/\v+am t<=1000->0<=d/\d+am t<=1000->gA k t n u v d I=I (pE (HZ n u v d t)):=by
 induction t using c7 with
 |h t E F=>
  intro k v d I ft hk hv hd
  have hp:=HX t
  obtain ⟨q,rfl⟩: ∃q,k=q+1:=⟨k-1,by omega⟩
  have T:F3 q:=by omega
  have x:=T.fu
  have wn:p5 .i64 (n+v)=n+v:=by grind [xi]
  have z:HZ n u v d t=if t.k=1/\t.n=n+v then J6 v d u else bE (dX n u v d t.k 0 t.c) fun J=>bE (IE n u v d t.k t.s) fun A=> .ok (.mk t.k (if t.k=1/\t.n>n+v then t.n-1 else t.n) t.name t.r J A):=by
   obtain ⟨kd,m,nm,r,ks,sys⟩:=t;rfl
  simp only [gA,H2,wn,ag x,ar]
  by_cases h1:t.k=1
  ·obtain ⟨W,Y⟩:=ft.leaf h1
   have L:(t.k==1)=true:=by grind
   rw [L,ae,z]
   by_cases h2:t.n=n+v
   ·rw [h2,beq_self_eq_true,ae,if_pos ⟨h1,rfl⟩,He T fu (by omega) (by omega)]
    cases hh:J6 v d u with
    |error e=>
     have he:=zn hh
     rw [show (tE (.error e)).2=e from rfl,dj (show e≠0 by omega)];rfl
    |ok y=>rfl
   ·rw [beq_false_of_ne h2,n3,if_neg (fun h=>h2 h.2),W,Y,dX,IE,aD,aD]
    have hr:t.r=[]:=ft.r1 h1
    have M:t.name=qw:=ft.nm0 (by omega)
    by_cases B:t.n>n+v
    ·have hi:=ft.ok.no.2.1
     have wt:p5 .i64 (t.n-1)=t.n-1:=by grind [aG,xi]
     rw [decide_eq_true B,ae,if_pos ⟨h1,B⟩,wt,h1,hr,M];rfl
    ·rw [decide_eq_false B,n3,if_neg (fun h=>B h.2),<-W,<-Y]
     cases t;rfl
  ·rw [beq_false_of_ne h1,n3,z,if_neg (fun h=>h1 h.1),if_neg (fun h=>h1 h.1),ft.n0 h1]
   obtain ⟨o1,o2,o3,o4,o5,o6,o7⟩:=ft.ok.no
   rw [J5 (by omega)]
   have hQ: ∀y∈t.c,∀a b,0<=a/\a<=1->0<=b/\b<=1-> ∀g:sH Int Tm->OS S,gA q y n u (v+a) (d+b) g=g (pE (HZ n u (v+a) (d+b) y)):=fun y j a b ha hb g=>by
    have:=bY j
    exact E y j g (ft.bD j) (by omega) (by omega) (by omega)
   have O: ∀b∈t.s,∀y∈b.c,∀g:sH Int Tm->OS S,gA q y n u v (d+av t.k) g=g (pE (HZ n u v (d+av t.k) y)):=fun b hb y j g=>by
    have:=b8 hb j
    have:=IB t.k
    exact F b hb y j g (ft.brk hb j) (by omega) (by omega) (by omega)
   have:=afj (t:=t) (u:=u) (n:=n) (v:=v) (d:=d) x I ft.ok (by omega) (by omega) hQ O t.c [] [] q rfl (by omega) (by grind)
   refine this.trans ?_
   refine qy ?_ (Qx _ I).symm
   simp_all [AS,aP]
section
variable {hd:Tm->(Int->OS S)->OS S} {t:Tm}
theorem af6 (hk:Fu k) (I:Bool×Int->OS S) (j:Int->Int->Int->OS S) {v more:Int} {x:Br Tm} (z: ∀y∈x.c,∀g,hd y g=g ((au y:Nat):Int)) (hl:x.c.length<1073741824):
  ∀ (r p:LT) (m a:Nat),x.c=p++r->r.length<m->a+ay r<4611686018427387904->n4 hd k I j t v x more m (a:Int) (p.length:Int)=j ((a+ay r:Nat):Int) (p5 .i64 (v+1)) more:=by
 intro r
 induction r with
 |nil=>grind [qI,ay,n4,yj,n3]
 |cons y r A=>
  intro p m a h B ha
  obtain ⟨m,rfl,q⟩:=qI B
  obtain ⟨E,F,J,L⟩:=sX h (by omega)
  have M:=z y (by grind)
  have O:a+ay (y::r)=(a+au y)+ay r:=by rw [ay];omega
  rw [O] at ha ⊢
  have T:p5 .i64 ((a:Int)+((au y:Nat):Int))=((a+au y:Nat):Int):=by grind [xi]
  simp only [n4,yj,E,ae,F,rf,ar,ag hk,ug,M,J,T,xJ,n3,A (p++[y]) m (a+au y) L q ha]
theorem af5 (hk:Fu k) (I:Bool×Int->OS S) {more:Int} (B: ∀b∈t.s,∀y∈b.c,∀g,hd y g=g ((au y:Nat):Int)) (hl:t.s.length<1073741824) (j: ∀b∈t.s,b.c.length<1073741824):
  ∀ (r p:LB) (m a:Nat),t.s=p++r->r.length<m->a+aI r<4611686018427387904->kM hd k I t m (a:Int) (p.length:Int) more=I (true,((a+aI r:Nat):Int)):=by
 intro r
 induction r with
 |nil=>grind [qI,aI,kM,tr,n3]
 |cons x r E=>
  intro p m a h F ha
  obtain ⟨m,rfl,q⟩:=qI F
  obtain ⟨J,L,M,O⟩:=sX h (by omega)
  have A:x∈t.s:=by grind
  have z:=j x A
  have T:a+aI (x::r)=(a+ay x.c)+aI r:=by rw [aI,kZ];omega
  rw [T] at ha ⊢
  have:=af6 (t:=t) (v:=(p.length:Int)) (more:=more) hk I (kM hd k I t m) (B x A) z x.c [] k a rfl (by have:=hk;omega) (by omega)
  simp only [kM,tr,J,ae,L,rf]
  refine qy this ?_
  rw [M,E (p++[x]) m (a+ay x.c) O q ha]
theorem af4 (hk:Fu k) (I:Bool×Int->OS S) (B: ∀y∈t.c,∀g,hd y g=g ((au y:Nat):Int)) (q: ∀b∈t.s,∀y∈b.c,∀g,hd y g=g ((au y:Nat):Int)) (A:p9 t):
  ∀ (r p:LT) (m a:Nat),t.c=p++r->r.length<m->a+ay r+aI t.s<4611686018427387904->ix hd k I t m (a:Int) (p.length:Int)=I (true,((a+ay r+aI t.s:Nat):Int)):=by
 obtain ⟨Y,o2,o3,o4,o5,o6,E⟩:=A.no
 intro r
 induction r with
 |nil=>
  intro p m a h x ha
  obtain ⟨m,rfl,j⟩:=qI x
  have z:a+ay []=a:=by rfl
  rw [z] at ha ⊢
  have:=fun more=>af5 (more:=more) hk I q E (fun b hb=>(A.bi hb).1.2.2) t.s [] k a rfl (by omega) ha
  simp only [ix,tq,zt h,n3]
  cases (t.k==15)<;>grind [n3,ae]
 |cons y r F=>
  intro p m a h x ha
  obtain ⟨m,rfl,j⟩:=qI x
  obtain ⟨J,L,M,O⟩:=sX h (by omega)
  have T:=B y (by grind)
  have z:a+ay (y::r)=(a+au y)+ay r:=by rw [ay];omega
  rw [z] at ha ⊢
  have W:p5 .i64 ((a:Int)+((au y:Nat):Int))=((a+au y:Nat):Int):=by grind [xi]
  simp only [ix,tq,J,ae,L,rf,ar,ag hk,jE,ug,T,M,W,xJ,n3,F (p++[y]) m (a+au y) O j ha]
theorem aeA (hk:Fu k) (I:Bool×Int->OS S) (j:Int->Int->Int->OS S) {v more:Int} {x:Br Tm} (z: ∀y∈x.c,∀g,hd y g=g ((am y:Nat):Int)) (hl:x.c.length<1073741824):
  ∀ (r p:LT) (m a:Nat),x.c=p++r->r.length<m->n5 hd k I j t v x more m (a:Int) (p.length:Int)=j ((max a (aH r):Nat):Int) (p5 .i64 (v+1)) more:=by
 intro r
 induction r with
 |nil=>grind [qI,aH,n5,yk,n3]
 |cons y r A=>
  intro p m a h B
  obtain ⟨m,rfl,q⟩:=qI B
  obtain ⟨E,F,J,L⟩:=sX h (by omega)
  have M:=z y (by grind)
  have O:max a (aH (y::r))=max (max a (am y)) (aH r):=by rw [aH];omega
  rw [O]
  have T:(if ((am y:Nat):Int)>(a:Int) then ((am y:Nat):Int) else (a:Int))=((max a (am y):Nat):Int):=by omega
  simp only [n5,yk,E,ae,F,rf,ar,ag hk,iF,M,J,T,xJ,n3,A (p++[y]) m (max a (am y)) L q]
theorem aez (hk:Fu k) (I:Bool×Int->OS S) {more:Int} (B: ∀b∈t.s,∀y∈b.c,∀g,hd y g=g ((am y:Nat):Int)) (hl:t.s.length<1073741824) (j: ∀b∈t.s,b.c.length<1073741824):
  ∀ (r p:LB) (m a:Nat),t.s=p++r->r.length<m->kN hd k I t m (a:Int) (p.length:Int) more=I (true,((max a (aO r):Nat):Int)):=by
 intro r
 induction r with
 |nil=>grind [qI,aO,kN,tu,n3]
 |cons x r E=>
  intro p m a h F
  obtain ⟨m,rfl,q⟩:=qI F
  obtain ⟨J,L,M,O⟩:=sX h (by omega)
  have A:x∈t.s:=by grind
  have z:=j x A
  have T:max a (aO (x::r))=max (max a (aH x.c)) (aO r):=by rw [aO,pD];omega
  rw [T]
  have:=aeA (t:=t) (v:=(p.length:Int)) (more:=more) hk I (kN hd k I t m) (B x A) z x.c [] k a rfl (by have:=hk;omega)
  simp only [kN,tu,J,ae,L,rf]
  refine qy this ?_
  rw [M,E (p++[x]) m (max a (aH x.c)) O q]
theorem aey (hk:Fu k) (I:Bool×Int->OS S) (B: ∀y∈t.c,∀g,hd y g=g ((am y:Nat):Int)) (q: ∀b∈t.s,∀y∈b.c,∀g,hd y g=g ((am y:Nat):Int)) (A:p9 t):
  ∀ (r p:LT) (m a:Nat),t.c=p++r->r.length<m->h9 hd k I t m (a:Int) (p.length:Int)=I (true,((max (max a (aH r)) (aO t.s):Nat):Int)):=by
 obtain ⟨Y,o2,o3,o4,o5,o6,E⟩:=A.no
 intro r
 induction r with
 |nil=>
  intro p m a h x
  obtain ⟨m,rfl,j⟩:=qI x
  have z:max a (aH [])=a:=by rw [aH];omega
  rw [z]
  have:=fun more=>aez (more:=more) hk I q E (fun b hb=>(A.bi hb).1.2.2) t.s [] k a rfl (by omega)
  simp only [h9,sG,zt h,n3]
  cases (t.k==15)<;>grind [n3,ae]
 |cons y r F=>
  intro p m a h x
  obtain ⟨m,rfl,j⟩:=qI x
  obtain ⟨J,L,M,O⟩:=sX h (by omega)
  have T:=B y (by grind)
  have z:max a (aH (y::r))=max (max a (am y)) (aH r):=by rw [aH];omega
  rw [z]
  have W:(if ((am y:Nat):Int)>(a:Int) then ((am y:Nat):Int) else (a:Int))=((max a (am y):Nat):Int):=by omega
  simp only [h9,sG,J,ae,L,rf,ar,ag hk,jE,iF,T,M,W,xJ,n3,F (p++[y]) m (max a (am y)) O j]
end
theorem Q_ (t:Tm):p9 t-> ∀ {k:Nat} (I:Int->OS S),Fd k (am t)->au t<4611686018427387904->j6 k t I=I ((au t:Nat):Int):=by
 induction t using c7 with
 |h t z A=>
  intro x k I hk hs
  obtain ⟨q,rfl,B,hf⟩:=hk.pos' (HX t)
  have E:=rM t
  have:=af4 B (fun r=>I r.2) (fun y j g=>z y j (x.ki j) g (hf _ (bY j)) (by have:=k_ j;omega)) (fun b hb y j g=>A b hb y j ((x.bi hb).2 y j) g (hf _ (b8 hb j)) (by have:=k_ j;have:=we hb;omega)) x t.c [] q 1 rfl (by have:=x.no.2.2.2.2.2.1;omega) (by omega)
  grind [j6,TS,ar,DY,IW,ag]
theorem aiK (t:Tm):p9 t-> ∀ {k:Nat} (I:Int->OS S),Fd k (am t)->am t<4611686018427387904->j5 k t I=I ((am t:Nat):Int):=by
 induction t using c7 with
 |h t z A=>
  intro x k I hk hs
  obtain ⟨q,rfl,B,hf⟩:=hk.pos' (HX t)
  have E:=pF t
  have:=aey B (fun r=>I (p5 .i64 (r.2+1))) (fun y j g=>z y j (x.ki j) g (hf _ (bY j)) (by have:=bY j;omega)) (fun b hb y j g=>A b hb y j ((x.bi hb).2 y j) g (hf _ (b8 hb j)) (by have:=b8 hb j;omega)) x t.c [] q 0 rfl (by have:=x.no.2.2.2.2.2.1;omega)
  simp only [j5,TO,ag B,ar,DZ,IX]
  grind [xi]
abbrev F4 (k:Nat):Prop:=4294970296<=k
theorem F4.f3 (h:F4 k):F3 k:=by have:4294970296<=k:=h;unfold F3;omega
def ri (n:Int) (t u:Tm):Except Int Tm:=sh t (sh u (Jn n t u))
theorem ajv (h:F4 k) {t u:Tm} (q:In k t) (hu:In k u) {n:Int} (hn:0<=n/\n<=1000000) (I:Tm×Int->OS S):zd k t n u I=I (tE (ri n t u)):=by
 have hk:=h.f3
 simp only [zd,ag hk.fu,ar,E9 q.1 q.2.1 q.dep,E9 hu.1 hu.2.1 hu.dep]
 unfold ri
 by_cases h1:bw t=0
 case neg=>rw [dj h1,ub,ae];unfold sh;rw [if_neg h1];rfl
 by_cases h2:bw u=0
 case neg=>rw [h1,show (!((0:Int)==0))=false from rfl,n3,dj h2,ub,ae];unfold sh;rw [if_pos h1,if_neg h2];rfl
 have ft:Fm t:=⟨q.1,h1⟩
 have fu:Fm u:=⟨hu.1,h2⟩
 have hc:=yr t n
 have z1:=ft.eO;have z2:=fu.eO;have z3:=mB u;have d1:=ft.dep;have d2:=fu.dep
 have J:4294970296<=k:=h
 have x:(if 1099511627776<n then (1099511627776:Int) else n)=n:=if_neg (by omega)
 have hmul:BC n t*(au u-1)<=20000*20000:=Nat.mul_le_mul (by omega) (by omega)
 have z:p5 .i64 ((au u:Int)-1)=((au u-1:Nat):Int):=by rw [xi (by omega) (by omega)];omega
 have A:p5 .i64 ((BC n t:Int)*((au u-1:Nat):Int))=((BC n t*(au u-1):Nat):Int):=by
  rw [<-Int.natCast_mul];exact xi (by omega) (by omega)
 have B:p5 .i64 ((au t:Int)+((BC n t*(au u-1):Nat):Int))=((au t+BC n t*(au u-1):Nat):Int):=by
  rw [<-Int.natCast_add];exact xi (by omega) (by omega)
 rw [h1,h2,show (!((0:Int)==0))=false from rfl,n3,n3,decide_eq_false (by omega),n3]
 simp only [x]
 rw [Q_ t ft.ok _ (ft.fd hk) (by omega),ai6 t _ ft (ft.fd hk) (by omega),Q_ u fu.ok _ (fu.fd hk) (by omega),z,A,B]
 unfold sh
 rw [if_pos h1,if_pos h2]
 unfold Jn
 by_cases E:au t+BC n t*(au u-1)>20000
 ·rw [decide_eq_true (by omega),ae,if_pos E];rfl
 rw [decide_eq_false (by omega),n3,if_neg E,ajw fu (by omega) t _ ft (by omega) (by omega) (by omega),ij]
 cases hp:HZ n u 0 0 t with
 |error e=>rfl
 |ok o=>
  rw [aP,aD]
  have j:=(Iz ft.2).2.2
  obtain ⟨L,q2,M,O⟩:=F8 fu (by omega) t (v:=0) (d:=0) (by omega) (by omega) (by omega) ft.ok j hp
  show j5 k o _=_
  rw [aiK o L _ (hk.fd (by omega)) (by omega)]
  by_cases F:am o>200
  ·rw [decide_eq_true (by omega),ae,if_pos F];rfl
  ·rw [decide_eq_false (by omega),n3,if_neg F];rfl
abbrev xW (r:LC) (l a:Tm):Tm:= .mk 14 0 qw r [l,a] []
def MD (r:LC) (line:Tm):LB->Except Int (LB)
 |[]=> .ok []
 |b::l=>bE (NF (ua r 0 1)) fun pz=>bE (uA 0 1 0 1 line) fun h=>bE (MD r line l) fun j=> .ok (.mk b.f [xW pz h (AK b)]::j)
def gh (r:LC) (line x:Tm):Except Int Tm:=
 if x.k=24\/x.k=25 then .ok x
 else if x.k=26 then .ok (.mk 26 0 qw x.r [xW r (line.c.getD 0 pX) (x.c.getD 0 pX)] [])
 else bE (Ao 0 [⟨0,0⟩] line) fun e=>bE (MD r line x.s) fun l=> .ok (.mk 15 0 qw [] [e,xW r line (x.c.getD 1 pX)] l)
def h_ (t:Tm):Tm×Bool×Int:=
 if bw t≠0 then (pX,false,bw t) else
 if t.k=14/\(t.c.getD 0 pX).k=23/\((t.c.getD 1 pX).k=24\/(t.c.getD 1 pX).k=25\/(t.c.getD 1 pX).k=26\/(t.c.getD 1 pX).k=15) then Hu (gh t.r (t.c.getD 0 pX) (t.c.getD 1 pX)) else (pX,false,0)
theorem I8 {t:Tm} (h:t.c.length=2): ∃a b,t.c=[a,b]:=by
 match h':t.c,h with
 |[a,b],_=>exact ⟨a,b,rfl⟩
theorem jH {t:Tm} (h:t.c.length=1): ∃a,t.c=[a]:=by
 match h':t.c,h with
 |[a],_=>exact ⟨a,rfl⟩
theorem Fm.sy {t:Tm} (h:Fm t) (hk:t.k=15):(∀b∈t.s,b.c=[AK b]/\Fm (AK b)/\RX true b.f)/\t.s.length<=20000:=by
 have ho:=h.own
 refine ⟨fun b hb=> ?_, ?_⟩
 ·have hl:b.c.length=1:=by
   obtain ⟨kd,n,q,r,j,sys⟩:=t
   have hk:kd=15:=hk
   subst hk
   have ho:(_&&(sys.all (bX 15 24)&&_))=true:=ho
   simp only [qC] at ho
   have:=zf.1 ho.2.1 b hb
   unfold bX at this
   simp only [qC,decide_eq_true_eq] at this
   have h1:=this.1
   have:Ah 15=1:=rfl
   omega
  obtain ⟨f,j⟩:=b
  match j,hl with
  |[a],_=>exact ⟨rfl,h.brk hb (by simp [AK]),h.f hb⟩
 ·have h1:=h.eO
  have h2:=Hl t
  have: ∀ {l:LB},(∀b∈l,b.c≠[])->l.length<=aI l:=by
   intro l
   induction l with
   |nil=>intro _;simp
   |cons b l x=>
    intro hl
    have:=x fun b hb=>hl b (by simp [hb])
    have hb:=hl b (by simp)
    obtain ⟨f,j⟩:=b
    cases j with
    |nil=>exact absurd rfl hb
    |cons a j=>rw [aI,Ho,ay,uL];have:=mB a;omega
  have:=this (l:=t.s) fun b hb=>by
   intro he
   obtain ⟨kd,n,q,r,j,sys⟩:=t
   have hk:kd=15:=hk
   subst hk
   have ho:(_&&(sys.all (bX 15 24)&&_))=true:=ho
   simp only [qC] at ho
   have:=zf.1 ho.2.1 b hb
   unfold bX at this
   simp only [qC,decide_eq_true_eq] at this
   have h1:=this.1
   rw [he] at h1
   have:Ah 15=1:=rfl
   simp at h1;omega
  omega
def dt {α:Type} (c:Int) (x:Except Int α):Except Int α:=if c=0 then x else .error c
theorem oH {α:Type} (x:Except Int α):dt 0 x=x:=rfl
theorem lb {α:Type} {c:Int} (h:c≠0) (x:Except Int α):dt c x= .error c:=if_neg h
structure Sm (n:Nat) (t:Tm):Prop where
 ok:p9 t
 eO:au t<=n
 dep:am t<=300
theorem Fm.sm {t:Tm} (h:Fm t):Sm 20000 t:=⟨h.ok,h.eO,by have:=h.dep;omega⟩
theorem Sm.mono {n m:Nat} {t:Tm} (h:Sm n t) (j:n<=m):Sm m t:=⟨h.ok,by have:=h.eO;omega,h.dep⟩
theorem fD:Sm 20000 pX:=⟨agT,by unfold pX;rw [au,ay,aI];omega,by unfold pX;rw [am,aH,aO];omega⟩
theorem Sm.isIn {n:Nat} {t:Tm} (h:Sm n t) (hk:F3 k) (hn:n<1099511627776):In k t:=⟨h.ok,hk.fd (by have:=h.dep;omega),by have:=h.eO;omega⟩
structure Mb (n:Nat) (l:LB):Prop where
 ok:ba l
 eO:aI l<=l.length*n
 dep:aO l<=301
theorem Dp (n:Nat):Mb n []:=⟨by rw [ba];trivial,by rw [aI];simp,by rw [aO];omega⟩
theorem Ju {n:Nat} {l:LB} (h:Mb n l) {f:LC} (hf:aq f/\f.length<1073741824) {t:Tm} (j:Sm n t):Mb n (l++[⟨f,[t]⟩]):=by
 refine ⟨NQ h.ok ?_, ?_, ?_⟩
 ·rw [ba,fc,aZ,aZ,ba];exact ⟨⟨⟨hf.1,hf.2,by simp⟩,j.ok,trivial⟩,trivial⟩
 ·rw [R1,aI,Ho,ay,ay,aI,Is,List.length_singleton,Nat.succ_mul]
  have:=h.eO;have:=j.eO;omega
 ·rw [zF,aO,Fy,aH,aH,aO]
  have:=h.dep;have:=j.dep;omega
theorem Hn {kd:Int} (B:0<=kd/\kd<=28) {r:LC} (A:aq r/\r.length<1073741824) {ks:LT} {sys:LB} {n m:Nat} (j: ∀x∈ks,p9 x/\am x<=299) (hl:ks.length<1000) (J:ay ks<=n) (hs:ba sys) (z:sys.length<1073741824) (E:aO sys<=299) (F:aI sys<=m):Sm (n+m+1) (.mk kd 0 qw r ks sys):=by
 have hd:aH ks<=299:=by
  have: ∀ {l:LT},(∀x∈l,am x<=299)->aH l<=299:=by
   intro l
   induction l with
   |nil=>intro _;rw [aH];omega
   |cons t l I=>intro h;rw [aH];have:=h t (by simp);have:=I fun x q=>h x (by simp [q]);omega
  exact this fun x q=>(j x q).2
 refine ⟨?_, ?_, ?_⟩
 ·rw [p9]
  exact ⟨⟨by unfold aG;omega,by unfold aG;omega,by decide,A.1,A.2,by omega,z⟩,xp.2 fun x q=>(j x q).1,hs⟩
 ·rw [au];omega
 ·rw [am];omega
theorem MP {r:LC} (j:aq r/\r.length<1073741824) {n m:Nat} {l a:Tm} (hl:Sm n l) (ha:Sm m a) (h1:am l<=299) (h2:am a<=299):Sm (n+m+1) (xW r l a):=by
 have:=Hn (kd:=14) (by omega) j (ks:=[l,a]) (sys:=[]) (n:=n+m) (m:=0) (fun x h=>by
  simp at h
  rcases h with rfl|rfl
  ·exact ⟨hl.ok,h1⟩
  ·exact ⟨ha.ok,h2⟩) (by simp) (by rw [ay,ay,ay];have:=hl.eO;have:=ha.eO;omega) (by rw [ba];trivial) (by simp) (by rw [aO];omega) (by rw [aI];omega)
 exact this
theorem EC {t:Tm} {a b:Tm} (h:t.c=[a,b]):t.c.getD 0 pX=a/\t.c.getD 1 pX=b:=by rw [h];exact ⟨rfl,rfl⟩
theorem G9 {fa:Bool} {f:LC} (h:RX fa f):aq f/\f.length<1073741824:=⟨h.1.2,by have:=h.1.len;omega⟩
theorem r8 {f:LC} {b:Int} (h:RF f):aq (ua f 0 b).1/\(ua f 0 b).1.length<1073741824:=by
 have hl:=apS (f:=f) (i:=0) (b:=b)
 have:=h.len
 refine ⟨?_,by omega⟩
 by_cases j:(ua f 0 b).2=0
 ·exact (kQ j).2
 ·rw [apW j];exact fun c hc=>by cases hc
theorem apN (hk:F3 k) (I:Tm×Bool×Int->OS S) {t line x:Tm} {z:Int×Int×BA×LC×LT} {q:Tm×Int} (M:RX true t.r) (hl:Fm line) (hx: ∀b∈x.s,b.c=[AK b]/\Fm (AK b)/\RX true b.f) (ax:x.s.length<=20000)
  (O: ∀acc,Mb 50000 acc->acc.length<=20000->aO acc<=299->In k (.mk 15 0 qw [] [q.1,.mk z.1 z.2.1 z.2.2.1 z.2.2.2.1 z.2.2.2.2 []] acc)):
  ∀ (r p acc:LB) (m:Nat) (c:Int),x.s=p++r->r.length<m->Mb 50000 acc->aO acc<=299->acc.length+r.length<=20000->
   E7 k I t z line q x m c acc (p.length:Int)=I (Hu (dt c (bE (MD t.r line r) fun l'=> .ok (.mk 15 0 qw [] [q.1,.mk z.1 z.2.1 z.2.2.1 z.2.2.2.1 z.2.2.2.2 []] (acc++l'))))):=by
 intro r
 induction r with
 |nil=>
  intro p acc m c h T hb hd j
  obtain ⟨m,rfl,F⟩:=qI T
  simp only [E7,Jp,zt h,n3,ag hk.fu,JM,ar]
  rw [Ry hk (O acc hb (by simpa using j) hd),MD,aD,zr]
  by_cases hc:c=0
  ·subst hc;exact qL I
  ·rw [lb hc];exact JF hc I
 |cons b r ih=>
  intro p acc m c h T hb hd j
  obtain ⟨m,rfl,F⟩:=qI T
  obtain ⟨e1,e2,e3,e4⟩:=sX h (by omega)
  obtain ⟨W,B,Y⟩:=hx b (by rw [h];simp)
  have hg:af b.c 0=some (AK b):=ED (n:=0) rfl (by rw [W];rfl)
  have E:=r8 (b:=1) M.1
  rw [uL] at j
  have step: ∀ {pz:LC} {A:Tm} {L:Int},aq pz/\pz.length<1073741824->Sm 20000 A->am A<=200->pA (aw 1099511627776 acc.length [Br.mk b.f [xW pz A (AK b)]].length) (fun _=>E7 k I t z line q x m L (acc++[Br.mk b.f [xW pz A (AK b)]]) (((p++[b]).length:Nat):Int))=
    I (Hu (dt L (bE (MD t.r line r) fun l'=> .ok (.mk 15 0 qw [] [q.1,.mk z.1 z.2.1 z.2.2.1 z.2.2.2.1 z.2.2.2.2 []] (acc++[Br.mk b.f [xW pz A (AK b)]]++l'))))):=by
   intro pz A L J ad az
   rw [J5 (by simp;omega)]
   have hs:=MP J ad B.sm (by omega) (by have:=B.dep;omega)
   refine ih (p++[b]) _ m L e4 F (Ju hb (G9 Y) (hs.mono (by omega))) ?_ (by rw [Is,List.length_singleton];omega)
   rw [zF,aO,Fy,aH,aH,aO]
   have:am (xW pz A (AK b))<=201:=by
    rw [am,aH,aH,aH,aO];have:=B.dep;omega
   omega
  simp only [E7,Jp,e1,ae,e2,rf,ag hk.fu,ar,v_ hk M.1.2 (G9 M).2 (show (0:Int)<=1/\(1:Int)<1000 by omega),hg,tO,xF,e3]
  rw [v6 hk (b:=1) (fun _=>hl.isIn hk) (by omega)]
  by_cases hc:c=0
  ·subst hc
   rw [if_pos rfl,oH,MD]
   by_cases h1:(ua t.r 0 1).2=0
   ·rw [h1,kR,jF h1,aD]
    have ao:pH 1 1 line=uA 0 1 0 1 line:=if_pos hl.2
    rw [ao]
    cases hh:uA 0 1 0 1 line with
    |error e=>
     have:=Rz line hh
     refine (step E fD (by unfold pX;rw [am,aH,aO];omega)).trans ?_
     rw [show (tE (.error e)).2=e from rfl,lb (by omega)];rfl
    |ok A=>
     have fl:=jr (by omega) hl hh
     refine (step E fl.sm fl.dep).trans ?_
     rw [show (tE (.ok A)).2=0 from rfl,oH,aD]
     cases MD t.r line r with
     |error e=>rfl
     |ok l'=>rw [aD,aD,aD,List.append_assoc];rfl
   ·rw [n9 h1]
    refine (step E fD (by unfold pX;rw [am,aH,aO];omega)).trans ?_
    rw [lb h1,iO h1];rfl
  ·rw [if_neg hc,n9 hc,lb hc]
   refine (step (pz:=[]) ⟨(fun c hc=>by cases hc),by simp⟩ fD (by unfold pX;rw [am,aH,aO];omega)).trans ?_
   rw [lb hc]
theorem E5 {t:Tm} (h:Fm t) {kd:Int} (hk:t.k=kd) {n:Nat} (hn:ct kd=n):t.c.length=n:=by
 have:=h.nk
 rw [hk,hn] at this;omega
theorem KQ {t a b:Tm} (h:t.c=[a,b]):af t.c 0=some a/\af t.c 1=some b:=by rw [h];exact ⟨rfl,rfl⟩
theorem ap4 {t:Tm} (h:Fm t):aq t.r/\t.r.length<1073741824:=by
 obtain ⟨x,z,A,j,q,B,E⟩:=h.ok.no
 exact ⟨j,q⟩
theorem nS {r:LC} (q:RX true r) {line x y w:Tm} (hl:line.c=[y]) (j:x.c=[w]) (fl:Fm line) (fx:Fm x):Sm 40010 (.mk 26 0 qw x.r [xW r y w] []):=by
 have fy:=fl.bD (x:=y) (by rw [hl];simp)
 have fw:=fx.bD (x:=w) (by rw [j];simp)
 have h:=MP (G9 q) fy.sm fw.sm (by have:=fy.dep;omega) (by have:=fw.dep;omega)
 have hd:am (xW r y w)<=201:=by rw [am,aH,aH,aH,aO];have:=fy.dep;have:=fw.dep;omega
 exact (Hn (kd:=26) (by omega) (ap4 fx) (ks:=[xW r y w]) (sys:=[]) (n:=40001) (m:=0) (fun x j=>by simp at j;subst j;exact ⟨h.ok,by omega⟩) (by simp) (by rw [ay,ay];have:=h.eO;omega) (by rw [ba];trivial) (by simp) (by rw [aO];omega) (by rw [aI];omega)).mono (by omega)
theorem aoX {r:LC} (z:RX true r) {e line a:Tm} (he:Sm 20000 e) (A:am e<=200) (fl:Fm line) (fa:Fm a) {acc:LB} (hb:Mb 50000 acc) (j:acc.length<=20000) (hd:aO acc<=299):Sm 1000070000 (.mk 15 0 qw [] [e,xW r line a] acc):=by
 have h:=MP (G9 z) fl.sm fa.sm (by have:=fl.dep;omega) (by have:=fa.dep;omega)
 have B:am (xW r line a)<=201:=by rw [am,aH,aH,aH,aO];have:=fl.dep;have:=fa.dep;omega
 have E:aI acc<=1000000000:=zj hb.eO (zj (Iq _ j) (by omega))
 exact (Hn (kd:=15) (by omega) (r:=[]) ⟨(fun c hc=>by cases hc),by simp⟩ (ks:=[e,xW r line a]) (sys:=acc) (n:=60001) (m:=1000000000) (fun x q=>by
  simp at q
  rcases q with rfl|rfl
  ·exact ⟨he.ok,by omega⟩
  ·exact ⟨h.ok,by omega⟩) (by simp) (by rw [ay,ay,ay];have:=h.eO;have:=he.eO;omega) hb.ok (by omega) hd E).mono (by omega)
theorem ap_ (hk:F3 k) {t:Tm} (O:In k t) (I:Tm×Bool×Int->OS S):JG k t I=I (h_ t):=by
 simp only [JG,SP,ag hk.fu,ar,E9 O.1 O.2.1 O.dep]
 unfold h_
 by_cases h0:bw t=0
 case neg=>rw [dj h0,ub,ae,if_pos h0];rfl
 rw [h0,show (!((0:Int)==0))=false from rfl,n3,if_neg (by simp)]
 have ft:Fm t:=⟨O.1,h0⟩
 by_cases j:t.k=14
 case neg=>rw [beq_false_of_ne j,ub,ae,if_neg (fun h=>j h.1)];rfl
 rw [j,show (!((14:Int)==14))=false from rfl,n3]
 obtain ⟨line,x,B⟩:=I8 (E5 ft j (n:=2) rfl)
 obtain ⟨g0,g1⟩:=KQ B
 obtain ⟨d0,d1⟩:=EC B
 have fl:Fm line:=ft.bD (by rw [B];simp)
 have fx:Fm x:=ft.bD (by rw [B];simp)
 have hr:=ft.r14 j
 rw [d0,d1,g0,rf]
 by_cases E:line.k=23
 case neg=>rw [beq_false_of_ne E,ub,ae,if_neg (fun h=>E h.2.1)];rfl
 rw [E,show (!((23:Int)==23))=false from rfl,n3,vU t O.1 _ O.2.1,g0,rf,g1,rf]
 obtain ⟨y,hy⟩:=jH (E5 fl E (n:=1) rfl)
 have fin: ∀ {z:Tm},In k z-> ∀g:Tm×Bool×Int->OS S,ly k z 0 (fun r=>g (r.1,r.2.1,r.2.2.1))=g (Hu (.ok z)):=fun hz g=>by
  rw [Ry hk hz];exact qL g
 by_cases J:x.k=24
 ·rw [J,show ((24:Int)==24)=true from rfl,ae,if_pos ⟨rfl,rfl,.inl rfl⟩,fin (fx.isIn hk)]
  unfold gh;rw [if_pos (.inl J)]
 rw [beq_false_of_ne J,n3]
 by_cases L:x.k=25
 ·rw [L,show ((25:Int)==25)=true from rfl,ae,if_pos ⟨rfl,rfl,.inr (.inl rfl)⟩,fin (fx.isIn hk)]
  unfold gh;rw [if_pos (.inr L)]
 rw [beq_false_of_ne L,n3]
 by_cases A:x.k=26
 ·obtain ⟨w,hw⟩:=jH (E5 fx A (n:=1) rfl)
  have e1:af line.c 0=some y:=by rw [hy];rfl
  have e2:af x.c 0=some w:=by rw [hw];rfl
  rw [A,show ((26:Int)==26)=true from rfl,ae,if_pos ⟨rfl,rfl,.inr (.inr (.inl rfl))⟩,e1,rf,e2,rf]
  simp only [tO]
  rw [fin ((nS hr hy hw fl fx).isIn hk (by omega))]
  unfold gh;rw [if_neg (by omega),if_pos A,hy,hw];rfl
 rw [beq_false_of_ne A,n3]
 by_cases F:x.k=15
 case neg=>rw [beq_false_of_ne F,n3,if_neg (fun h=>by omega)];rfl
 obtain ⟨u,a,M⟩:=I8 (E5 fx F (n:=2) rfl)
 obtain ⟨az,ad⟩:=KQ M
 obtain ⟨a6,ao⟩:=EC M
 have fa:Fm a:=fx.bD (by rw [M];simp)
 obtain ⟨sy,T⟩:=fx.sy F
 rw [F,show ((15:Int)==15)=true from rfl,ae,if_pos ⟨rfl,rfl,.inr (.inr (.inr rfl))⟩,vZ hk (fun _=>fl.isIn hk),ad,rf]
 simp only [tO,kR]
 have ax:sI 0 [⟨0,0⟩] line=Ao 0 [⟨0,0⟩] line:=if_pos fl.2
 rw [ax]
 have W:Sm 20000 (tE (Ao 0 [⟨0,0⟩] line)).1/\am (tE (Ao 0 [⟨0,0⟩] line)).1<=200:=by
  cases hh:Ao 0 [⟨0,0⟩] line with
  |error e=>exact ⟨fD,by show am pX<=200;unfold pX;rw [am,aH,aO];omega⟩
  |ok e=>
   obtain ⟨q1,q2,q3⟩:=zv fl hh
   exact ⟨⟨q1,q3,(show am e<=300 by omega)⟩,q2⟩
 have:=apN hk I (t:=t) (line:=line) (x:=x) (z:=(14,0,qw,t.r,[line,a])) (q:=tE (Ao 0 [⟨0,0⟩] line)) hr fl sy T (fun acc hb Y hd=>(aoX hr W.1 W.2 fl fa hb Y hd).isIn hk (by omega)) x.s [] [] k (tE (Ao 0 [⟨0,0⟩] line)).2 rfl (by have:4294968296<=k:=hk;omega) (Dp _) (by rw [aO];omega) (by simpa using T)
 refine qy this ?_
 unfold gh
 rw [if_neg (by omega),if_neg A,ao]
 cases hh:Ao 0 [⟨0,0⟩] line with
 |error e=>
  have:=j9 hh
  rw [show (tE (.error e)).2=e from rfl,lb (by omega)];rfl
 |ok e=>rfl


section
variable {hd:Tm->Int->Tm->Int->Int->(Tm->OS S)->OS S} {t u:Tm} {n v d:Int}
end

theorem aeW (hk:Fu k) (I:Tm×Int->OS S) {c0 c2:Int} {c1:Tm} {ns:List Int} (hl:ns.length<1000) (hn: ∀x∈ns,0<=x):
  ∀ (r p:List Int) (m:Nat),ns=p++r->r.length<m->nD k I c0 c1 c2 ns m (p.length:Int)=yY k c0 c1 c2 fun j=>sH.elim j (fun j=>I (j,0)) fun A=>I (pX,A):=by
 intro r
 induction r with
 |nil=>
  intro p m h q
  obtain ⟨m,rfl,z⟩:=qI q
  simp only [nD,xb,zt h,n3,ag hk,ar];rfl
 |cons x r B=>
  intro p m h q
  obtain ⟨m,rfl,z⟩:=qI q
  obtain ⟨E,F,J,L⟩:=sX h (by omega)
  have M:=hn x (by grind)
  grind [nD,xb,aY]
theorem ajk (hk:F3 k) {t:Tm} (h:Fm t) {f b:Int} (hf:0<=f/\f<=1000000) (hb:0<=b/\b<=1000000) (I:Tm×Int->OS S):x7 k t f b I=I (tE (uA b 0 f 0 t)):=by
 have j:p5 .i64 (1000000-b)=1000000-b:=xi (by omega) (by omega)
 have hl:=aeW hk.fu I (c0:=b) (c2:=f) (c1:=t) (ns:=[f,b,1000000-b]) (by simp) (by grind) [f,b,1000000-b] [] k rfl (by grind)
 have hl:nD k I b t f [f,b,1000000-b] k 0=_:=hl
 simp only [x7,ag hk.fu,ar,j,K7,BR,E9 h.ok (h.fd hk) (show am t<1099511627776 by have:=h.dep;omega),h.2,hl,yY]
 rw [show ((0:Int)==0)=true from rfl,xJ,n3,if_neg (by omega),r9 (by omega) (by unfold aG;omega) t h.ok h.rows _ (h.fd hk) (h.vp (by omega) (by omega)),ij,ME _ I]
 rfl
def oK (f b:Int) (t:Tm):Except Int Tm:=sh t (uA b 0 f 0 t)
theorem ai0 (hk:F3 k) {t:Tm} (j:In k t) {f b:Int} (hf:0<=f/\f<=1000000) (hb:0<=b/\b<=1000000) (I:Tm×Int->OS S):x7 k t f b I=I (tE (oK f b t)):=by
 unfold oK sh
 by_cases h:bw t=0
 ·rw [if_pos h];exact ajk hk ⟨j.1,h⟩ hf hb I
 ·rw [if_neg h]
  simp only [x7,ag hk.fu,ar,K7,BR,E9 j.1 j.2.1 j.dep,dj h,ub,ae];rfl
theorem aJg {a b:Int} {t:Tm}: ∀e,oK a b t= .error e->0<e/\e<=1000:=fun e h=>z7 (fun e h=>Rz t h) h
theorem ahE {n:Int} {t u:Tm}: ∀e,ri n t u= .error e->0<e/\e<=1000:=fun e h=>z7 (fun e h=>z7 (fun e h=>AL h) h) h
theorem Hf (hk:F4 k) {t u:Tm} {c:Int} (j:c=0->In k t/\In k u) (I:Tm×Int->OS S):za k t u c I=I (mM c (ri 0 t u)):=by
 simp only [za,ag hk.f3.fu,dG,ar,rJ]
 exact Az c (fun h g=>ajv hk (j h).1 (j h).2 (by omega) g) (FP ahE) I
theorem ajm (hk:F3 k) {t a:Tm} {sys:LB} {c:Int} (j:c=0->In k t/\In k a/\In k (J4 sys)) (q: ∀e,c6 [t,a,J4 sys] (FI t a sys)= .error e->e≠0) (I:Tm×Int->OS S):y_ k t a sys c I=I (mM c (c6 [t,a,J4 sys] (FI t a sys))):=by
 simp only [y_,ag hk.fu,dG,ar,rJ]
 exact Az c (fun h g=>aiO hk (j h).1 (j h).2.1 (j h).2.2 g) q I
theorem Rx (hk:F3 k) {line a:Tm} {sys:LB} {c:Int} (j:c=0->In k line/\In k a/\In k (J4 sys)) (q: ∀e,c6 [line,a,J4 sys] (dF line a sys)= .error e->e≠0) (I:Tm×Int->OS S):y9 k line a sys c I=I (mM c (c6 [line,a,J4 sys] (dF line a sys))):=by
 simp only [y9,ag hk.fu,dG,ar,rJ]
 exact Az c (fun h g=>aiI hk (j h).1 (j h).2.1 (j h).2.2 g) q I
theorem ZS {m:Tm} (fm:Fm m):(bE (oK 1 0 m) fun y=>pH 0 1 y)=J6 0 1 m:=by
 have hd:=fm.dep
 have h1:oK 1 0 m=uA 0 0 0 0 m:=by
  unfold oK sh
  rw [if_pos fm.2]
  exact agi m (by omega) (by omega)
 rw [h1]
 unfold J6
 cases h:uA 0 0 0 0 m with
 |error e=>rfl
 |ok y=>
  rw [aD,aD]
  have fy:=jr (by omega) fm h
  unfold pH sh
  rw [if_pos fy.2]
theorem Rv (hk:F3 k) {m:Tm} {c:Int} (j:c=0->Fm m) (I:Tm×Int->OS S):Tr k m 0 1 c I=I (mM c (J6 0 1 m)):=by
 simp only [Tr,ag hk.fu,dG,ar,rJ]
 by_cases hc:c=0
 case neg=>rw [dj hc,ub,ae,n9 hc];rfl
 have fm:=j hc
 subst hc
 rw [show (!((0:Int)==0))=false from rfl,n3,kR,<-ZS fm,ai0 hk (fm.isIn hk) (by omega) (by omega)]
 have hv:oK 1 0 m=uA 0 0 1 0 m:=by unfold oK sh;rw [if_pos fm.2]
 rw [if_pos rfl,hv]
 cases h:uA 0 0 1 0 m with
 |error e=>
  have he:=Rz m h
  rw [show (tE (.error e)).2=e from rfl,if_neg (show e≠0 by omega)]
  dsimp only
  rw [dj (show e≠0 by omega),ub,ae];rfl
 |ok y=>
  have fy:=jr (by omega) fm h
  rw [show (tE (.ok y)).2=0 from rfl,show (tE (.ok y)).1=y from rfl,if_pos rfl]
  dsimp only
  rw [show (!((0:Int)==0))=false from rfl,n3,HM hk (fy.isIn hk) (by omega) (by omega),aD]
  have:=Lw (pH 0 1 y) (FP je) 0
  rw [kR] at this
  rw [this]
def F6:LT->Except Int (LT)
 |[]=> .ok []
 |y::l=>bE (J6 0 1 y) fun h=>bE (F6 l) fun j=> .ok (h::j)
abbrev ig (kd:Int) (p:Tm) (l:LT) (a:Tm):Tm:= .mk kd 0 qw [] (p::l++[a]) []
def MU (kd:Int) (b:Tm) (h:LT):LB->Except Int (LB)
 |[]=> .ok []
 |y::l=>bE (F6 h) fun m=>bE (MU kd b h l) fun j=> .ok (.mk y.f [ig kd b m (AK y)]::j)
def Te (kd:Int) (p:Tm) (h:LT) (x:Tm):Except Int Tm:=
 bE (c6 [x.c.getD 0 pX,x.c.getD 1 pX,J4 x.s] (FI (x.c.getD 0 pX) (x.c.getD 1 pX) x.s)) fun f=>
 bE (J6 0 1 p) fun b=>bE (Jn 0 b f) fun line=>bE (MU kd b h x.s) fun l=>
 c6 [line,ig kd p h (x.c.getD 1 pX),J4 l] (dF line (ig kd p h (x.c.getD 1 pX)) l)
def xZ (t:Tm):Tm:=t.c.getD (t.c.length-1) pX
def xR (t:Tm):LT:=(t.c.take (t.c.length-1)).drop 1
def pP (t:Tm):Tm×Bool×Int:=
 if bw t≠0 then (pX,false,bw t) else
 if (t.k=22\/t.k=27)/\(xZ t).k=15 then Hu (Te t.k (t.c.getD 0 pX) (xR t) (xZ t)) else (pX,false,0)
theorem Ue: ∀ {l:LT} {e:Int},F6 l= .error e->0<e/\e<=1000:=by
 intro l
 induction l with
 |nil=>intro e h;cases h
 |cons y l j=>
  intro e h
  rw [F6] at h
  rcases be h with h|⟨_,_,h⟩
  ·exact zn h
  rcases be h with h|⟨_,_,h⟩
  ·exact j h
  ·cases h
theorem aeM (I:Int×Int×BA×LT×Int->OS S) (hk:F3 k) {c0 a:Tm} {c1 e:Int} {q:LT} (z:List.drop (BT 1) (List.take (BT c1) c0.c)=q) (hl:q.length<1073741823):
  ∀ (r p acc:LT) (m:Nat),q=p++r->r.length<m->acc.length+r.length<1073741824->
   SB k I c0 c1 a 0 m e acc (p.length:Int)=I (c0.k,0,qw,acc++r++[a],e):=by
 intro r
 induction r with
 |nil=>
  intro p acc m h x ha
  obtain ⟨m,rfl,j⟩:=qI x
  simp only [SB,mb,z,zt h,n3,ar,ag hk.fu,zc,zr]
  rw [J5 (by simp;simp at ha;omega)]
 |cons y r A=>
  intro p acc m h x ha
  obtain ⟨m,rfl,j⟩:=qI x
  obtain ⟨B,E,F,J⟩:=sX h (by omega)
  rw [uL] at ha
  simp only [SB,mb,z,B,ae,E,rf,ar,F]
  rw [show decide ((0:Int)>0)=false from rfl,n3,J5 (by simp;omega)]
  refine (A (p++[y]) (acc++[y]) m J j (by rw [Is,List.length_singleton];omega)).trans ?_
  simp
theorem aeN (I:Int×Int×BA×LT×Int->OS S) (hk:F3 k) {c0 a:Tm} {c1:Int} {q:LT} (F:List.drop (BT 1) (List.take (BT c1) c0.c)=q) (hl:q.length<1073741823) (hf: ∀y∈q,Fm y):
  ∀ (r p acc:LT) (m:Nat) (c:Int),q=p++r->r.length<m->acc.length+r.length<1073741824->
   ∃l,SB k I c0 c1 a 1 m c acc (p.length:Int)=I (c0.k,0,qw,acc++l++[a],match dt c (F6 r) with| .ok _=>0| .error e=>e)/\ ∀l',dt c (F6 r)= .ok l'->l=l':=by
 intro r
 induction r with
 |nil=>
  intro p acc m c h z ha
  obtain ⟨m,rfl,x⟩:=qI z
  refine ⟨[], ?_,fun l' h=> ?_⟩
  ·simp only [SB,mb,F,zt h,n3,ar,ag hk.fu,zc,zr]
   rw [J5 (by simp;simp at ha;omega)]
   by_cases hc:c=0
   ·subst hc;rfl
   ·rw [lb hc]
  ·by_cases hc:c=0
   ·subst hc;rw [oH,F6] at h;injection h
   ·rw [lb hc] at h;cases h
 |cons y r J=>
  intro p acc m c h z ha
  obtain ⟨m,rfl,x⟩:=qI z
  obtain ⟨L,M,O,T⟩:=sX h (by omega)
  rw [uL] at ha
  have fy:Fm y:=hf y (by rw [h];simp)
  have E:wA 0 1 y=J6 0 1 y:=if_pos fy.2
  obtain ⟨l,h1,h2⟩:=J (p++[y]) (acc++[(mM c (J6 0 1 y)).1]) m (mM c (J6 0 1 y)).2 T x (by rw [Is,List.length_singleton];omega)
  have B:dt c (F6 (y::r))=bE (dt c (J6 0 1 y)) fun A=>bE (dt (mM c (J6 0 1 y)).2 (F6 r)) fun l'=> .ok (A::l'):=by
   by_cases hc:c=0
   ·subst hc
    rw [oH,oH,F6,kR]
    cases J6 0 1 y with
    |error e=>rfl
    |ok A=>rfl
   ·rw [lb hc,lb hc];rfl
  refine ⟨(mM c (J6 0 1 y)).1::l, ?_,fun l' j=> ?_⟩
  ·simp only [SB,mb,F,L,ae,M,rf,ar,O,ag hk.fu]
   rw [show decide ((1:Int)>0)=true from rfl,ae,IG hk (fun _=>fy.isIn hk) (by omega) (by omega),E,J5 (by simp;omega)]
   refine h1.trans ?_
   rw [B]
   have W:(match dt (mM c (J6 0 1 y)).2 (F6 r) with| .ok _=>(0:Int)| .error e=>e)=match bE (dt c (J6 0 1 y)) fun A=>bE (dt (mM c (J6 0 1 y)).2 (F6 r)) fun l'=> .ok (A::l') with| .ok _=>(0:Int)| .error e=>e:=by
    by_cases hc:c=0
    ·subst hc
     rw [oH,kR]
     cases Y:J6 0 1 y with
     |error e=>
      have he:=zn Y
      rw [show (tE (.error e)).2=e from rfl,lb (show e≠0 by omega)];rfl
     |ok A=>
      rw [show (tE (.ok A)).2=0 from rfl,oH,aD]
      cases F6 r<;>rfl
    ·rw [n9 hc,lb hc,lb hc];rfl
   rw [W]
   simp<;>rfl
  ·rw [B] at j
   obtain ⟨A,g1,j⟩:=i8 j
   obtain ⟨l2,g2,j⟩:=i8 j
   injection j with j
   subst j
   have hc:c=0:=by
    by_cases hc:c=0
    ·exact hc
    ·rw [lb hc] at g1;cases g1
   subst hc
   rw [oH] at g1
   rw [h2 l2 g2,kR,g1];rfl
theorem ao8 {n:Nat} {l:LB} (h:Mb n l) {f:LC} (hf:aq f/\f.length<1073741824) {t:Tm} (j:Sm n t):Mb n (⟨f,[t]⟩::l):=by
 refine ⟨?_, ?_, ?_⟩
 ·rw [ba,fc,aZ,aZ];exact ⟨⟨⟨hf.1,hf.2,by simp⟩,j.ok,trivial⟩,h.ok⟩
 ·rw [aI,Ho,ay,ay,uL,Nat.succ_mul]
  have:=h.eO;have:=j.eO;omega
 ·rw [aO,Fy,aH,aH]
  have:=h.dep;have:=j.dep;omega
theorem apc {r:LC} (E:RX true r) {line:Tm} (fl:Fm line): ∀ {l l':LB},(∀b∈l,b.c=[AK b]/\Fm (AK b)/\RX true b.f)->MD r line l= .ok l'->Mb 50000 l'/\l'.length=l.length/\aO l'<=299:=by
 intro l
 induction l with
 |nil=>intro l' _ h;cases h;exact ⟨Dp _,rfl,by rw [aO];omega⟩
 |cons b l F=>
  intro l' hl h
  rw [MD] at h
  cases h1:NF (ua r 0 1) with
  |error e=>rw [h1] at h;cases h
  |ok pz=>
  rw [h1,aD] at h
  cases h2:uA 0 1 0 1 line with
  |error e=>rw [h2] at h;cases h
  |ok I=>
  rw [h2,aD] at h
  cases z:MD r line l with
  |error e=>rw [z] at h;cases h
  |ok M=>
  rw [z,aD] at h
  injection h with h
  subst h
  obtain ⟨i1,i2,i3⟩:=F (fun x J=>hl x (by simp [J])) z
  obtain ⟨O,A,L⟩:=hl b (by simp)
  have j:=jr (by omega) fl h2
  have q:aq pz/\pz.length<1073741824:=by
   have B:=r8 (b:=1) E.1
   unfold NF at h1
   split at h1
   ·injection h1 with h1;subst h1;exact B
   ·cases h1
  have hs:=MP q j.sm A.sm (by have:=j.dep;omega) (by have:=A.dep;omega)
  refine ⟨ao8 i1 (G9 L) (hs.mono (by omega)),by rw [uL,uL,i2], ?_⟩
  rw [aO,Fy,aH,aH]
  have:am (xW pz I (AK b))<=201:=by
   rw [am,aH,aH,aH,aO];have:=A.dep;have:=j.dep;omega
  omega
theorem nR (hk:F3 k) {t:Tm} (ft:Fm t) (q:t.k=14) (z:(t.c.getD 0 pX).k=23) (L:(t.c.getD 1 pX).k=24\/(t.c.getD 1 pX).k=25\/(t.c.getD 1 pX).k=26\/(t.c.getD 1 pX).k=15) {y:Tm} (h:gh t.r (t.c.getD 0 pX) (t.c.getD 1 pX)= .ok y):In k y/\0<y.k:=by
 obtain ⟨line,x,j⟩:=I8 (E5 ft q (n:=2) rfl)
 obtain ⟨d0,d1⟩:=EC j
 have fl:Fm line:=ft.bD (by rw [j];simp)
 have fx:Fm x:=ft.bD (by rw [j];simp)
 have F:=ft.r14 q
 rw [d0] at z
 rw [d0,d1] at h
 rw [d1] at L
 unfold gh at h
 split at h
 case isTrue hc=>injection h with h;subst h;exact ⟨fx.isIn hk,by omega⟩
 rename_i hc
 split at h
 case isTrue A=>
  injection h with h;subst h
  obtain ⟨u,hu⟩:=jH (E5 fl z (n:=1) rfl)
  obtain ⟨w,J⟩:=jH (E5 fx A (n:=1) rfl)
  have:=nS F hu J fl fx
  rw [hu,J]
  exact ⟨this.isIn hk (by omega),show (0:Int)<26 by decide⟩
 rename_i A
 have B:x.k=15:=by omega
 obtain ⟨u,a,E⟩:=I8 (E5 fx B (n:=2) rfl)
 obtain ⟨M,I⟩:=EC E
 have fa:Fm a:=fx.bD (by rw [E];simp)
 obtain ⟨sy,O⟩:=fx.sy B
 cases h1:Ao 0 [⟨0,0⟩] line with
 |error e=>rw [h1] at h;cases h
 |ok e=>
 rw [h1,aD] at h
 cases h2:MD t.r line x.s with
 |error e=>rw [h2] at h;cases h
 |ok l=>
 rw [h2,aD,I] at h
 injection h with h
 subst h
 obtain ⟨T,q2,W⟩:=zv fl h1
 obtain ⟨Y,b2,b3⟩:=apc F fl sy h2
 exact ⟨(aoX F ⟨T,W,(show am e<=300 by omega)⟩ q2 fl fa Y (by omega) b3).isIn hk (by omega),show (0:Int)<15 by decide⟩
theorem apb (hk:F3 k) {t:Tm} (j:In k t):In k (h_ t).1:=by
 unfold h_
 by_cases h:bw t=0
 case neg=>rw [if_pos h];exact gQ hk
 rw [if_neg (by simp [h])]
 have ft:Fm t:=⟨j.1,h⟩
 split
 case isTrue hc=>
  cases q:gh t.r (t.c.getD 0 pX) (t.c.getD 1 pX) with
  |error e=>exact gQ hk
  |ok y=>
   have:=nR hk ft hc.1 hc.2.1 hc.2.2 q
   show In k (if bw y=0 then (y,true,(0:Int)) else (pX,false,bw y)).1
   split
   ·exact this.1
   ·exact gQ hk
 case isFalse hc=>exact gQ hk
end
section
def u9 (h:Nat->Prop) (f:LC):Prop:= ∀c∈f,∀j,hp c j\/hn c j->h j
theorem Rj {q x:Nat->Prop} {f:LC} (h:u9 q f) (z: ∀j,q j->x j):u9 x f:=fun c hc j hj=>z j (h c hc j hj)
theorem K4 (h:Nat->Prop):u9 h []:=fun c hc=>by cases hc
theorem azw {j:Nat->Prop} {f g:LC} (h:u9 j f) (hs: ∀c∈g,c∈f):u9 j g:=fun c hc=>h c (hs c hc)
theorem uZ {j:Nat->Prop} {f g:LC} (h:u9 j f) (h':u9 j g):u9 j (f++g):=fun c hc=>(zx.1 hc).elim (h c) (h' c)
theorem jy {j:Nat->Prop} {f:LC} (h:u9 j f):u9 j (bp f).1:=by
 unfold bp
 split
 ·split
  ·exact K4 _
  ·exact azw h fun c hc=>(uc.1 hc).1
 ·exact K4 _
theorem aoG {q:Nat->Prop} {f g:LC} (h:u9 q f) (h':u9 q g):u9 q (meets f g):=fun c hc j hj=>by
 unfold meets at hc
 obtain ⟨a,ha,hc⟩:=List.mem_flatMap.1 hc
 obtain ⟨b,hb,rfl⟩:=xq.1 hc
 rw [apD,apA] at hj
 rcases hj with (hj|hj)|(hj|hj)
 ·exact h a ha j (.inl hj)
 ·exact h' b hb j (.inl hj)
 ·exact h a ha j (.inr hj)
 ·exact h' b hb j (.inr hj)
theorem xG {q:Nat->Prop} {c:Cl}:u9 q [c]↔ ∀j,hp c j\/hn c j->q j:=⟨fun h=>h c (by simp),fun h d hd=>by simp at hd;subst hd;exact h⟩
theorem b6 {j:Nat->Prop} {f g:LC} (h:u9 j f) (h':u9 j g):u9 j (K0 f g).1:=jy (uZ h h')
theorem r3 {j:Nat->Prop} {f g:LC} (h:u9 j f) (h':u9 j g):u9 j (KZ f g).1:=jy (aoG h h')
theorem aos {j:Nat->Prop} {f:LC} (h:u9 j f):u9 j (gN f).1:=jy (azw h fun c hc=>(Ds hc).1)
theorem e4 {j:Nat->Prop} {step:LC->Cl->LC×Int}: ∀ {l h:LC},(∀c∈l,∀h,u9 j h->u9 j (step h c).1)->u9 j h->u9 j (zo step h l).1:=by
 intro l
 induction l with
 |nil=>intro h _ q;exact q
 |cons c l x=>
  intro h hs q
  unfold zo
  split
  ·exact x (fun d hd=>hs d (by simp [hd])) (hs c (by simp) h q)
  ·first|exact K4 _|exact hs c (by simp) h q
theorem aSs {z:Nat->Prop} {c:Cl} (hc:RC c) (h: ∀j,hp c j\/hn c j->z j):u9 z (oj c).1:=by
 refine jy fun d hd j hj=> ?_
 have hl: ∀ {s:Int} {x:Int},x∈Rt s-> ∃n:Nat,n<24/\s.toNat.testBit n=true/\x=n:=by
  intro s x q
  unfold Rt ints at q
  obtain ⟨n,hn,rfl⟩:=xq.1 q
  have:=sY.1 hn
  exact ⟨n,this.1,this.2,rfl⟩
 unfold jI at hd
 rcases zx.1 hd with hd|hd
 ·obtain ⟨x,q,rfl⟩:=xq.1 hd
  obtain ⟨n,h1,h2,rfl⟩:=hl q
  rcases hj with hj|hj
  ·exact absurd hj (apE n h1 j)
  ·rw [(apB n h1 j).1 hj];exact h n (.inl h2)
 ·obtain ⟨x,q,rfl⟩:=xq.1 hd
  obtain ⟨n,h1,h2,rfl⟩:=hl q
  rcases hj with hj|hj
  ·rw [(apF n h1 j).1 hj];exact h n (.inr h2)
  ·exact absurd hj (apC n h1 j)
theorem aSr {q:Nat->Prop} {f:LC} (hf:RF f) (h:u9 q f):u9 q (H7 f).1:=
 e4 (fun c hc g x=>r3 x (aSs (hf.rc hc) (h c hc))) (xG.2 fun j hj=>by rcases hj with hj|hj<;>simp [hp,hn] at hj)
theorem apz {c:Cl} {n:Nat} (q:n<24) {j:Nat} (h:hp (iA n c) j\/hn (iA n c) j):(hp c j\/hn c j)/\j≠n:=by
 unfold hp hn iA at h
 rw [ao3 q,ao3 q] at h
 simp only [qC,Bool.not_eq_true',decide_eq_false_iff_not] at h
 exact h.elim (fun h=>⟨.inl h.1.1,h.2⟩) fun h=>⟨.inr h.1.1,h.2⟩
theorem u7 {fa:Bool} {x:Nat->Prop} {n:Nat} (z:n<24) {f r:LC} (I:RF r) (h:u9 (fun j=>j≠n->x j) f) (h':u9 x r):u9 x (r0 fa f n r).1:=by
 have A: ∀c∈f,u9 x [iA n c]:=fun c hc=>xG.2 fun j hj=>by
  obtain ⟨h1,h2⟩:=apz z hj
  exact h c hc j h1 h2
 have E:u9 x (H7 r).1:=aSr I h'
 unfold r0
 cases fa
 ·show u9 x (iH f n r).1
  unfold iH
  split
  ·refine e4 (fun c hc g B=> ?_) (K4 _)
   have hA:u9 x (d_ n r c).1:=by
    unfold d_
    split
    ·exact r3 (A c hc) h'
    ·exact A c hc
   have hB:u9 x (RA n r c (d_ n r c).1).1:=by
    unfold RA
    split
    ·split
     ·exact r3 hA E
     ·exact K4 _
    ·exact hA
   unfold dY
   split
   ·split
    ·exact b6 B hB
    ·exact K4 _
   ·exact K4 _
  ·exact K4 _
 ·show u9 x (iG f n r).1
  unfold iG
  split
  ·refine e4 (fun c hc g B=> ?_) (K4 _)
   have F: ∀ {q:LC×Int},u9 x q.1->u9 x (MV n c g q).1:=fun J=>by
    unfold MV
    split
    ·split
     ·exact b6 B (aos (aoG (A c hc) J))
     ·exact K4 _
    ·exact K4 _
   unfold K3
   split
   ·refine F ?_
    unfold No
    split
    ·exact aos h'
    ·exact K4 _
   ·split
    ·refine F ?_
     unfold RM
     split
     ·split
      ·exact aos E
      ·exact K4 _
     ·exact K4 _
    ·exact b6 B (A c hc)
  ·exact K4 _
theorem u4 {A:Nat->Prop} {f:LC} (hf:RF f) {n:Nat} (q:n<24) (h:u9 (fun x=>x≠n->A (iy n x)) f):u9 A (vj n f):=by
 unfold vj
 refine jy fun c hc j hj=> ?_
 obtain ⟨d,hd,rfl⟩:=xq.1 hc
 rcases hj with hj|hj
 ·obtain ⟨x,z,he,rfl⟩:=(ma q (hf.rc hd).1 j).1 hj
  exact h d hd x (.inl z) he
 ·obtain ⟨x,z,he,rfl⟩:=(ma q (hf.rc hd).2 j).1 hj
  exact h d hd x (.inr z) he
theorem aot {A:Nat->Prop} {f:LC} (hf:RF f) {n b:Nat} (q:(ua f n b).2=0) (h:u9 (fun x=>A (Ix n b x)) f):u9 A (ua f n b).1:=by
 unfold ua at q ⊢
 rw [if_pos hf.right] at q ⊢
 split at q
 case isFalse h1=>exact absurd q h1
 rename_i h1
 rw [if_pos h1]
 obtain ⟨B,E⟩:=apw h1
 refine jy ?_
 rw [B,An]
 intro c hc j hj
 obtain ⟨d,hd,rfl⟩:=xq.1 hc
 obtain ⟨F,q2,I⟩:=apV (E d hd)
 rw [I] at hj
 rcases hj with hj|hj
 ·obtain ⟨x,z,rfl⟩:=(aoF (hf.rc hd).1 F j).1 hj
  exact h d hd x (.inl z)
 ·obtain ⟨x,z,rfl⟩:=(aoF (hf.rc hd).2 q2 j).1 hj
  exact h d hd x (.inr z)
theorem L5 {f:LC} (hf:RF f) {d:Int}:dg f d=true↔u9 (fun j=>(j:Int)<d) f:=by
 unfold dg
 rw [decide_eq_true_eq]
 have: ∀i:Nat,i∈bW (fS f)↔i<24/\ ∃c∈f,hp c i\/hn c i:=fun i=>by
  rw [sY,D7]
  unfold jJ hp hn
  simp only [qC,List.any_eq_true,Bool.or_eq_true,decide_eq_true_eq]
  exact ⟨fun h=>⟨h.1,h.2.1⟩,fun h=>⟨h.1,h.2,h.1⟩⟩
 constructor
 ·intro h c hc j hj
  exact h j ((this j).2 ⟨hj.elim (o2 (hf.rc hc)) (aoL (hf.rc hc)),c,hc,hj⟩)
 ·intro h i q
  obtain ⟨_,c,hc,hj⟩:=(this i).1 q
  exact h c hc i hj
theorem f' {f g:LC} {d b D:Int} (hf:RF f) (hd:0<=d) (hb:0<=b) (hl:dg f D=true) (h:Dc d b f= .ok g):dg g (D+b)=true:=by
 have rg:=GY hf h
 obtain ⟨n,rfl⟩:=u1 hd
 obtain ⟨m,rfl⟩:=u1 hb
 rw [L5 hf] at hl
 rw [L5 rg]
 unfold Dc at h
 split at h
 ·injection h with h;subst h
  exact Rj hl fun j hj=>by omega
 ·obtain ⟨q,rfl⟩:=rR h
  exact aot hf q (Rj hl fun j hj=>by unfold Ix;split<;>omega)
theorem Nf {f:LC} {d e:Int} (hf:RF f) (h:dg f d=true) (q:d<=e):dg f e=true:=by
 rw [L5 hf] at h ⊢
 exact Rj h fun j hj=>by omega
theorem aBB {fa:Bool} {r f g:LC} {n D:Int} (hf:RF f) (O:RF r) (hn:0<=n) (T:n<=D) (hl:dg f (D+1)=true) (B:u9 (fun j=>j≠0/\(j:Int)<D-n+1) r) (h:H9 0 r fa n f= .ok g):dg g D=true:=by
 obtain ⟨n,rfl⟩:=u1 hn
 rw [uz] at h
 obtain ⟨m,h1,h⟩:=i8 h
 injection h with h;subst h
 have z:=rB hf h1
 rw [Int.zero_add]
 by_cases q:n<24
 ·have E:u9 (fun j=>j≠n->((j:Int)<D+1)) m/\(jo f n->m=f)/\(¬jo f n->u9 (fun j=>j≠n/\(j:Int)<D+1) m):=by
   rw [L5 hf] at hl
   unfold uM at h1
   rw [Int.zero_add] at h1
   split at h1
   ·rename_i F
    obtain ⟨s,es,h1⟩:=i8 h1
    obtain ⟨M,rfl⟩:=rR es
    obtain ⟨h2,rfl⟩:=rR h1
    have I:u9 (fun j=>j≠n/\(j:Int)<D+1) (ua r 0 n).1:=aot (n:=0) O M (Rj B fun j hj=>by unfold Ix;rw [if_neg (by omega)];omega)
    have:=u7 (fa:=fa) (f:=f) q (kQ M) (Rj hl fun j hj (J:j≠n)=>⟨J,hj⟩) I
    exact ⟨Rj this fun j hj _=>hj.2,fun h=>absurd h (FB.1 F).2,fun _=>this⟩
   ·rename_i F
    injection h1 with h1;subst h1
    exact ⟨Rj hl fun j hj _=>hj,fun _=>rfl,fun h=>absurd (FB.2 ⟨q,h⟩) F⟩
  rw [L5 (h3 z.len)]
  refine u4 z q ?_
  by_cases hk:jo f n
  ·have e:=E.2.1 hk
   subst e
   refine Rj E.1 fun x A L=> ?_
   have:=A L
   unfold iy;split<;>omega
  ·refine Rj (E.2.2 hk) fun x A _=> ?_
   have:=A.1;have:=A.2
   unfold iy;split<;>omega
 ·rw [nT z (by omega)]
  have:m=f:=by
   unfold uM at h1
   rw [Int.zero_add,if_neg (fun h=>q (FB.1 h).1)] at h1
   injection h1 with h1;exact h1.symm
  subst this
  rw [L5 z] at hl ⊢
  refine fun c hc j hj=> ?_
  have:j<24:=hj.elim (o2 (z.rc hc)) (aoL (z.rc hc))
  omega
mutual
def iP:Tm->Int
 | .mk kd _ _ _ h sys=>max (dI kd 0 h) (cx sys)
def dI (kd:Int) (i:Nat):LT->Int
 |[]=>0
 |t::l=>max (bJ kd i+iP t) (dI kd (i+1) l)
def cx:LB->Int
 |[]=>0
 |b::l=>max (h7 b) (cx l)
def h7:Br Tm->Int
 | .mk _ h=>cX h
def cX:LT->Int
 |[]=>0
 |t::l=>max (1+iP t) (cX l)
end
theorem mj (kd:Int): ∀ (l:LT) (i:Nat),0<=dI kd i l:=by
 intro l
 induction l with
 |nil=>intro i;rw [dI];decide
 |cons t l h=>intro i;rw [dI];have:=h (i+1);omega
theorem e1 (t:Tm):0<=iP t:=by
 cases t;rw [iP];rename_i kd _ _ _ h _;have:=mj kd h 0;omega
abbrev bB (V D:Int) (t:Tm):Prop:=rP true V D t=true
abbrev kU (bd:Bool) (vb db:Int) (x:Tm):Prop:= ∀ {v d V D:Int} {h:Tm},0<=d->0<=V->p9 x->q7 x->rP bd V D x=true->(bd=true->D+db+iP x<=24)->uA vb db v d x= .ok h->rP bd (V+vb) (D+db) h=true
section
variable {bd:Bool} {vb db kd:Int}
theorem aqt {V v:Int} (j:0<=V) (h:0<=vb) (hv:0<=v):cQ (V+vb) v=cQ V v+vb/\0<=cQ V v:=by
 unfold cQ;rw [if_neg (by omega),if_neg (by omega)];omega
theorem aqd (j:0<=vb): ∀ {l l':LT} {i:Nat} {v d V D:Int},(∀x∈l,kU bd vb db x)->0<=d->0<=V->aZ l->dQ l->bO bd V D kd i l=true->(bd=true->D+db+dI kd i l<=24)->dm vb db v d kd i l= .ok l'->bO bd (V+vb) (D+db) kd i l'=true:=by
 intro l
 induction l with
 |nil=>intro l' i v d V D _ _ _ _ _ _ _ h;rw [dm] at h;injection h with h;subst h;rw [bO]
 |cons t l A=>
  intro l' i v d V D h hd z ho q ha hb hl
  rw [dm] at hl
  obtain ⟨J,B,hl⟩:=i8 hl
  obtain ⟨m,E,hl⟩:=i8 hl
  injection hl with hl;subst hl
  rw [aZ] at ho
  rw [dQ] at q
  rw [bO,qC] at ha ⊢
  rw [dI] at hb
  have:=gr kd i;have:=g7 kd i
  obtain ⟨F,q2⟩:=aqt (v:=tZ kd i) z j (by omega)
  refine ⟨?_,A (fun x I=>h x (by simp [I])) hd z ho.2 q.2 ha.2 (fun e=>by have:=hb e;omega) E⟩
  have:=h t (by simp) (by omega) q2 ho.1 q.1 ha.1 (fun e=>by have:=hb e;omega) B
  rw [F,show D+db+bJ kd i=D+bJ kd i+db by omega];exact this
theorem aqe (z:0<=vb): ∀ {l l':LT} {v d V D:Int},av kd<=1->(∀x∈l,kU bd vb db x)->0<=d->0<=V->aZ l->dQ l->ca bd V D kd l=true->(bd=true->D+db+cX l<=24)->FK vb db v d kd l= .ok l'->ca bd (V+vb) (D+db) kd l'=true:=by
 intro l
 induction l with
 |nil=>intro l' v d V D _ _ _ _ _ _ _ _ h;rw [FK] at h;injection h with h;subst h;rw [ca]
 |cons t l A=>
  intro l' v d V D B h hd q ho j ha hb hl
  rw [FK] at hl
  obtain ⟨J,E,hl⟩:=i8 hl
  obtain ⟨m,F,hl⟩:=i8 hl
  injection hl with hl;subst hl
  rw [aZ] at ho
  rw [dQ] at j
  rw [ca,qC] at ha ⊢
  rw [cX] at hb
  have:=IB kd
  refine ⟨?_,A B (fun x I=>h x (by simp [I])) hd q ho.2 j.2 ha.2 (fun e=>by have:=hb e;omega) F⟩
  have:=h t (by simp) (by omega) q ho.1 j.1 ha.1 (fun e=>by have:=hb e;omega) E
  rw [show D+db+av kd=D+av kd+db by omega];exact this
theorem aqf (q:0<=vb): ∀ {l l':LB} {v d V D:Int},(∀b∈l,∀x∈b.c,kU bd vb db x)->0<=d->0<=V->ba l->eA l->ck bd V D kd l=true->(bd=true->D+db+cx l<=24)->DQ vb db v d kd l= .ok l'->ck bd (V+vb) (D+db) kd l'=true:=by
 intro l
 induction l with
 |nil=>intro l' v d V D _ _ _ _ _ _ _ h;rw [DQ] at h;injection h with h;subst h;rw [ck]
 |cons b l E=>
  intro l' v d V D h hd B ho z ha hb hl
  rw [DQ] at hl
  obtain ⟨L,j,hl⟩:=i8 hl
  obtain ⟨m,F,hl⟩:=i8 hl
  injection hl with hl;subst hl
  obtain ⟨f,A⟩:=b
  rw [n8] at j
  obtain ⟨M,O,j⟩:=i8 j
  obtain ⟨I,J,j⟩:=i8 j
  injection j with j;subst j
  rw [ba,fc] at ho
  rw [eA,mZ] at z
  rw [ck,jT,qC] at ha ⊢
  rw [cx,h7] at hb
  have hb:bd=true->D+db+max (cX A) (cx l)<=24:=hb
  exact ⟨aqe q (IB kd).2 (h ⟨f,A⟩ (by simp)) hd B ho.1.2 z.1.2 ha.1 (fun e=>by have:=hb e;show D+db+cX A<=24;omega) J,E (fun b hb=>h b (by simp [hb])) hd B ho.2 z.2 ha.2 (fun e=>by have:=hb e;omega) F⟩
theorem apQ: ∀ {l l':LT} {v d:Int} {i:Nat},dm vb db v d kd i l= .ok l'->l'.length=l.length:=by
 intro l
 induction l<;>grind [dm,->i8]
theorem apU: ∀ {l l':LB} {v d:Int},DQ vb db v d kd l= .ok l'->l'.length=l.length:=by
 intro l
 induction l<;>grind [DQ,->i8]
theorem apT: ∀ {l l':LT} {v d:Int},FK vb db v d kd l= .ok l'->l'.length=l.length:=by
 intro l
 induction l<;>grind [FK,->i8]
theorem ao7 (q:0<=db): ∀ {l l':LB} {v d D:Int},0<=d->ba l->l.all (bX kd D)=true->DQ vb db v d kd l= .ok l'->l'.all (bX kd (D+db))=true:=by
 intro l
 induction l with
 |nil=>intro l' v d D _ _ _ h;rw [DQ] at h;injection h with h;subst h;rfl
 |cons b l z=>
  intro l' v d D hd ho ha hl
  rw [DQ] at hl
  obtain ⟨I,j,hl⟩:=i8 hl
  obtain ⟨m,A,hl⟩:=i8 hl
  injection hl with hl;subst hl
  obtain ⟨f,J⟩:=b
  rw [n8] at j
  obtain ⟨L,x,j⟩:=i8 j
  obtain ⟨B,E,j⟩:=i8 j
  injection j with j;subst j
  rw [ba,fc] at ho
  rw [EZ,qC] at ha ⊢
  refine ⟨?_,z hd ho.2 ha.2 A⟩
  have h1:=ha.1
  unfold bX at h1 ⊢
  simp only [qC,decide_eq_true_eq] at h1 ⊢
  have F:=(oB ho.1.1.1).1 h1.2.1
  exact ⟨by rw [apT E];exact h1.1,QF x ho.1.1.1 h1.2.1,f' F.1 hd q h1.2.2 x⟩
theorem aof (A:0<=vb) (B:0<=db) (t:Tm):kU bd vb db t:=by
 induction t using gq with
 |h kd n nm r W sys F I=>
  intro v d V D t' hd L E q ha hb h
  have Y:=q
  rw [q7] at q
  rw [uA] at h
  split at h
  ·cases h
  obtain ⟨r1,z,h⟩:=i8 h
  obtain ⟨ad,M,h⟩:=i8 h
  obtain ⟨O,J,h⟩:=i8 h
  injection h with h;subst h
  rw [rP] at ha ⊢
  rw [iP] at hb
  obtain ⟨o1,o2,o3,T,o5,o6,o7⟩:=E.node
  have j:=E
  rw [p9] at j
  have b0:=mj kd W 0
  simp only [qC] at ha ⊢
  obtain ⟨q1,q2,q3,q4⟩:=ha
  refine ⟨?_, ?_,aqd A F hd L j.2.1 q.2.1 q3 (fun e=>by have:=hb e;omega) M,aqf A I hd L j.2.2 q.2.2 q4 (fun e=>by have:=hb e;omega) J⟩
  ·cases bd with
   |false=>rfl
   |true=>
    have:=hb rfl
    rw [decide_eq_false (by omega)];rfl
  unfold cL at q2 ⊢
  simp only [qC,decide_eq_true_eq] at q2 ⊢
  obtain ⟨⟨a1,a2,a3,a4⟩,a5⟩:=q2
  refine ⟨⟨by rw [apQ M];exact a1, ?_,a3,by rw [apU J];exact a4⟩, ?_⟩
  ·by_cases c:kd=1
   ·exact .inl c
   ·exact .inr (by rw [if_neg (fun h=>c h.1)];exact a2.resolve_left c)
  ·have x:=fun h=>f' (D:=D) q.1.1 hd B h z
   by_cases c1:kd=1
   ·rw [if_pos c1] at a5 ⊢
    simp only [qC,decide_eq_true_eq] at a5 ⊢
    refine ⟨iS z a5.1, ?_, ?_⟩
    ·split<;>omega
    ·split<;>omega
   ·rw [if_neg c1] at a5 ⊢
    by_cases c2:kd=2
    ·rw [if_pos c2] at a5 ⊢
     simp only [qC,decide_eq_true_eq] at a5 ⊢
     exact ⟨iS z a5.1,a5.2⟩
    ·rw [if_neg c2] at a5 ⊢
     by_cases c3:kd=13\/kd=21\/kd=26
     ·rw [if_pos c3,qC] at a5 ⊢
      exact ⟨QH z T a5.1,x a5.2⟩
     ·rw [if_neg c3] at a5 ⊢
      by_cases c4:kd=14
      ·rw [if_pos c4,qC] at a5 ⊢
       exact ⟨QF z T a5.1,x a5.2⟩
      ·rw [if_neg c4] at a5 ⊢
       simp only [qC,decide_eq_true_eq] at a5 ⊢
       exact ⟨ao7 B hd j.2.2 a5.1 J,iS z a5.2⟩
end
theorem apg {fa:Bool} {f:LC} (hf:RX fa f) {n:Int} (hn:0<=n):RX fa (vj n f):=by
 obtain ⟨n,rfl⟩:=u1 hn
 by_cases h:n<24
 ·refine ⟨h3 hf.1.len,fun e c hc=> ?_⟩
  have q:c∈f.map (jU n):=by
   rw [(As (DC (j:=n) hf.1.len)).1] at hc
   exact (uc.1 hc).1
  obtain ⟨d,hd,rfl⟩:=xq.1 q
  refine Dg.2 fun j hj=> ?_
  obtain ⟨x,z,A,h1⟩:=(ma h (hf.1.rc hd).1 j).1 hj.1
  obtain ⟨y,B,E,h2⟩:=(ma h (hf.1.rc hd).2 j).1 hj.2
  have:x=y:=by unfold iy at h1 h2;split at h1<;>split at h2<;>omega
  subst this
  exact Dg.1 (hf.2 e d hd) x ⟨z,B⟩
 ·rw [nT hf.1 (by omega)];exact hf
theorem bf {fa:Bool} {r f g:LC} {n:Int} (hf:RX fa f) (q:RF r) (hn:0<=n) (h:H9 0 r fa n f= .ok g):RX fa g:=by
 rw [uz] at h
 obtain ⟨m,h1,h⟩:=i8 h
 injection h with h;subst h
 rw [Int.zero_add]
 refine apg ?_ hn
 unfold uM at h1
 split at h1
 ·obtain ⟨s,es,h1⟩:=i8 h1
  obtain ⟨j,rfl⟩:=rR es
  obtain ⟨h2,rfl⟩:=rR h1
  exact ap2 hf.1.2 (kQ j).2 h2
 ·injection h1 with h1;subst h1;exact hf
theorem aoo {r f g:LC} {fa:Bool} {n:Int} (hf:f.length=0) (h:H9 0 r fa n f= .ok g):g.length=0:=by
 rw [L3.1 hf] at h
 rw [apv h];rfl
abbrev lh (bd:Bool) (r:LC) (c:Int) (x:Tm):Prop:= ∀ {n V D:Int} {h:Tm},0<=n->n<=D->D-n=c->p9 x->q7 x->rP bd V (D+1) x=true->w5 (H9 0 r false) (H9 0 r true) n x= .ok h->rP bd V D h=true
section
variable {bd:Bool} {r:LC} {c kd:Int}
theorem aqk: ∀ {l l':LT} {i:Nat} {n V D:Int},(∀x∈l,lh bd r c x)->0<=n->n<=D->D-n=c->aZ l->dQ l->bO bd V (D+1) kd i l=true->aig (H9 0 r false) (H9 0 r true) n kd i l= .ok l'->bO bd V D kd i l'=true/\l'.length=l.length:=by
 intro l
 induction l with
 |nil=>intro l' i n V D _ _ _ _ _ _ _ h;rw [aig] at h;injection h with h;subst h;exact ⟨by rw [bO],rfl⟩
 |cons t l q=>
  intro l' i n V D h hn z hc ho j ha hl
  rw [aig] at hl
  obtain ⟨I,A,hl⟩:=i8 hl
  obtain ⟨m,B,hl⟩:=i8 hl
  injection hl with hl;subst hl
  rw [aZ] at ho
  rw [dQ] at j
  rw [bO,qC] at ha ⊢
  have:=gr kd i
  obtain ⟨E,q2⟩:=q (fun x F=>h x (by simp [F])) hn z hc ho.2 j.2 ha.2 B
  refine ⟨⟨h t (by simp) (n:=n+bJ kd i) (D:=D+bJ kd i) (by omega) (by omega) (by omega) ho.1 j.1 ?_ A,E⟩,by rw [uL,uL,q2]⟩
  rw [show D+bJ kd i+1=D+1+bJ kd i by omega];exact ha.1
theorem aql: ∀ {l l':LT} {n V D:Int},(∀x∈l,lh bd r c x)->0<=n->n<=D->D-n=c->aZ l->dQ l->ca bd V (D+1) kd l=true->xY (H9 0 r false) (H9 0 r true) n kd l= .ok l'->ca bd V D kd l'=true/\l'.length=l.length:=by
 intro l
 induction l with
 |nil=>intro l' n V D _ _ _ _ _ _ _ h;rw [xY] at h;injection h with h;subst h;exact ⟨by rw [ca],rfl⟩
 |cons t l q=>
  intro l' n V D h hn z hc ho j ha hl
  rw [xY] at hl
  obtain ⟨I,A,hl⟩:=i8 hl
  obtain ⟨m,B,hl⟩:=i8 hl
  injection hl with hl;subst hl
  rw [aZ] at ho
  rw [dQ] at j
  rw [ca,qC] at ha ⊢
  have:=IB kd
  obtain ⟨E,q2⟩:=q (fun x F=>h x (by simp [F])) hn z hc ho.2 j.2 ha.2 B
  refine ⟨⟨h t (by simp) (n:=n+av kd) (D:=D+av kd) (by omega) (by omega) (by omega) ho.1 j.1 ?_ A,E⟩,by rw [uL,uL,q2]⟩
  rw [show D+av kd+1=D+1+av kd by omega];exact ha.1
theorem aqm (J:RF r) (E:u9 (fun j=>j≠0/\(j:Int)<c+1) r): ∀ {l l':LB} {n V D:Int},(∀b∈l,∀x∈b.c,lh bd r c x)->0<=n->n<=D->D-n=c->ba l->eA l->ck bd V (D+1) kd l=true->vn (H9 0 r false) (H9 0 r true) n kd l= .ok l'->
  ck bd V D kd l'=true/\(l.length=0->l'.length=0)/\(l.all (bX kd (D+1))=true->l'.all (bX kd D)=true):=by
 intro l
 induction l with
 |nil=>intro l' n V D _ _ _ _ _ _ _ h;rw [vn] at h;injection h with h;subst h;exact ⟨by rw [ck],fun h=>h,fun _=>rfl⟩
 |cons b l W=>
  intro l' n V D h hn F hc ho z ha hl
  rw [vn] at hl
  obtain ⟨o,q,hl⟩:=i8 hl
  obtain ⟨m,Y,hl⟩:=i8 hl
  injection hl with hl;subst hl
  obtain ⟨f,ks⟩:=b
  rw [ba,fc] at ho
  rw [eA,mZ] at z
  rw [ck,jT,qC] at ha
  obtain ⟨L,q2,M⟩:=W (fun b hb=>h b (by simp [hb])) hn F hc ho.2 z.2 ha.2 Y
  rw [L6] at q
  obtain ⟨O,T,q⟩:=i8 q
  split at q
  ·injection q with q;subst q
   exact ⟨L,(fun h=>by cases h),fun h=>by rw [EZ,qC] at h;exact M h.2⟩
  ·obtain ⟨A,e4,q⟩:=i8 q
   injection q with q;subst q
   obtain ⟨q4,q5⟩:=aql (kd:=kd) (h ⟨f,ks⟩ (by simp)) hn F hc ho.1.2 z.1.2 ha.1 e4
   refine ⟨?_,(fun h=>by cases h),fun h=> ?_⟩
   ·show ck bd V D kd (⟨O,A⟩::m)=true
    rw [ck,jT,qC];exact ⟨q4,L⟩
   ·show (Br.mk O A::m).all (bX kd D)=true
    rw [EZ,qC] at h ⊢
    refine ⟨?_,M h.2⟩
    have h1:=h.1
    unfold bX at h1 ⊢
    simp only [qC,decide_eq_true_eq] at h1 ⊢
    have I:=(oB ho.1.1.1).1 h1.2.1
    have B:=bf (fa:=true) ⟨I.1,fun _=>I.2⟩ J hn T
    exact ⟨by rw [q5];exact h1.1,BE.right ⟨B.1,B.2 rfl⟩,aBB I.1 J hn F h1.2.2 (by rw [show D-n+1=c+1 by omega];exact E) T⟩
theorem aoV (I:RF r) (E:u9 (fun j=>j≠0/\(j:Int)<c+1) r) (t:Tm):lh bd r c t:=by
 induction t using gq with
 |h kd k nm O ks sys J L=>
  intro n V D t' hn M hc F q ha h
  have Y:=q
  rw [q7] at q
  rw [w5] at h
  obtain ⟨r1,z,h⟩:=i8 h
  obtain ⟨ad,e2,h⟩:=i8 h
  obtain ⟨T,e3,h⟩:=i8 h
  injection h with h;subst h
  rw [rP] at ha ⊢
  obtain ⟨o1,o2,o3,o4,o5,o6,o7⟩:=F.node
  have x:=F
  rw [p9] at x
  simp only [qC] at ha ⊢
  obtain ⟨q1,q2,q3,q4⟩:=ha
  obtain ⟨k1,k2⟩:=aqk J hn M hc x.2.1 q.2.1 q3 e2
  obtain ⟨s1,s2,s3⟩:=aqm I E L hn M hc x.2.2 q.2.2 q4 e3
  refine ⟨?_, ?_,k1,s1⟩
  ·cases bd with
   |false=>rfl
   |true=>
    have: ¬D+1>24:=by simpa using q1
    rw [decide_eq_false (by omega)];rfl
  unfold cL at q2 ⊢
  simp only [qC,decide_eq_true_eq] at q2 ⊢
  obtain ⟨⟨a1,a2,a3,a4⟩,a5⟩:=q2
  refine ⟨⟨by rw [k2];exact a1,a2,a3,fun h=>s2 (a4 h)⟩, ?_⟩
  have B: ∀ {fa:Bool},dg O (D+1)=true->H9 0 r fa n O= .ok r1->dg r1 D=true:=fun hl he=>aBB q.1.1 I hn M hl (by rw [show D-n+1=c+1 by omega];exact E) he
  by_cases c4:kd=14
  ·subst c4
   rw [if_neg (by decide),if_neg (by decide),if_neg (by decide),if_pos rfl,qC] at a5 ⊢
   rw [if_pos rfl] at z
   have W:=(oB o4).1 a5.1
   have A:=bf (fa:=true) ⟨W.1,fun _=>W.2⟩ I hn z
   exact ⟨BE.right ⟨A.1,A.2 rfl⟩,B a5.2 z⟩
  ·rw [if_neg c4] at z
   rw [if_neg c4] at a5 ⊢
   by_cases c1:kd=1
   ·rw [if_pos c1] at a5 ⊢
    simp only [qC,decide_eq_true_eq] at a5 ⊢
    exact ⟨aoo a5.1 z,a5.2⟩
   ·rw [if_neg c1] at a5 ⊢
    by_cases c2:kd=2
    ·rw [if_pos c2] at a5 ⊢
     simp only [qC,decide_eq_true_eq] at a5 ⊢
     exact ⟨aoo a5.1 z,a5.2⟩
    ·rw [if_neg c2] at a5 ⊢
     by_cases c3:kd=13\/kd=21\/kd=26
     ·rw [if_pos c3,qC] at a5 ⊢
      have A:=bf (fa:=false) ⟨q.1.1,fun h=>by cases h⟩ I hn z
      exact ⟨A.1.right,B a5.2 z⟩
     ·rw [if_neg c3] at a5 ⊢
      simp only [qC,decide_eq_true_eq] at a5 ⊢
      exact ⟨s3 a5.1,aoo a5.2 z⟩
end
section
variable {vb db kd:Int}
end
variable {S:Type} {k:Nat}
def Alo (pz:LC) (en:Cl) (f:LC):Prop:= ∃f1,NF (ua pz 0 1)= .ok f1/\NF (EQ f1 [en])= .ok f
theorem ap5:RC ⟨0,1⟩:=⟨⟨by decide,by decide⟩,by decide,by decide⟩
theorem ap6:RC ⟨1,0⟩:=⟨⟨by decide,by decide⟩,by decide,by decide⟩
theorem aQu {line a t:Tm} {pz r:LC} {en:Cl} (h:Fs line pz a en r= .ok t):xV [line,a]=0/\cV pz=true/\bw t=0/\RR line pz a en r= .ok t/\
  ∃f l a',Alo pz en f/\di r line= .ok l/\J6 0 1 a= .ok a'/\t= .mk 14 0 qw f [l,a'] []:=by
 unfold Fs at h
 split at h
 case isFalse=>cases h
 rename_i h1
 split at h
 case isFalse=>cases h
 rename_i h2
 unfold FJ at h
 obtain ⟨E,j,h⟩:=i8 h
 split at h
 case isFalse=>cases h
 rename_i q
 injection h with h;subst h
 refine ⟨h1,h2,q,j, ?_⟩
 unfold RR at j
 obtain ⟨f1,x,j⟩:=i8 j
 obtain ⟨f,z,j⟩:=i8 j
 obtain ⟨l,A,j⟩:=i8 j
 obtain ⟨a',B,j⟩:=i8 j
 injection j with j
 exact ⟨f,l,a',⟨f1,x,z⟩,A,B,j.symm⟩
end
section
theorem aoS {V D:Int} {t:Tm} (h:bB V D t):D<=24:=by
 cases t
 unfold bB at h
 rw [rP] at h
 simp only [Bool.true_and,qC,Bool.not_eq_true',decide_eq_false_iff_not] at h
 omega
theorem lN (j:Nat):((1:Nat).testBit j=true↔j=0)/\((2:Nat).testBit j=true↔j=1)/\((4:Nat).testBit j=true↔j=2):=by
 refine ⟨?_, ?_, ?_⟩
 ·rw [show 1=2^0 from rfl,Nat.testBit_two_pow,decide_eq_true_eq];exact eq_comm
 ·rw [show 2=2^1 from rfl,Nat.testBit_two_pow,decide_eq_true_eq];exact eq_comm
 ·rw [show 4=2^2 from rfl,Nat.testBit_two_pow,decide_eq_true_eq];exact eq_comm
theorem Dj (V:Int):cQ V 0=V:=by unfold cQ;split<;>omega
theorem fk {V:Int} (h:0<=V):cQ V 1=V+1:=by unfold cQ;rw [if_neg (by omega)]
theorem u_ {D:Int} (h:1<=D):dg [⟨1,0⟩] D=true:=(L5 (gS ap6)).2 (xG.2 fun j hj=>by
 rcases hj with hj|hj
 ·have:=(lN j).1.1 hj;omega
 ·exact absurd hj (a8 _ _))
theorem apt:cV [⟨1,0⟩]=true:=by decide
theorem aQy {D:Int} (h:1<=D):dg [⟨0,1⟩] D=true:=(L5 (gS ap5)).2 (xG.2 fun j hj=>by
 rcases hj with hj|hj
 ·simp [hp] at hj
 ·have:=(lN j).1.1 hj;omega)
theorem aSq {j:Nat->Prop} {f g:LC} (h:u9 j f) (h':u9 j g):u9 j (EQ f g).1:=by
 unfold EQ
 split
 ·exact b6 h h'
 ·exact K4 _
variable {S:Type} {k:Nat}
def MC (t:Tm) (V D:Int):Int:=if V<0\/D<0\/D>24 then 2 else if am t>200 then 62 else if au t>20000 then 221 else if rP true V D t then 0 else 100
theorem nK {t:Tm} (h:In k t) (hk:F3 k) {V D:Int} (A:V<9223372036854775808) (B:D<1000000) (I:Int->OS S):xr k t V D I=I (MC t V D):=by
 simp only [xr,ag hk.fu,ar,aY]
 unfold MC
 by_cases h1:V<0
 ·rw [if_pos h1,if_pos (.inl h1)]
 rw [if_neg h1]
 by_cases h2:D<0
 ·rw [if_pos h2,if_pos (.inr (.inl h2))]
 rw [if_neg h2]
 by_cases x:D>24
 ·rw [if_pos x,if_pos (.inr (.inr x))]
 have z:=h.dep
 rw [if_neg x,if_neg (by omega),ajZ h.1 h.2.1]
 by_cases j:am t>200
 ·rw [if_pos j,if_pos j];rfl
 rw [if_neg j,if_neg j]
 by_cases q:au t>20000
 ·rw [if_pos q,if_pos q];rfl
 rw [if_neg q,if_neg q,show (!((0:Int)==0))=false from rfl,n3,aC5 t h.1 _ h.2.1 ⟨by omega,by omega,by omega,by omega⟩]
 cases rP true V D t<;>rfl
theorem aoN {t:Tm} {V D:Int} (h:MC t V D=0):0<=V/\0<=D/\bB V D t:=by
 unfold MC at h
 split at h
 ·cases h
 split at h
 ·cases h
 split at h
 ·cases h
 split at h
 ·exact ⟨by omega,by omega,by assumption⟩
 ·cases h
theorem BI {l:LT} {x:Except Int Tm} {t:Tm} (h:c6 l x= .ok t):xV l=0/\bw t=0/\x= .ok t:=by
 unfold c6 at h
 split at h
 case isFalse=>cases h
 rename_i h1
 unfold FJ at h
 obtain ⟨z,j,h⟩:=i8 h
 split at h
 case isFalse=>cases h
 rename_i q
 injection h with h;subst h
 exact ⟨h1,q,j⟩
theorem R3 {l:LT} {x:Except Int Tm} {e:Int} (q: ∀e,x= .error e->e≠0) (h:c6 l x= .error e):e≠0:=by
 unfold c6 at h
 split at h
 ·unfold FJ at h
  rcases be h with h|⟨t,_,h⟩
  ·exact q e h
  ·split at h
   ·cases h
   ·rename_i j;injection h with h;exact h▸j
 ·rename_i j;injection h with h;exact h▸j
theorem eG {line a:Tm} {pz r:LC} {en:Cl} {e:Int} (h:Fs line pz a en r= .error e):e≠0:=by
 unfold Fs at h
 split at h
 ·split at h
  ·unfold FJ at h
   rcases be h with h|⟨t,_,h⟩
   ·have:=aES h;omega
   ·split at h
    ·cases h
    ·rename_i j;injection h with h;exact h▸j
  ·injection h with h;omega
 ·rename_i j;injection h with h;exact h▸j
def ut {α:Type} (x:Except Int α):Int:=match x with
 | .ok _=>0
 | .error e=>e
theorem NG {t:Tm} {n:Int} (hn:n=(t.c.length:Int)-1):List.drop (BT 1) (List.take (BT n) t.c)=xR t:=by
 have:BT n=t.c.length-1:=by omega
 rw [this];rfl
theorem aJ9 (t:Tm):(xR t).length<=t.c.length:=by unfold xR;rw [List.length_drop,List.length_take];omega
theorem kv {t x:Tm} (h:x∈xR t):x∈t.c:=List.mem_of_mem_take (List.mem_of_mem_drop h)
theorem By (hk:F3 k) {t p a:Tm} {c n:Int} (hn:n=(t.c.length:Int)-1) (h1:2<=t.c.length) (hl:t.c.length<1073741000) (I:Int×Int×BA×LT×Int->OS S):
  nc k p 0 a t n c I=I (t.k,0,qw,p::xR t++[a],c):=by
 have h:4294968296<=k:=hk
 have j:=aJ9 t
 have:=aeM I hk (c0:=t) (a:=a) (e:=c) (NG hn) (by omega) (xR t) [] [p] k rfl (by omega) (by simp;omega)
 simp only [nc,BP,ar]
 rw [fN _ (by omega)]
 exact this
theorem Rm (hk:F3 k) {t p a:Tm} {c n:Int} (ft:Fm t) (hn:n=(t.c.length:Int)-1) (h1:2<=t.c.length) (I:Int×Int×BA×LT×Int->OS S):
  ∃l,nc k p 1 a t n c I=I (t.k,0,qw,p::l++[a],ut (dt c (F6 (xR t))))/\ ∀l',dt c (F6 (xR t))= .ok l'->l=l':=by
 have j:4294968296<=k:=hk
 have q:=aJ9 t
 have z:=ft.ok.no.2.2.2.2.2.1
 have A:t.c.length<=20000:=by
  have h:=ft.eO
  have A:=rM t
  have: ∀l:LT,l.length<=ay l:=by
   intro l
   induction l with
   |nil=>simp
   |cons x l F=>rw [ay,uL];have:=mB x;omega
  have:=this t.c
  omega
 obtain ⟨l,h2,B⟩:=aeN I hk (c0:=t) (a:=a) (NG hn) (by omega) (fun y E=>ft.bD (kv E)) (xR t) [] [p] k c rfl (by omega) (by simp;omega)
 refine ⟨l, ?_,B⟩
 simp only [nc,BP,ar]
 rw [fN _ (by omega)]
 refine h2.trans ?_
 unfold ut
 cases dt c (F6 (xR t))<;>rfl
theorem aBz (hk:F3 k) (I:Tm×Bool×Int->OS S) {r9 De:Tm×Int} {r13:Int×Int×BA×LT×Int} {t x:Tm} (ft:Fm t) (h1:2<=t.c.length) (B: ∀b∈x.s,b.c=[AK b]) (E:x.s.length<=20000) {c:Int} (hc:c≠0):
  ∀ (r p acc:LB) (m:Nat),x.s=p++r->r.length<m->acc.length+r.length<=20000->fX k I t r9 De r13 t x m c acc (p.length:Int)=I (pX,false,c):=by
 have F:4294968296<=k:=hk
 have J:p5 .i64 ((t.c.length:Int)-1)=(t.c.length:Int)-1:=xi (by omega) (by have:=ft.ok.no.2.2.2.2.2.1;omega)
 intro r
 induction r with
 |nil=>
  intro p acc m h A ha
  obtain ⟨m,rfl,q⟩:=qI A
  simp only [fX,oR,zt h,n3,ag hk.fu,ar]
  rw [Rx hk (fun h=>absurd h hc) (fun e h=>R3 (fun e h=>by have:=o_ h;omega) h),n9 hc,Ry hk (gQ hk)]
  exact JF hc I
 |cons b r L=>
  intro p acc m h A ha
  obtain ⟨m,rfl,q⟩:=qI A
  obtain ⟨M,O,T,W⟩:=sX h (by omega)
  have Y:af b.c 0=some (AK b):=ED (n:=0) rfl (by rw [B b (by rw [h];simp)];rfl)
  rw [uL] at ha
  simp only [fX,oR,M,ae,O,rf,Y,ag hk.fu,ar,J,T]
  obtain ⟨l,h2,_⟩:=Rm (p:=r9.1) (a:=AK b) (c:=c) hk ft rfl h1 fun j=>xF k b.f [(Tm.mk j.1 j.2.1 j.2.2.1 [] j.2.2.2.1 [])] fun z=>pA (aw 1099511627776 acc.length [z].length) fun ad=>fX k I t r9 De r13 t x m j.2.2.2.2 (acc++[z]) (((p++[b]).length:Nat):Int)
  refine h2.trans ?_
  rw [lb hc]
  simp only [xF,ut]
  rw [J5 (by simp;omega)]
  exact L (p++[b]) _ m W q (by rw [Is,List.length_singleton];omega)
theorem I_: ∀ {l l':LT},(∀y∈l,Fm y)->F6 l= .ok l'->(∀y∈l',Fm y)/\l'.length=l.length:=by
 intro l
 induction l with
 |nil=>intro l' _ h;rw [F6] at h;injection h with h;subst h;exact ⟨fun y j=>(by cases j),rfl⟩
 |cons x l q=>
  intro l' hf h
  rw [F6] at h
  obtain ⟨y,h1,h⟩:=i8 h
  obtain ⟨m,h2,h⟩:=i8 h
  injection h with h;subst h
  obtain ⟨i1,i2⟩:=q (fun y j=>hf y (by simp [j])) h2
  have fy:=mD (by omega) (hf x (by simp)) h1
  refine ⟨fun z hz=> ?_,by simp [i2]⟩
  rcases BB.1 hz with rfl|hz
  ·exact fy
  ·exact i1 z hz
theorem aka {n:Nat}: ∀ {l:LT},(∀x∈l,au x<=n)->ay l<=l.length*n:=by
 intro l
 induction l with
 |nil=>intro _;rw [ay];simp
 |cons x l j=>
  intro h
  rw [ay,uL,Nat.succ_mul]
  have:=j fun y q=>h y (by simp [q])
  have:=h x (by simp)
  omega
theorem aag {n:Nat}: ∀ {l:LT},(∀x∈l,am x<=n)->aH l<=n:=by
 intro l
 induction l with
 |nil=>intro _;rw [aH];omega
 |cons x l j=>intro h;rw [aH];have:=j fun y q=>h y (by simp [q]);have:=h x (by simp);omega
theorem pO {kd:Int} (j:kd=22\/kd=27) {p a:Tm} {l:LT} (fp:Fm p) (fa:Fm a) (fl: ∀y∈l,Fm y) (hl:l.length<=3):Sm 100001 (ig kd p l a)/\am (ig kd p l a)<=201:=by
 have h: ∀x∈p::l++[a],Fm x:=fun x hx=>by
  rcases zx.1 hx with hx|hx
  ·rcases BB.1 hx with rfl|hx
   ·exact fp
   ·exact fl x hx
  ·rw [List.mem_singleton] at hx;subst hx;exact fa
 have hlen:(p::l++[a]).length<=5:=by simp;omega
 have q:ay (p::l++[a])<=100000:=zj (aka fun x hx=>(h x hx).eO) (zj (Iq _ hlen) (by omega))
 have hd:aH (p::l++[a])<=200:=aag fun x hx=>(h x hx).dep
 refine ⟨(Hn (kd:=kd) (by omega) (r:=[]) ⟨(fun c hc=>by cases hc),by simp⟩ (ks:=p::l++[a]) (sys:=[]) (n:=100000) (m:=0) (fun x hx=>⟨(h x hx).ok,by have:=(h x hx).dep;omega⟩) (by omega) q (by rw [ba];trivial) (by simp) (by rw [aO];omega) (by rw [aI];omega)).mono (by omega), ?_⟩
 rw [am,aO];omega
theorem Jb (hk:F3 k) {n:Nat} (hn:n<=50000000) {l:LB} (h:Mb n l) (hl:l.length<=20000) (hd:aO l<=299):In k (J4 l):=by
 have q:aI l<=1000000000000:=zj h.eO (zj (Nat.mul_le_mul hl hn) (by omega))
 have hs:au pX<=1:=by unfold pX;rw [au,ay,aI];omega
 have z:am pX<=1:=by unfold pX;rw [am,aH,aO];omega
 refine (show Sm (10+1000000000000+1) (J4 l) from ?_).isIn hk (by omega)
 unfold J4
 exact Hn (kd:=15) (by omega) (r:=[]) ⟨(fun c hc=>by cases hc),by simp⟩ (fun x j=>by
  simp at j
  subst j
  refine ⟨?_, ?_⟩
  ·rw [p9,aZ,ba];exact ⟨⟨by unfold aG;omega,by unfold aG;omega,by decide,(fun c hc=>by cases hc),by simp,by simp,by simp⟩,trivial,trivial⟩
  ·rw [am,aH,aO];omega) (by simp) (by rw [ay,ay,ay,au,ay,aI];simp) h.ok (by omega) hd q
theorem Jc (hk:F3 k) {x:Tm} (fx:Fm x):In k (J4 x.s):=by
 obtain ⟨q,z,A,B,E,F,I⟩:=fx.ok.no
 have hs:ba x.s:=by have:=fx.ok;cases x;rw [p9] at this;exact this.2.2
 have hd:aO x.s<=299:=by have:=fx.dep;cases x;rw [am] at this;show aO _<=299;simp only [Tm.s];omega
 have j:aI x.s<=20000:=by have:=fx.eO;cases x;rw [au] at this;show aI _<=20000;simp only [Tm.s];omega
 unfold J4
 exact (Hn (kd:=15) (by omega) (r:=[]) ⟨(fun c hc=>by cases hc),by simp⟩ (n:=10) (fun y h=>by
  simp at h
  subst h
  refine ⟨?_, ?_⟩
  ·rw [p9,aZ,ba];exact ⟨⟨by unfold aG;omega,by unfold aG;omega,by decide,(fun c hc=>by cases hc),by simp,by simp,by simp⟩,trivial,trivial⟩
  ·rw [am,aH,aO];omega) (by simp) (by rw [ay,ay,ay,au,ay,aI];simp) hs (by omega) hd j).isIn hk (by omega)
theorem BJ {l:LT} {x:Except Int Tm} {e:Int} (j: ∀e,x= .error e->0<e/\e<=1000) (h:c6 l x= .error e):e≠0:=R3 (fun e h=>by have:=j e h;omega) h
theorem wg {a b c:Tm} (ha:p9 a) (hb:p9 b) (hc:p9 c) (h:xV [a,b,c]=0):Fm a/\Fm b/\Fm c:=by
 have:=R0 (l:=[a,b,c]) (fun x j=>by
  simp at j
  rcases j with rfl|rfl|rfl
  ·exact ha
  ·exact hb
  ·exact hc) h
 exact ⟨this a (by simp),this b (by simp),this c (by simp)⟩
theorem aeY (hk:F3 k) (I:Tm×Bool×Int->OS S) {r9 De:Tm×Int} {r13:Int×Int×BA×LT×Int} {t x:Tm} (ft:Fm t) (F:t.k=22\/t.k=27) (h1:2<=t.c.length/\t.c.length<=5) (fb:Fm r9.1) (hx: ∀b∈x.s,b.c=[AK b]/\Fm (AK b)/\RX true b.f) (J:x.s.length<=20000)
  (hl:In k De.1) (ha:In k (.mk r13.1 r13.2.1 r13.2.2.1 [] r13.2.2.2.1 [])):
  ∀ (r p acc:LB) (m:Nat),x.s=p++r->r.length<m->Mb 110000 acc->aO acc<=299->acc.length+r.length<=20000->
   fX k I t r9 De r13 t x m 0 acc (p.length:Int)=I (Hu (bE (MU t.k r9.1 (xR t) r) fun l=>c6 [De.1,.mk r13.1 r13.2.1 r13.2.2.1 [] r13.2.2.2.1 [],J4 (acc++l)] (dF De.1 (.mk r13.1 r13.2.1 r13.2.2.1 [] r13.2.2.2.1 []) (acc++l)))):=by
 have ao:4294968296<=k:=hk
 have hw:p5 .i64 ((t.c.length:Int)-1)=(t.c.length:Int)-1:=xi (by omega) (by omega)
 intro r
 induction r with
 |nil=>
  intro p acc m h L hb hd j
  obtain ⟨m,rfl,A⟩:=qI L
  have z:=Jb hk (by omega) hb (by simpa using j) hd
  simp only [fX,oR,zt h,n3,ag hk.fu,ar]
  rw [Rx hk (fun _=>⟨hl,ha,z⟩) (fun e h=>BJ (fun e h=>o_ h) h),kR,MU,aD,zr]
  have M:=akc hk (l:=[De.1,.mk r13.1 r13.2.1 r13.2.2.1 [] r13.2.2.2.1 [],J4 acc]) (x:=dF De.1 (.mk r13.1 r13.2.1 r13.2.2.1 [] r13.2.2.2.1 []) acc) fun O y T=>by
   obtain ⟨f1,f2,f3⟩:=wg hl.1 ha.1 z.1 O
   exact (yu hk f1 f2 (iQ f3) T).1
  rw [Ry hk M]
  cases B:c6 [De.1,.mk r13.1 r13.2.1 r13.2.2.1 [] r13.2.2.2.1 [],J4 acc] (dF De.1 (.mk r13.1 r13.2.1 r13.2.2.1 [] r13.2.2.2.1 []) acc) with
  |error e=>exact JF (BJ (fun e h=>o_ h) B) I
  |ok y=>exact qL I
 |cons b r ih=>
  intro p acc m h L hb hd j
  obtain ⟨m,rfl,A⟩:=qI L
  obtain ⟨e1,e2,e3,e4⟩:=sX h (by omega)
  obtain ⟨W,Y,ad⟩:=hx b (by rw [h];simp)
  have hg:af b.c 0=some (AK b):=ED (n:=0) rfl (by rw [W];rfl)
  rw [uL] at j
  simp only [fX,oR,e1,ae,e2,rf,hg,ag hk.fu,ar,hw,e3]
  obtain ⟨l,h2,h3⟩:=Rm (p:=r9.1) (a:=AK b) (c:=0) hk ft rfl h1.1 fun q=>xF k b.f [(Tm.mk q.1 q.2.1 q.2.2.1 [] q.2.2.2.1 [])] fun E=>pA (aw 1099511627776 acc.length [E].length) fun ax=>fX k I t r9 De r13 t x m q.2.2.2.2 (acc++[E]) (((p++[b]).length:Nat):Int)
  refine h2.trans ?_
  rw [oH] at h3 ⊢
  simp only [xF]
  rw [J5 (by simp;omega),MU]
  cases B:F6 (xR t) with
  |error e=>
   have he:=Ue B
   rw [lk,lk,show ut (.error e:Except Int (LT))=e from rfl]
   exact aBz hk I ft h1.1 (fun b hb=>(hx b hb).1) J (by omega) r (p++[b]) _ m e4 A (by rw [Is,List.length_singleton];omega)
  |ok ms=>
   have hle:=h3 ms B
   subst hle
   obtain ⟨fm,az⟩:=I_ (fun y T=>ft.bD (kv T)) B
   have a6:(xR t).length<=3:=by unfold xR;rw [List.length_drop,List.length_take];omega
   obtain ⟨q1,q2⟩:=pO F fb Y fm (by omega)
   rw [aD,show ut (.ok l:Except Int (LT))=0 from rfl]
   refine (ih (p++[b]) (acc++[⟨b.f,[ig t.k r9.1 l (AK b)]⟩]) m e4 A (Ju hb (G9 ad) (q1.mono (by omega))) (by rw [zF,aO,Fy,aH,aH,aO];omega) (by rw [Is,List.length_singleton];omega)).trans ?_
   congr 2
   cases MU t.k r9.1 (xR t) r with
   |error e=>rfl
   |ok l'=>rw [aD,aD,aD,List.append_assoc];rfl
theorem KP {l:LT} (h:1<=l.length):af l 0=some (l.getD 0 pX):=by
 cases l with
 |nil=>simp at h
 |cons a l=>rfl
theorem nw {t:Tm} (h:2<=t.c.length):af t.c ((t.c.length:Int)-1)=some (xZ t)/\xZ t∈t.c:=by
 have e:((t.c.length:Int)-1)=((t.c.length-1:Nat):Int):=by omega
 have hl:t.c.length-1<t.c.length:=by omega
 have h2:t.c[t.c.length-1]? =some (t.c[t.c.length-1]):=Bw hl
 have j:xZ t=t.c[t.c.length-1]:=by unfold xZ;rw [List.getD_eq_getElem?_getD,h2];rfl
 rw [e,pU,j]
 exact ⟨h2,List.getElem_mem hl⟩
theorem aeX (x:F4 k) {t:Tm} (ft:Fm t) (B:t.k=22\/t.k=27) (E:(xZ t).k=15) (I:Tm×Bool×Int->OS S):l6 k I t k=I (Hu (Te t.k (t.c.getD 0 pX) (xR t) (xZ t))):=by
 have hk:=x.f3
 have ao:4294968296<=k:=hk
 have hlen:2<=t.c.length/\t.c.length<=5:=by
  have:=ft.nk
  rcases B with h|h<;>rw [h] at this
  ·have e:ct 22=4:=rfl
   omega
  ·have e:ct 27=5:=rfl
   omega
 obtain ⟨gl,ml⟩:=nw hlen.1
 have fx:=ft.bD ml
 obtain ⟨u,a,z⟩:=I8 (E5 fx E (n:=2) rfl)
 obtain ⟨J,L⟩:=KQ z
 obtain ⟨M,O⟩:=EC z
 have fu:Fm u:=fx.bD (by rw [z];simp)
 have fa:Fm a:=fx.bD (by rw [z];simp)
 obtain ⟨sy,A⟩:=fx.sy E
 have g0:=KP (show 1<=t.c.length by omega)
 have fp:Fm (t.c.getD 0 pX):=ft.bD (by
  match h:t.c,hlen.1 with
  |a::l,_=>simp)
 have hw:p5 .i64 ((t.c.length:Int)-1)=(t.c.length:Int)-1:=xi (by omega) (by omega)
 have F:=Jc hk fx
 have hC: ∀ {c:Int} (hc:c≠0) (r9 De:Tm×Int) (r13:Int×Int×BA×LT×Int),fX k I t r9 De r13 t (xZ t) k c [] 0=I (pX,false,c):=fun hc r9 De r13=>aBz hk I ft hlen.1 (fun b hb=>(sy b hb).1) A hc (xZ t).s [] [] k rfl (by omega) (by simpa using A)
 obtain ⟨q,hq⟩: ∃q,k=q+1:=⟨k-1,by omega⟩
 have main: ∀j,j=q+1->l6 k I t j=I (Hu (Te t.k (t.c.getD 0 pX) (xR t) (xZ t))):=by
  rintro j rfl
  simp only [l6,w_,ag hk.fu,ar,hw]
  rw [vU t ft.1 _ (ft.isIn hk).2.1]
  simp only [gl,rf,J,L,g0]
  rw [ajm hk (fun _=>⟨fu.isIn hk,fa.isIn hk,F⟩) (fun e h=>BJ (fun e h=>uw h) h),kR]
  unfold Te
  rw [M,O]
  cases hf:c6 [u,a,J4 (xZ t).s] (FI u a (xZ t).s) with
  |error e=>
   have he:=BJ (fun e h=>uw h) hf
   rw [show (tE (.error e)).2=e from rfl,Rv hk (fun h=>absurd h he),n9 he]
   rw [Hf x (fun h=>absurd h he),n9 he,By hk rfl hlen.1 (by omega)]
   exact hC he _ _ _
  |ok f=>
   obtain ⟨so,ff,T⟩:=BI hf
   have W:Fm f:=⟨(ux hk fu fa (iQ (wg fu.ok fa.ok F.1 so).2.2) T).1.1,ff⟩
   rw [show (tE (.ok f)).2=0 from rfl,show (tE (.ok f)).1=f from rfl,Rv hk (fun _=>fp),kR,aD]
   cases hb:J6 0 1 (t.c.getD 0 pX) with
   |error e=>
    have he:e≠0:=by have:=zn hb;omega
    rw [show (tE (.error e)).2=e from rfl,Hf x (fun h=>absurd h he),n9 he,By hk rfl hlen.1 (by omega)]
    exact hC he _ _ _
   |ok b=>
    have fb:=mD (by omega) fp hb
    have Y:ri 0 b f=Jn 0 b f:=by unfold ri sh;rw [if_pos fb.2,if_pos W.2]
    rw [show (tE (.ok b)).2=0 from rfl,show (tE (.ok b)).1=b from rfl,Hf x (fun _=>⟨fb.isIn hk,W.isIn hk⟩),kR,aD,Y]
    cases hp:Jn 0 b f with
    |error e=>
     have he:e≠0:=by have:=AL hp;omega
     rw [show (tE (.error e)).2=e from rfl,By hk rfl hlen.1 (by omega)]
     exact hC he _ _ _
    |ok line=>
     have fl:=qU (by omega) fb W hp
     rw [show (tE (.ok line)).2=0 from rfl,By hk rfl hlen.1 (by omega),aD]
     have fm: ∀y∈xR t,Fm y:=fun y hy=>ft.bD (kv hy)
     have ad:(xR t).length<=3:=by unfold xR;rw [List.length_drop,List.length_take];omega
     obtain ⟨q1,q2⟩:=pO B fp fa fm ad
     exact aeY hk I (r9:=(b,0)) (De:=(line,0)) (r13:=(t.k,0,qw,t.c.getD 0 pX::xR t++[a],0)) ft B hlen fb sy A (fl.isIn hk) (q1.isIn hk (by omega)) (xZ t).s [] [] k rfl (by omega) (Dp _) (by rw [aO];omega) (by simpa using A)
 exact main k hq
theorem ajh (A:F4 k) {t:Tm} (B:In k t) (I:Tm×Bool×Int->OS S):tL k t I=I (pP t):=by
 have hk:=A.f3
 simp only [tL,HU,ag hk.fu,ar,E9 B.1 B.2.1 B.dep]
 unfold pP
 by_cases E:bw t=0
 case neg=>rw [dj E,ub,ae,if_pos E];rfl
 rw [E,show (!((0:Int)==0))=false from rfl,n3,if_neg (by simp)]
 have ft:Fm t:=⟨B.1,E⟩
 have hlen:(t.k=22\/t.k=27)->2<=t.c.length:=fun h=>by
  have:=ft.nk
  rcases h with h|h<;>rw [h] at this
  ·have e:ct 22=4:=rfl
   omega
  ·have e:ct 27=5:=rfl
   omega
 have F:p5 .i64 ((t.c.length:Int)-1)=(t.c.length:Int)-1:=xi (by omega) (by have:=ft.ok.no.2.2.2.2.2.1;omega)
 have main:(t.k=22\/t.k=27)-> ∀g:Tm->OS S,g (xZ t)=ab (!((xZ t).k==15)) (I (pX,false,0)) (l6 k I t k)->g (xZ t)=I (if (t.k=22\/t.k=27)/\(xZ t).k=15 then Hu (Te t.k (t.c.getD 0 pX) (xR t) (xZ t)) else (pX,false,0)):=fun h g J=>by
  rw [J]
  by_cases j:(xZ t).k=15
  case neg=>rw [beq_false_of_ne j,ub,ae,if_neg (fun h=>j h.2)]
  rw [if_pos ⟨h,j⟩,j,show (!((15:Int)==15))=false from rfl,n3]
  exact aeX A ft h j I
 by_cases q:t.k=22
 ·rw [show (!(t.k==22))=false from by simpa using q,n3,F,(nw (hlen (.inl q))).1,rf]
  exact main (.inl q) (fun x=>ab (!(x.k==15)) (I (pX,false,0)) (l6 k I t k)) rfl
 rw [show (!(t.k==22))=true from by simpa using q,ae]
 by_cases z:t.k=27
 case neg=>rw [show (!(t.k==27))=true from by simpa using z,ae,if_neg (fun h=>by omega)];rfl
 rw [show (!(t.k==27))=false from by simpa using z,n3,F,(nw (hlen (.inr z))).1,rf]
 exact main (.inr z) (fun x=>ab (!(x.k==15)) (I (pX,false,0)) (l6 k I t k)) rfl
theorem BH {l:LT} {x:Except Int Tm} {e:Int} (q: ∀e,x= .error e->0<e/\e<=1000) (h:c6 l x= .error e):0<e/\e<=1000:=by
 unfold c6 at h
 have hs:=aki l
 split at h
 ·unfold FJ at h
  rcases be h with h|⟨t,_,h⟩
  ·exact q e h
  ·have:=Et t
   split at h
   ·cases h
   ·rename_i j;injection h with h;subst h;omega
 ·rename_i j;injection h with h;subst h;omega
def k1 (b:Br Tm):Tm:=b.c.getD 1 pX
theorem Fm.gl {t:Tm} (h:Fm t) (hk:t.k=16):(∀b∈t.s,b.c=[AK b,k1 b]/\Fm (AK b)/\Fm (k1 b)/\RX true b.f)/\t.s.length<=20000/\ ∃a,t.c=[a]/\Fm a:=by
 have ho:=h.own
 have j: ∀b∈t.s,b.c.length=2:=fun b hb=>by
  obtain ⟨kd,n,z,r,q,sys⟩:=t
  have hk:kd=16:=hk
  subst hk
  have ho:(_&&(sys.all (bX 16 24)&&_))=true:=ho
  simp only [qC] at ho
  have:=zf.1 ho.2.1 b hb
  grind [bX,Ah]
 refine ⟨fun b hb=> ?_, ?_, ?_⟩
 ·have hl:=j b hb
  obtain ⟨f,q⟩:=b
  match q,hl with
  |[a,c],_=>exact ⟨rfl,h.brk hb (by simp [AK]),h.brk hb (by simp [k1]),h.f hb⟩
 ·have h1:=h.eO
  have h2:=Hl t
  have: ∀ {l:LB},(∀b∈l,b.c.length=2)->l.length<=aI l:=by
   intro l
   induction l with
   |nil=>simp
   |cons b l x=>
    intro hl
    have:=x fun b hb=>hl b (by simp [hb])
    have hb:=hl b (by simp)
    obtain ⟨f,q⟩:=b
    match q,hb with
    |a::q,_=>grind [aI,Ho,ay,mB]
  grind
 ·have hn:=h.nk
  rw [hk] at hn
  have e:ct 16=1:=rfl
  obtain ⟨a,ha⟩:=jH (t:=t) (by omega)
  exact ⟨a,ha,h.bD (by grind)⟩
def eh (g:Tm):LB:=g.s.map fun x=>⟨x.f,[k1 x]⟩
abbrev zg (a:Tm) (es:LB):Tm:= .mk 18 0 qw [] [a] es
abbrev zm:Tm:= .mk 3 0 qw [] [] []
abbrev awc (u:Tm) (ks:LT):Tm:= .mk u.k u.n u.name u.r ks u.s
def Iy (es:LB):LB->Except Int (LB)
 |[]=> .ok []
 |x::l=>bE (J6 0 1 (zg zm es)) fun u=>bE (Iy es l) fun h=> .ok (⟨x.f,[awc u [AK x]]⟩::h)
def IJ (b:Tm) (sys:LB):LB->Except Int (LB)
 |[]=> .ok []
 |x::l=>bE (J6 0 1 (k1 x)) fun f=>bE (c6 [AK x,b,J4 sys] (FI (AK x) b sys)) fun w=>bE (IJ b sys l) fun h=> .ok (⟨x.f,[dS 6 [dS 9 [f],w]]⟩::h)
def RN (b:Tm) (sys:LB) (l:LB):LB:=l.map fun x=>⟨x.f,[.mk 15 0 qw [] [AK x,b] sys]⟩
def ng (g b:Tm) (sys h j:LB):Tm:= .mk 17 0 qw [] [.mk 15 0 qw [] [g.c.getD 0 pX,zg b (eh g)] (h++j)] (RN b sys g.s)
def TC (t:Tm):Except Int Tm:=
 bE (Iy (eh (t.c.getD 0 pX)) t.s) fun h=>bE (IJ (t.c.getD 1 pX) t.s (t.c.getD 0 pX).s) fun j=> .ok (ng (t.c.getD 0 pX) (t.c.getD 1 pX) t.s h j)
def azI (t:Tm):Tm×Bool×Int:=
 if bw t≠0 then (pX,false,bw t) else
 if t.k=15/\(t.c.getD 0 pX).k=16 then Hu (TC t) else (pX,false,0)
theorem aGa {es:LB}: ∀ {l:LB} {e:Int},Iy es l= .error e->0<e/\e<=1000:=by
 intro l
 induction l<;>grind [Iy,be,zn]
theorem aGc {b:Tm} {sys:LB}: ∀ {l:LB} {e:Int},IJ b sys l= .error e->0<e/\e<=1000:=by
 intro l
 induction l<;>grind [IJ,be,zn,BH,uw]
def cv (n:Nat) (l:LB):Prop:= ∀x∈l,∃t,x.c=[t]/\Sm n t/\am t<=299/\aq x.f/\x.f.length<1073741824
theorem Na (n:Nat):cv n []:=fun x h=>by cases h
theorem Qs {n:Nat} {l:LB} {f:LC} {t:Tm} (hf:aq f/\f.length<1073741824) (j:Sm n t) (hd:am t<=299) (h:cv n l):cv n (⟨f,[t]⟩::l):=fun x hx=>by
 rcases BB.1 hx with rfl|hx
 ·grind
 ·exact h x hx
theorem Ux {n:Nat} {a b:LB} (ha:cv n a) (hb:cv n b):cv n (a++b):=fun x h=>(zx.1 h).elim (ha x) (hb x)
def FN (x:Tm):Prop:=Fm x\/x=pX
theorem FN.sm {x:Tm} (h:FN x):Sm 20000 x/\am x<=200:=by
 rcases h with h|rfl
 ·exact ⟨h.sm,h.dep⟩
 grind [fD,pX,am,aH,aO]
theorem EJ {c:Int} {x:Except Int Tm} (h: ∀t,x= .ok t->Fm t):FN (mM c x).1:=by
 unfold mM
 split
 ·cases x with
  |error e=>exact .inr rfl
  |ok t=>exact .inl (h t rfl)
 ·exact .inr rfl
theorem azZ {u a:Tm} (hu:FN u) (ha:Fm a):Sm 50000 (awc u [a])/\am (awc u [a])<=299:=by
 obtain ⟨h1,h2⟩:=hu.sm
 obtain ⟨h,j,q,x,z,B,A⟩:=h1.ok.no
 have hs:ba u.s:=by have:=h1.ok;cases u;rw [p9] at this;exact this.2.2
 have hd:aO u.s+1<=am u:=by cases u<;>grind [am,Tm.s]
 have E:aI u.s+1<=au u:=by cases u<;>grind [au,Tm.s]
 have:=h1.eO;have:=ha.eO;have:=ha.dep
 refine ⟨⟨?_, ?_, ?_⟩, ?_⟩
 ·rw [p9,aZ,aZ];exact ⟨⟨h,j,q,x,z,by simp,A⟩,⟨ha.ok,trivial⟩,hs⟩
 all_goals grind [au,ay,am,aH]
theorem Qt {kd:Int} (q:0<=kd/\kd<=28) {n:Nat} {ks:LT} (h: ∀x∈ks,Sm n x/\am x<=290) (hl:ks.length<=4):Sm (4*n+1) (dS kd ks)/\am (dS kd ks)<=291:=by
 have hd:aH ks<=290:=aag fun x j=>(h x j).2
 have z:ay ks<=4*n:=zj (aka fun x j=>(h x j).1.eO) (Iq _ hl)
 unfold dS
 refine ⟨(Hn (kd:=kd) q (r:=[]) ⟨(fun c hc=>by cases hc),by simp⟩ (ks:=ks) (sys:=[]) (n:=4*n) (m:=0) (fun x j=>⟨(h x j).1.ok,by grind⟩) (by omega) z (by rw [ba];trivial) (by simp) (by rw [aO];omega) (by rw [aI];omega)).mono (by omega), ?_⟩
 rw [am,aO];omega
theorem nj {n:Nat} {l:LB} (h:cv n l):Mb n l/\aO l<=299:=by
 induction l with
 |nil=>grind [Dp,aO]
 |cons x l j=>
  obtain ⟨i1,i2⟩:=j fun x q=>h x (by simp [q])
  obtain ⟨t,e,h1,h2,z,A⟩:=h x (by simp)
  obtain ⟨f,B⟩:=x
  have e:B=[t]:=e
  subst e
  refine ⟨?_, ?_⟩
  ·refine ⟨?_, ?_, ?_⟩
   ·rw [ba,fc,aZ,aZ];exact ⟨⟨⟨z,A,by simp⟩,h1.ok,trivial⟩,i1.ok⟩
   ·rw [aI,Ho,ay,ay,uL,Nat.succ_mul];have:=i1.eO;have:=h1.eO;omega
   grind [aO,Fy,aH]
  grind [aO,Fy,aH]
theorem o4 {g:Tm} (E:Fm g) (F:g.k=16):ba (eh g)/\aO (eh g)<=aO g.s/\aI (eh g)<=aI g.s/\(eh g).length=g.s.length/\ck false (-1) 24 18 (eh g)=true/\(eh g).all (bX 18 24)=true:=by
 obtain ⟨q,hl,_⟩:=E.gl F
 unfold eh
 generalize g.s=l at q
 clear hl
 induction l with
 |nil=>grind [ba,ck]
 |cons x l I=>
  obtain ⟨i1,i2,i3,i4,i5,i6⟩:=I fun b hb=>q b (by simp [hb])
  obtain ⟨A,q2,B,h⟩:=q x (by simp)
  obtain ⟨f,z⟩:=x
  have A:z=[AK ⟨f,z⟩,k1 ⟨f,z⟩]:=A
  have r1:=G9 h
  rw [HW]
  refine ⟨?_, ?_, ?_,by simp, ?_, ?_⟩
  ·rw [ba,fc,aZ,aZ];exact ⟨⟨⟨r1.1,r1.2,by simp⟩,B.ok,trivial⟩,i1⟩
  ·grind [aO,Fy,aH]
  ·grind [aI,Ho,ay]
  ·rw [ck,jT,ca,ca,Bool.and_true,qC]
   exact ⟨(Iz B.2).2.2,i5⟩
  ·rw [EZ,qC]
   refine ⟨?_,i6⟩
   unfold bX
   rw [qC,qC]
   refine ⟨rfl,BE.right ⟨h.1,h.2 rfl⟩, ?_⟩
   rw [L5 h.1]
   exact fun c hc j hj=>by
    have:j<24:=hj.elim (o2 (h.1.rc hc)) (aoL (h.1.rc hc))
    omega
theorem Nn:p9 zm/\au zm=1/\am zm=1:=by
 refine ⟨?_, ?_, ?_⟩
 ·rw [p9,aZ,ba];exact ⟨⟨by unfold aG;omega,by unfold aG;omega,by decide,(fun c hc=>by cases hc),by simp,by simp,by simp⟩,trivial,trivial⟩
 all_goals rfl
theorem aJc {g a:Tm} (h:Fm g) (j:g.k=16) (fa:Fm a) (F:au a+aI g.s+1<=20000) (hd:am a+1<=200):Fm (zg a (eh g)):=by
 obtain ⟨q,I,J,L,x,M⟩:=o4 h j
 obtain ⟨_,hl,_⟩:=h.gl j
 have z:aO g.s+1<=am g:=by cases g<;>grind [am,Tm.s]
 have A:=h.dep
 have ho:p9 (zg a (eh g)):=by
  rw [p9,aZ,aZ]
  exact ⟨⟨by unfold aG;omega,by unfold aG;omega,by decide,(fun c hc=>by cases hc),by simp,by simp,by omega⟩,⟨fa.ok,trivial⟩,q⟩
 refine ⟨ho,pS ?_ ?_ ?_⟩
 ·grind [am,aH]
 ·grind [au,ay]
 ·rw [rP,x,bO,bO]
  have B:tZ 18 ((0:Nat):Int)=0:=rfl
  have E:bJ 18 ((0:Nat):Int)=0:=rfl
  rw [B,E,Dj,xm,(Iz fa.2).2.2]
  have:cL (-1) 24 (zg a (eh g))=true:=by
   show (true&&((eh g).all (bX 18 24)&&true))=true
   grind
  grind
theorem aJd:Fm zm:=⟨Nn.1,by kernel_rfl⟩
theorem sf {g:Tm} (h:Fm g) (j:g.k=16):Fm (zg zm (eh g)):=by
 obtain ⟨_,_,a,ha,fa⟩:=h.gl j
 have x:=h.eO
 have h2:au g=1+(au a+0)+aI g.s:=by
  obtain ⟨kd,n,z,r,q,sys⟩:=g
  have ha:q=[a]:=ha
  subst ha
  rfl
 grind [mB,aJc,aJd,Nn]
theorem aSN {a:Tm} {es:LB} {u:Tm} (h:J6 0 1 (zg a es)= .ok u): ∃a' q,u=zg a' q:=by
 obtain ⟨m,h1,h2⟩:=i8 h
 have key: ∀ {vb db v d:Int} {x:Tm} {l:LB} {y:Tm},uA vb db v d (zg x l)= .ok y-> ∃A B,y=zg A B:=by
  intro vb db v d x l y h
  rw [uA] at h
  split at h
  ·cases h
  obtain ⟨r1,E,h⟩:=i8 h
  obtain ⟨j,F,h⟩:=i8 h
  obtain ⟨z,I,h⟩:=i8 h
  injection h with h;subst h
  have J:r1=[]:=L3.1 (iS E rfl)
  have hk:=apQ F
  obtain ⟨a',ha⟩: ∃a',j=[a']:=by
   match j,hk with
   |[a'],_=>simp
  grind
 grind
section
variable {g:Tm}
theorem aIg (hk:F3 k) (z:Fm g) (A:g.k=16) {x:Br Tm} (B:x.c=[AK x]) (c:Int) (I:Br Tm×Int->OS S):
  q0 k x (eh g) c I=I (⟨x.f,[awc (mM c (J6 0 1 (zg zm (eh g)))).1 [AK x]]⟩,(mM c (J6 0 1 (zg zm (eh g)))).2):=by
 have q:=sf z A
 have h:af x.c 0=some (AK x):=ED (n:=0) rfl (by grind)
 have j:wA 0 1 (zg zm (eh g))=J6 0 1 (zg zm (eh g)):=if_pos q.2
 simp only [q0,ag hk.fu,ar,zc,SF,JM,xF]
 rw [IG hk (fun _=>q.isIn hk) (by omega) (by omega),j,h]
 rfl
theorem aGT (hk:F3 k) (E:Fm g) (F:g.k=16) (I:LB×Int->OS S) {l:LB} (J: ∀b∈l,b.c=[AK b]/\Fm (AK b)/\RX true b.f) (hl:l.length<=20000):
  ∀ (r p acc:LB) (m:Nat) (c:Int),l=p++r->r.length<m->acc.length+r.length<=20000->
   ∃l',qt k I (eh g) l m c (p.length:Int) acc=I (acc++l',ut (dt c (Iy (eh g) r)))/\l'.length=r.length/\cv 50000 l'/\ ∀q,dt c (Iy (eh g) r)= .ok q->l'=q:=by
 intro r
 induction r with
 |nil=>
  intro p acc m c h B ha
  obtain ⟨m,rfl,z⟩:=qI B
  refine ⟨[], ?_,rfl,Na _,fun q h=> ?_⟩
  ·simp only [qt,w2,zt h,n3,zr]
   by_cases hc:c=0
   ·subst hc;rfl
   ·rw [lb hc];rfl
  grind [oH,Iy,lb]
 |cons x r L=>
  intro p acc m c h B ha
  obtain ⟨m,rfl,z⟩:=qI B
  obtain ⟨M,O,T,W⟩:=sX h (by omega)
  rw [uL] at ha
  simp only [qt,w2,M,ae,O,rf,ag hk.fu,T,aIg hk E F (J x (by grind)).1]
  rw [J5 (by grind)]
  obtain ⟨_,x2,x3⟩:=J x (by grind)
  have A:FN (mM c (J6 0 1 (zg zm (eh g)))).1:=EJ fun t h=>mD (by omega) (sf E F) h
  obtain ⟨l',h1,h2,hb,h3⟩:=L (p++[x]) (acc++[⟨x.f,[awc (mM c (J6 0 1 (zg zm (eh g)))).1 [AK x]]⟩]) m (mM c (J6 0 1 (zg zm (eh g)))).2 W z (by grind)
  refine ⟨⟨x.f,[awc (mM c (J6 0 1 (zg zm (eh g)))).1 [AK x]]⟩::l', ?_,by grind,Qs (G9 x3) (azZ A x2).1 (azZ A x2).2 hb,fun q j=> ?_⟩
  ·refine h1.trans ?_
   rw [List.append_assoc,List.singleton_append]
   congr 2
   by_cases hc:c=0
   ·subst hc
    rw [kR,oH,Iy]
    cases Y:J6 0 1 (zg zm (eh g)) with
    |error e=>
     have he:=zn Y
     rw [show (tE (.error e)).2=e from rfl,lb (show e≠0 by omega)];rfl
    |ok u=>
     rw [show (tE (.ok u)).2=0 from rfl,oH,aD]
     cases Iy (eh g) r<;>rfl
   grind [n9,lb]
  ·by_cases hc:c=0
   ·subst hc
    rw [oH,Iy] at j
    obtain ⟨u,g1,j⟩:=i8 j
    obtain ⟨l2,g2,j⟩:=i8 j
    grind [kR,tE,oH]
   grind [lb]
theorem aIh (hk:F3 k) {x:Br Tm} (q:x.c=[AK x,k1 x]) (f0:Fm (AK x)) (f1:Fm (k1 x)) {b t:Tm} (fb:Fm b) (ft:Fm t) (c:Int) (I:Br Tm×Int->OS S):
  gk k x b t c I=I (⟨x.f,[dS 6 [dS 9 [(mM c (J6 0 1 (k1 x))).1],(mM (mM c (J6 0 1 (k1 x))).2 (c6 [AK x,b,J4 t.s] (FI (AK x) b t.s))).1]]⟩,(mM (mM c (J6 0 1 (k1 x))).2 (c6 [AK x,b,J4 t.s] (FI (AK x) b t.s))).2):=by
 have g0:af x.c 0=some (AK x):=ED (n:=0) rfl (by grind)
 have g1:af x.c 1=some (k1 x):=ED (n:=1) rfl (by grind)
 have j:wA 0 1 (k1 x)=J6 0 1 (k1 x):=if_pos f1.2
 simp only [gk,ag hk.fu,ar,zc,SG,xF,g0,g1,rf]
 rw [IG hk (fun _=>f1.isIn hk) (by omega) (by omega),j,ajm hk (fun _=>⟨f0.isIn hk,fb.isIn hk,Jc hk ft⟩) (fun e h=>BJ (fun e h=>uw h) h)]
 rfl
theorem aGU (hk:F3 k) {b t:Tm} (fb:Fm b) (ft:Fm t) (I:LB×Int->OS S) {l:LB} (z: ∀b∈l,b.c=[AK b,k1 b]/\Fm (AK b)/\Fm (k1 b)/\RX true b.f) (hl:l.length<=20000):
  ∀ (r p acc:LB) (m:Nat) (c:Int),l=p++r->r.length<m->acc.length+r.length<=20000->
   ∃l',iu k I b t l m c (p.length:Int) acc=I (acc++l',ut (dt c (IJ b t.s r)))/\l'.length=r.length/\cv 500000 l'/\ ∀q,dt c (IJ b t.s r)= .ok q->l'=q:=by
 intro r
 induction r with
 |nil=>
  intro p acc m c h L ha
  obtain ⟨m,rfl,F⟩:=qI L
  refine ⟨[], ?_,rfl,Na _,fun q h=> ?_⟩
  ·simp only [iu,x8,zt h,n3,zr]
   by_cases hc:c=0
   ·subst hc;rfl
   ·rw [lb hc];rfl
  grind [oH,IJ,lb]
 |cons x r O=>
  intro p acc m c h L ha
  obtain ⟨m,rfl,F⟩:=qI L
  obtain ⟨T,W,Y,e4⟩:=sX h (by omega)
  rw [uL] at ha
  obtain ⟨x1,x2,x3,x4⟩:=z x (by grind)
  simp only [iu,x8,T,ae,W,rf,ag hk.fu,ar,Y,aIh hk x1 x2 x3 fb ft]
  rw [J5 (by grind)]
  have J:FN (mM c (J6 0 1 (k1 x))).1:=EJ fun t h=>mD (by omega) x3 h
  have E: ∀c,FN (mM c (c6 [AK x,b,J4 t.s] (FI (AK x) b t.s))).1:=fun c=>EJ fun w h=>by
   obtain ⟨so,ff,M⟩:=BI h
   exact ⟨(ux hk x2 fb (iQ (wg x2.ok fb.ok (Jc hk ft).1 so).2.2) M).1.1,ff⟩
  have E:=E (mM c (J6 0 1 (k1 x))).2
  generalize hA:mM c (J6 0 1 (k1 x))=A at J E ⊢
  generalize hB:mM A.2 (c6 [AK x,b,J4 t.s] (FI (AK x) b t.s))=B at E ⊢
  have q9:=Qt (kd:=9) (by omega) (n:=20000) (ks:=[A.1]) (fun x z=>by simp at z;subst z;exact ⟨J.sm.1,by have:=J.sm.2;omega⟩) (by simp)
  have q6:=Qt (kd:=6) (by omega) (n:=80001) (ks:=[dS 9 [A.1],B.1]) (fun x z=>by
   simp at z
   rcases z with rfl|rfl
   ·refine ⟨q9.1, ?_⟩
    unfold dS;rw [am,aH,aH,aO];have:=J.sm.2;omega
   ·exact ⟨E.sm.1.mono (by omega),by have:=E.sm.2;omega⟩) (by simp)
  obtain ⟨l',h1,h2,hb,h3⟩:=O (p++[x]) (acc++[⟨x.f,[dS 6 [dS 9 [A.1],B.1]]⟩]) m B.2 e4 F (by grind)
  refine ⟨⟨x.f,[dS 6 [dS 9 [A.1],B.1]]⟩::l', ?_,by grind,Qs (G9 x4) (q6.1.mono (by omega)) (by omega) hb,fun q j=> ?_⟩
  ·refine h1.trans ?_
   rw [List.append_assoc,List.singleton_append]
   congr 2
   subst hB;subst hA
   by_cases hc:c=0
   ·subst hc
    rw [kR,oH,IJ]
    cases hh:J6 0 1 (k1 x) with
    |error e=>
     have he:=zn hh
     rw [show (tE (.error e)).2=e from rfl,n9 (show e≠0 by omega),lb (show e≠0 by omega)];rfl
    |ok u=>
     rw [show (tE (.ok u)).2=0 from rfl,kR,aD]
     cases hw:c6 [AK x,b,J4 t.s] (FI (AK x) b t.s) with
     |error e=>
      have he:=BJ (fun e h=>uw h) hw
      rw [show (tE (.error e)).2=e from rfl,lb he];rfl
     |ok w=>
      rw [show (tE (.ok w)).2=0 from rfl,oH,aD]
      cases IJ b t.s r<;>rfl
   grind [n9,lb]
  ·by_cases hc:c=0
   ·subst hc
    rw [oH,IJ] at j
    obtain ⟨u,g1,j⟩:=i8 j
    obtain ⟨w,g2,j⟩:=i8 j
    obtain ⟨l2,g3,j⟩:=i8 j
    grind [kR,tE,oH]
   grind [lb]
end
theorem azu (hk:F3 k) (I:LB->OS S) {l:LB} (E: ∀b∈l,b.c=[AK b,k1 b]) (hl:l.length<=20000):
  ∀ (r p acc:LB) (m:Nat),l=p++r->r.length<m->acc.length+r.length<=20000->
   kx k I l m (p.length:Int) acc=I (acc++r.map fun x=>⟨x.f,[k1 x]⟩):=by
 intro r
 induction r with
 |nil=>
  intro p acc m h j ha
  obtain ⟨m,rfl,q⟩:=qI j
  grind [kx,dy,n3]
 |cons x r F=>
  intro p acc m h j ha
  obtain ⟨m,rfl,q⟩:=qI j
  obtain ⟨z,A,B,J⟩:=sX h (by omega)
  rw [uL] at ha
  have g1:af x.c 1=some (k1 x):=ED (n:=1) rfl (by grind)
  simp only [kx,dy,z,ae,A,rf,ag hk.fu,B,hh,g1,ar,xF]
  grind [J5]
theorem aGV (hk:F3 k) (I:LB->OS S) {b t:Tm} {l:LB} (J: ∀b∈l,b.c=[AK b,k1 b]) (hl:l.length<=20000):
  ∀ (r p acc:LB) (m:Nat),l=p++r->r.length<m->acc.length+r.length<=20000->
   vx k I t b l m (p.length:Int) acc=I (acc++RN b t.s r):=by
 intro r
 induction r with
 |nil=>
  intro p acc m h q ha
  obtain ⟨m,rfl,j⟩:=qI q
  grind [vx,W2,n3,RN]
 |cons x r z=>
  intro p acc m h q ha
  obtain ⟨m,rfl,j⟩:=qI q
  obtain ⟨A,B,E,F⟩:=sX h (by omega)
  rw [uL] at ha
  have g0:af x.c 0=some (AK x):=ED (n:=0) rfl (by grind)
  simp only [vx,W2,A,ae,B,rf,ag hk.fu,E,ay6,g0,ar,xF,JM]
  rw [J5 (by grind),z (p++[x]) _ m F j (by grind),List.append_assoc];rfl
theorem aIQ {t x b:Tm} (ft:Fm t) (fx:Fm x) (fb:Fm b):Sm 60001 (.mk 15 0 qw [] [x,b] t.s)/\am (.mk 15 0 qw [] [x,b] t.s)<=299:=by
 obtain ⟨q,z,A,B,E,F,j⟩:=ft.ok.no
 have hs:ba t.s:=by have:=ft.ok;cases t;rw [p9] at this;exact this.2.2
 have hd:aO t.s+1<=am t:=by cases t<;>grind [am,Tm.s]
 have I:aI t.s+1<=au t:=by cases t<;>grind [au,Tm.s]
 have:=ft.eO;have:=ft.dep;have:=fx.eO;have:=fx.dep;have:=fb.eO;have:=fb.dep
 refine ⟨(Hn (kd:=15) (by omega) (r:=[]) ⟨(fun c hc=>by cases hc),by simp⟩ (ks:=[x,b]) (sys:=t.s) (n:=40000) (m:=20000) (fun y h=>by
  simp at h
  rcases h with rfl|rfl
  ·exact ⟨fx.ok,by omega⟩
  ·exact ⟨fb.ok,by omega⟩) (by simp) (by grind [ay]) hs j (by omega) (by omega)), ?_⟩
 grind [am,aH]
theorem aGd {t b:Tm} (ft:Fm t) (fb:Fm b): ∀ {l:LB},(∀b∈l,Fm (AK b)/\RX true b.f)->cv 60001 (RN b t.s l):=by
 intro l
 induction l with
 |nil=>intro _;exact Na _
 |cons x l j=>
  intro h
  obtain ⟨h1,h2⟩:=h x (by simp)
  have q:=aIQ ft h1 fb
  exact Qs (G9 h2) q.1 q.2 (j fun x z=>h x (by simp [z]))
theorem aCw (hk:F3 k) {t g b a:Tm} {h j:LB} (ft:Fm t) (B:Fm g) (F:g.k=16) (ha:g.c.getD 0 pX=a) (fa:Fm a) (fb:Fm b) (h1:cv 50000 h) (n1:h.length<=20000) (h2:cv 500000 j) (n2:j.length<=20000):In k (ng g b t.s h j):=by
 obtain ⟨E,hl,_⟩:=B.gl F
 obtain ⟨M,e2,e3,e4,_,_⟩:=o4 B F
 have O:aO g.s+1<=am g:=by cases g<;>grind [am,Tm.s]
 have T:aI g.s+1<=au g:=by cases g<;>grind [au,Tm.s]
 have:=B.dep;have:=B.eO
 have bd:=fb.dep;have bz:=fb.eO;have ad:=fa.dep;have az:=fa.eO
 have I:Sm 40001 (zg b (eh g))/\am (zg b (eh g))<=202:=by
  refine ⟨Hn (kd:=18) (by omega) (r:=[]) ⟨(fun c hc=>by cases hc),by simp⟩ (ks:=[b]) (sys:=eh g) (n:=20000) (m:=20000) (fun y q=>by simp at q;subst q;exact ⟨fb.ok,by omega⟩) (by simp) (by grind [ay]) M (by omega) (by omega) (by omega), ?_⟩
  grind [am,aH]
 obtain ⟨J,W⟩:=nj (n:=500000) (Ux (fun x E=>by obtain ⟨t,Y,q2,q3⟩:=h1 x E;exact ⟨t,Y,q2.mono (by omega),q3⟩) h2)
 have hz:aI (h++j)<=40000*500000:=zj J.eO (Iq _ (by grind))
 have z:=Hn (kd:=15) (by omega) (r:=[]) ⟨(fun c hc=>by cases hc),by simp⟩ (ks:=[a,zg b (eh g)]) (sys:=h++j) (n:=60001) (m:=40000*500000) (fun y q=>by
  simp at q
  rcases q with rfl|rfl
  ·exact ⟨fa.ok,by omega⟩
  ·exact ⟨I.1.ok,by omega⟩) (by simp) (by rw [ay,ay,ay];have:=I.1.eO;omega) J.ok (by grind) W hz
 obtain ⟨c1,c2⟩:=nj (aGd ft fb (l:=g.s) fun x A=>⟨(E x A).2.1,(E x A).2.2.2⟩)
 have hlen:(RN b t.s g.s).length=g.s.length:=by grind [RN]
 have ao:aI (RN b t.s g.s)<=20000*60001:=zj c1.eO (Iq _ (by omega))
 unfold ng
 rw [ha]
 have L:am (.mk 15 0 qw [] [a,zg b (eh g)] (h++j))<=300:=z.dep
 refine ⟨?_,hk.fd ?_, ?_⟩
 ·rw [p9,aZ,aZ]
  exact ⟨⟨by unfold aG;omega,by unfold aG;omega,by decide,(fun c hc=>by cases hc),by simp,by simp,by omega⟩,⟨z.ok,trivial⟩,c1.ok⟩
 all_goals grind [am,aH,au,ay]
theorem aIf (hk:F3 k) {t:Tm} (J:In k t) (I:Tm×Bool×Int->OS S):Mc k t I=I (azI t):=by
 have a6:4294968296<=k:=hk
 simp only [Mc,ag hk.fu,ar,E9 J.1 J.2.1 J.dep]
 unfold azI
 by_cases O:bw t=0
 case neg=>rw [dj O,ub,ae,if_pos O];rfl
 rw [O,show (!((0:Int)==0))=false from rfl,n3,if_neg (by simp)]
 have ft:Fm t:=⟨J.1,O⟩
 by_cases B:t.k=15
 case neg=>rw [beq_false_of_ne B,ub,ae,if_neg (fun h=>B h.1)];rfl
 rw [B,show (!((15:Int)==15))=false from rfl,n3]
 obtain ⟨g,b,M⟩:=I8 (E5 ft B (n:=2) rfl)
 obtain ⟨g0,g1⟩:=KQ M
 obtain ⟨d0,d1⟩:=EC M
 have T:Fm g:=ft.bD (by grind)
 have fb:Fm b:=ft.bD (by grind)
 obtain ⟨sy,W⟩:=ft.sy B
 rw [g0,rf,d0]
 by_cases A:g.k=16
 case neg=>rw [beq_false_of_ne A,ub,ae,if_neg (fun h=>A h.2)];rfl
 rw [A,show (!((16:Int)==16))=false from rfl,n3,vU t J.1 _ J.2.1,g0,rf,g1,rf,rf,if_pos ⟨rfl,rfl⟩]
 obtain ⟨Y,hl,a,a7,fa⟩:=T.gl A
 have ga:af g.c 0=some a:=ED (n:=0) rfl (by grind)
 have ad:g.c.getD 0 pX=a:=by grind
 have ao: ∀q:LB->OS S,T4 k g q=q (eh g):=fun q=>by
  simp only [T4,ag hk.fu,zl,fL]
  exact azu hk q (fun b hb=>(Y b hb).1) hl g.s [] [] k rfl (by omega) (by grind)
 rw [ao]
 obtain ⟨L,i1,i2,i3,i4⟩:=aGT hk T A (fun r8=>ks k g.s b t r8.2 fun E=>pA (aw 1099511627776 r8.1.length E.1.length) fun ax=>pA (af g.c 0) fun F=>SF k b (eh g) fun j=>JM k 15 (r8.1++E.1) [F,(Tm.mk j.1 j.2.1 j.2.2.1 [] j.2.2.2.1 j.2.2.2.2)] fun r13=>sU k g.s t b fun r14=>JM k 17 r14 [(Tm.mk r13.1 r13.2.1 r13.2.2.1 [] r13.2.2.2.1 r13.2.2.2.2)] fun x=>ly k (Tm.mk x.1 x.2.1 x.2.2.1 [] x.2.2.2.1 x.2.2.2.2) E.2 fun z=>I (z.1,z.2.1,z.2.2.1)) (l:=t.s) sy W t.s [] [] k 0 rfl (by omega) (by grind)
 refine qy (b:=_) ?_ (i1.trans ?_)
 ·rfl
 rw [An,oH]
 rw [oH] at i4
 obtain ⟨l2,j1,j2,j3,j4⟩:=aGU hk fb ft (fun E=>pA (aw 1099511627776 L.length E.1.length) fun ax=>pA (af g.c 0) fun F=>SF k b (eh g) fun j=>JM k 15 (L++E.1) [F,(Tm.mk j.1 j.2.1 j.2.2.1 [] j.2.2.2.1 j.2.2.2.2)] fun r13=>sU k g.s t b fun r14=>JM k 17 r14 [(Tm.mk r13.1 r13.2.1 r13.2.2.1 [] r13.2.2.2.1 r13.2.2.2.2)] fun x=>ly k (Tm.mk x.1 x.2.1 x.2.2.1 [] x.2.2.2.1 x.2.2.2.2) E.2 fun z=>I (z.1,z.2.1,z.2.2.1)) (l:=g.s) Y hl g.s [] [] k (ut (Iy (eh g) t.s)) rfl (by omega) (by grind)
 refine qy (b:=_) ?_ (j1.trans ?_)
 ·rfl
 rw [An]
 dsimp only
 rw [J5 (by omega),ga,rf]
 simp only [SF,JM,ag hk.fu,ar,sU,aAb]
 have az:=aCw hk ft T A ad fa fb i3 (by omega) j3 (by omega)
 have h3:=fun q:LB->OS S=>aGV hk q (b:=b) (t:=t) (fun b hb=>(Y b hb).1) hl g.s [] [] k rfl (by omega) (by grind)
 refine (h3 _).trans ?_
 rw [An]
 rw [show (Tm.mk 17 0 qw [] [Tm.mk 15 0 qw [] [a,Tm.mk 18 0 qw [] [b] (eh g)] (L++l2)] (RN b t.s g.s))=ng g b t.s L l2 from by grind [ng],Ry hk az]
 unfold TC
 rw [d0,d1]
 cases q1:Iy (eh g) t.s with
 |error e=>
  have he:=aGa q1
  rw [show ut (.error e:Except Int (LB))=e from rfl,lb (show e≠0 by omega),lk]
  exact JF (show e≠0 by omega) I
 |ok m1=>
  have:=i4 m1 q1
  subst this
  rw [show ut (.ok L:Except Int (LB))=0 from rfl,oH,aD]
  rw [q1,show ut (.ok L:Except Int (LB))=0 from rfl,oH] at j4
  cases q2:IJ b t.s g.s with
  |error e=>
   have he:=aGc q2
   rw [show ut (.error e:Except Int (LB))=e from rfl,lk]
   exact JF (show e≠0 by omega) I
  |ok m2=>
   simp_all [ut,aD,qL]
def Ih {α β:Type} (F:α->Except Int β):List α->Except Int (List β)
 |[]=> .ok []
 |x::l=>bE (F x) fun b=>bE (Ih F l) fun h=> .ok (b::h)
theorem aCv {α β:Type} {F:α->Except Int β}: ∀ {l:List α} {e:Int},(∀x∈l,∀e,F x= .error e->0<e/\e<=1000)->Ih F l= .error e->0<e/\e<=1000:=by
 intro l
 induction l<;>grind [Ih,be]
theorem aAX {l:LB} {L:Nat->Int->Int->LB->OS S} {I:LB×Int->OS S} {g:Int->Br Tm->Br Tm×Int} {F:Br Tm->Except Int (Br Tm)} {Q:Br Tm->Prop} (hl:l.length<=20000)
  (A: ∀ (m:Nat) (c:Int) (acc:LB),acc.length<=20000->L (m+1) c (l.length:Int) acc=I (acc,c))
  (z: ∀ (m:Nat) (c:Int) (x:Br Tm) (p r acc:LB),l=p++x::r->acc.length<20000->L (m+1) c (p.length:Int) acc=L m (g c x).2 (((p++[x]).length:Nat):Int) (acc++[(g c x).1]))
  (T: ∀x∈l,∀b,F x= .ok b->g 0 x=(b,0)) (h1: ∀x∈l,∀e,F x= .error e->e≠0/\(g 0 x).2=e) (h2: ∀x∈l,∀c,c≠0->(g c x).2=c) (hq: ∀x∈l,∀c,Q (g c x).1):
  ∀ (r p acc:LB) (m:Nat) (c:Int),l=p++r->r.length<m->acc.length+r.length<=20000->
   ∃l',L m c (p.length:Int) acc=I (acc++l',ut (dt c (Ih F r)))/\l'.length=r.length/\(∀y∈l',Q y)/\ ∀q,dt c (Ih F r)= .ok q->l'=q:=by
 intro r
 induction r with
 |nil=>
  intro p acc m c h E ha
  obtain ⟨m,rfl,B⟩:=qI E
  refine ⟨[], ?_,rfl,(fun y J=>by cases J),fun q h=> ?_⟩
  ·rw [zr] at h
   subst h
   rw [A m c acc (by omega),zr]
   by_cases hc:c=0
   ·subst hc;rfl
   ·rw [lb hc];rfl
  grind [oH,Ih,lb]
 |cons x r W=>
  intro p acc m c h E ha
  obtain ⟨m,rfl,B⟩:=qI E
  rw [uL] at ha
  have M:x∈l:=by grind
  rw [z m c x p r acc h (by omega)]
  obtain ⟨l',i1,i2,i3,i4⟩:=W (p++[x]) (acc++[(g c x).1]) m (g c x).2 (by grind) B (by grind)
  refine ⟨(g c x).1::l', ?_,by grind,fun y J=> ?_,fun q j=> ?_⟩
  ·rw [i1,List.append_assoc,List.singleton_append]
   congr 2
   by_cases hc:c=0
   ·subst hc
    rw [oH,Ih]
    cases O:F x with
    |error e=>
     obtain ⟨Y,q2⟩:=h1 x M e O
     rw [q2,lb Y];rfl
    |ok b=>
     rw [T x M b O,oH,aD]
     cases Ih F r<;>rfl
   grind [lb]
  ·grind
  ·by_cases hc:c=0
   ·subst hc
    rw [oH,Ih] at j
    obtain ⟨b,g1,j⟩:=i8 j
    obtain ⟨l2,g2,j⟩:=i8 j
    grind [oH]
   grind [lb]
def SX (x:Br Tm):Except Int (Br Tm):=bE (J6 1 0 (AK x)) fun u=> .ok ⟨x.f,[dS 6 [u,vN 0]]⟩
def Su (b a:Tm) (sys:LB):Except Int Tm:=bE (J6 1 0 a) fun a'=>bE (Ih SX sys) fun l=> .ok (dS 5 [.mk 15 0 qw [] [b,dS 6 [a',vN 0]] l])
theorem aHe {b a:Tm} {sys:LB} {e:Int} (h:Su b a sys= .error e):0<e/\e<=1000:=by
 unfold Su at h
 rcases be h with h|⟨_,_,h⟩
 ·exact zn h
 rcases be h with h|⟨_,_,h⟩
 ·refine aCv (fun x _ e h=> ?_) h
  unfold SX at h
  rcases be h with h|⟨_,_,h⟩
  ·exact zn h
  simp_all
 simp_all
section
variable {x1 x2:Int} {x3:BA} {x4:LC} {x5:LT} {x6 sys:LB}
theorem w1 (hk:F3 k) {t:Tm} (ft:Fm t) {a b c:Int} (ha:0<=a/\a<1000) (hb:0<=b/\b<1000) (I:Tm×Int->OS S):zb k t a b c I=I (mM c (J6 a b t)):=by
 rw [IG hk (fun _=>ft.isIn hk) ha hb,show wA a b t=J6 a b t from if_pos ft.2]
theorem aIk (hk:F3 k) {u:Tm} (fu:Fm u) (c:Int) (I:LT×Int->OS S):H8 k u c x1 x2 x3 x4 x5 x6 sys I=I ([dS 6 [(mM c (J6 1 0 u)).1,vN 0]],(mM c (J6 1 0 u)).2):=by
 simp only [H8,ag hk.fu,ar,w1 hk fu (show (0:Int)<=1/\(1:Int)<1000 by omega) (show (0:Int)<=0/\(0:Int)<1000 by omega),TY,zc]
 rfl
end
theorem K6:Sm 1 (vN 0)/\am (vN 0)=1:=by
 unfold vN
 refine ⟨⟨?_, ?_, ?_⟩, ?_⟩
 ·rw [p9,aZ,ba];exact ⟨⟨by unfold aG;omega,by unfold aG;omega,by decide,(fun c hc=>by cases hc),by simp,by simp,by simp⟩,trivial,trivial⟩
 all_goals grind [au,ay,aI,am,aH,aO]
theorem azX {a:Tm} (ha:FN a):Sm 80001 (dS 6 [a,vN 0])/\am (dS 6 [a,vN 0])<=201:=by
 have h:=Qt (kd:=6) (by omega) (n:=20000) (ks:=[a,vN 0]) (fun x j=>by
  simp at j
  rcases j with rfl|rfl
  ·exact ⟨ha.sm.1,by have:=ha.sm.2;omega⟩
  ·exact ⟨K6.1.mono (by omega),by rw [K6.2];omega⟩) (by simp)
 refine ⟨h.1, ?_⟩
 unfold dS;rw [am,aH,aH,aH,aO,K6.2];have:=ha.sm.2;omega
theorem hV {x y:Tm} {l:LB} {n m:Nat} (j:Sm n x) (q:Sm n y) (F:am x<=290) (I:am y<=290) (hn:n<=1000000) (hb:cv m l) (B:m<=1000000) (hl:l.length<=40000):Sm 50000000000 (.mk 15 0 qw [] [x,y] l):=by
 obtain ⟨A,E⟩:=nj hb
 have h:aI l<=40000*1000000:=zj A.eO (Nat.mul_le_mul hl B)
 exact (Hn (kd:=15) (by omega) (r:=[]) ⟨(fun c hc=>by cases hc),by simp⟩ (ks:=[x,y]) (sys:=l) (n:=2000000) (m:=40000*1000000) (fun z h=>by
  simp at h
  rcases h with rfl|rfl
  ·exact ⟨j.ok,by omega⟩
  ·exact ⟨q.ok,by omega⟩) (by simp) (by rw [ay,ay,ay];have:=j.eO;have:=q.eO;omega) A.ok (by omega) E h).mono (by omega)
theorem aBl (hk:F3 k) {kd:Int} (j:0<=kd/\kd<=28) {x:Tm} (h:Sm 50000000000 x):In k (dS kd [x]):=by
 have:=h.dep;have:=h.eO
 unfold dS
 refine ⟨?_,hk.fd ?_, ?_⟩
 ·rw [p9,aZ,aZ,ba]
  exact ⟨⟨by unfold aG;omega,by unfold aG;omega,by decide,(fun c hc=>by cases hc),by simp,by simp,by simp⟩,⟨h.ok,trivial⟩,trivial⟩
 all_goals grind [am,aH,aO,au,ay,aI]
theorem aAu {X:Except Int Tm} {y:Tm} {c:Int} (h: ∀t,X= .ok t->y=t/\c=0) (h1: ∀e,X= .error e->e≠0/\c=e) (g:Tm×Bool×Int->OS S):g ((dM c y).1,(dM c y).2==0,(dM c y).2)=g (Hu X):=by
 cases j:X<;>simp_all [JF,qL]
section
variable {x1 x2:Int} {x3:BA} {x4:LC} {x5:LT} {x6 sys:LB}
def BrQ (n:Nat) (x:Br Tm):Prop:= ∃t,x.c=[t]/\Sm n t/\am t<=299/\aq x.f/\x.f.length<1073741824
theorem aC_ (hk:F3 k) {t p b:Tm} (q:t.c=[p,b]) (fb:Fm b) (fa:Fm (Tm.mk x1 x2 x3 x4 x5 x6)) (sy: ∀b∈sys,b.c=[AK b]/\Fm (AK b)/\RX true b.f) (B:sys.length<=20000) (I:Int×Int×BA×LT×Int->OS S):
  ∃y c,r' k t 0 x1 x2 x3 x4 x5 x6 sys I=I (5,0,qw,[y],c)/\In k (dS 5 [y])/\(∀z,Su b (Tm.mk x1 x2 x3 x4 x5 x6) sys= .ok z->dS 5 [y]=z/\c=0)/\ ∀e,Su b (Tm.mk x1 x2 x3 x4 x5 x6) sys= .error e->e≠0/\c=e:=by
 have O:4294968296<=k:=hk
 obtain ⟨g0,g1⟩:=KQ q
 have key:=fun RET=>aAX (S:=S) (l:=sys) (L:=fun m c i acc=>k8 k RET x1 x2 x3 x4 x5 x6 sys m c i acc) (I:=RET) (g:=fun c x=>(⟨x.f,[dS 6 [(mM c (J6 1 0 (AK x))).1,vN 0]]⟩,(mM c (J6 1 0 (AK x))).2)) (F:=SX) (Q:=BrQ 80001) B
  (fun m c acc _=>by
   grind [k8,ns,n3])
  (fun m c x p r acc h ha=>by
   obtain ⟨T,W,Y,_⟩:=sX h (by omega)
   obtain ⟨q1,q2,_⟩:=sy x (by grind)
   have hg:af x.c 0=some (AK x):=ED (n:=0) rfl (by grind)
   simp only [k8,ns,T,ae,W,rf,hg,ag hk.fu,ar,aIk hk q2,xF,Y]
   grind [J5])
  (fun x j b h=>by
   unfold SX at h
   obtain ⟨u,h1,h⟩:=i8 h
   injection h with h;subst h
   rw [kR,h1];rfl)
  (fun x j e h=>by
   unfold SX at h
   rcases be h with h|⟨_,_,h⟩
   ·have:=zn h;rw [kR,h];exact ⟨by omega,rfl⟩
   simp_all)
  (fun x j c hc=>by rw [n9 hc])
  (fun x j c=>by
   obtain ⟨q1,q2,q3⟩:=sy x j
   have:=azX (EJ (c:=c) (x:=J6 1 0 (AK x)) fun t h=>mD (by omega) q2 h)
   exact ⟨_,rfl,this.1,by omega,G9 q3⟩)
  sys [] [] k (mM 0 (J6 1 0 (Tm.mk x1 x2 x3 x4 x5 x6))).2 rfl (by omega) (by grind)
 obtain ⟨l',h1,h2,h3,E⟩:=key fun J=>I (5,0,qw,[.mk 15 0 qw [] [b,dS 6 [(mM 0 (J6 1 0 (Tm.mk x1 x2 x3 x4 x5 x6))).1,vN 0]] J.1],J.2)
 have fA:FN (mM 0 (J6 1 0 (Tm.mk x1 x2 x3 x4 x5 x6))).1:=EJ fun t h=>mD (by omega) fa h
 refine ⟨_,ut (dt (mM 0 (J6 1 0 (Tm.mk x1 x2 x3 x4 x5 x6))).2 (Ih SX sys)), ?_,aBl hk (by omega) (hV (n:=80001) (fb.sm.mono (by omega)) (azX fA).1 (by have:=fb.dep;omega) (by grind [azX]) (by omega) h3 (by omega) (by omega)), ?_⟩
 ·simp only [r',ag hk.fu,ar,w1 hk fa (show (0:Int)<=1/\(1:Int)<1000 by omega) (show (0:Int)<=0/\(0:Int)<1000 by omega),TY,zc,mc,qM,g1,rf,JM]
  exact h1
 ·unfold Su
  rw [kR] at E ⊢
  cases ha:J6 1 0 (Tm.mk x1 x2 x3 x4 x5 x6) with
  |error e=>
   have he:=zn ha
   rw [show (tE (.error e)).2=e from rfl,lb (show e≠0 by omega)]
   exact ⟨fun z h=>(by cases h),fun e' h=>by injection h with h;subst h;exact ⟨by omega,rfl⟩⟩
  |ok A=>
   rw [ha,show (tE (.ok A)).2=0 from rfl,oH] at E
   rw [show (tE (.ok A)).2=0 from rfl,oH,aD]
   cases M:Ih SX sys with
   |error e=>
    refine ⟨fun z h=>(by cases h),fun e' h=> ?_⟩
    injection h with h;subst h
    have:=aHe (b:=b) (a:=Tm.mk x1 x2 x3 x4 x5 x6) (sys:=sys) (e:=e) (by unfold Su;rw [ha,M];rfl)
    exact ⟨by omega,rfl⟩
   |ok l=>
    have:=E l M
    subst this
    exact ⟨fun z h=>by injection h with h;subst h;exact ⟨rfl,rfl⟩,fun e h=>by cases h⟩
end
def parts (kd:Int) (sys:LB):LB:=sys.map fun x=>⟨x.f,[dS kd [AK x]]⟩
theorem S4 {kd:Int} (j:0<=kd/\kd<=28) {a:Tm} (fa:FN a):Sm 80001 (dS kd [a])/\am (dS kd [a])<=201:=by
 have h:=Qt (kd:=kd) j (n:=20000) (ks:=[a]) (fun x q=>by simp at q;subst q;exact ⟨fa.sm.1,by have:=fa.sm.2;omega⟩) (by simp)
 refine ⟨h.1, ?_⟩
 unfold dS;rw [am,aH,aH,aO];have:=fa.sm.2;omega
theorem aCD {kd:Int} (h:0<=kd/\kd<=28) {sys:LB} (sy: ∀b∈sys,b.c=[AK b]/\Fm (AK b)/\RX true b.f):cv 80001 (parts kd sys):=fun y j=>by
 obtain ⟨x,q,rfl⟩:=xq.1 j
 obtain ⟨_,q2,z⟩:=sy x q
 have:=S4 h (.inl q2)
 grind [G9]
theorem ea (hk:F3 k) {kd:Int} (h:0<=kd/\kd<=28) {sys:LB} (sy: ∀b∈sys,b.c=[AK b]/\Fm (AK b)/\RX true b.f) (j:sys.length<=20000):In k (J4 (parts kd sys)):=by
 obtain ⟨q,x⟩:=nj (aCD h sy)
 exact Jb hk (by omega) q (by grind [parts]) x
def N1 (k0 k1 a:Tm) (sys:LB):Except Int Tm:=
 bE (c6 [k0,dS 9 [a],J4 (parts 9 sys)] (FI k0 (dS 9 [a]) (parts 9 sys))) fun f=>bE (J6 0 1 k1) fun b=>bE (Jn 0 b f) fun line=>
 bE (c6 [line,dS 10 [a],J4 (parts 10 sys)] (dF line (dS 10 [a]) (parts 10 sys))) fun y=> .ok (dS 8 [.mk 15 0 qw [] [k0,dS 9 [a]] (parts 9 sys),y])
section
variable {x1 x2:Int} {x3:BA} {x4:LC} {x5:LT} {x6 sys:LB}
theorem aGX (hk:F3 k) (I:LB->OS S) {c kd:Int} (sy: ∀b∈sys,b.c=[AK b]) (z:sys.length<=20000):
  ∀ (r p acc:LB) (m:Nat),sys=p++r->r.length<m->acc.length+r.length<=20000->
   nh k I c x1 x2 x3 x4 x5 x6 sys kd m (p.length:Int) acc=I (acc++parts kd r):=by
 intro r
 induction r with
 |nil=>
  intro p acc m h q ha
  obtain ⟨m,rfl,j⟩:=qI q
  grind [nh,hQ,n3,parts]
 |cons x r A=>
  intro p acc m h q ha
  obtain ⟨m,rfl,j⟩:=qI q
  obtain ⟨B,E,F,J⟩:=sX h (by omega)
  rw [uL] at ha
  have g0:af x.c 0=some (AK x):=ED (n:=0) rfl (by grind)
  simp only [nh,hQ,B,ae,E,rf,ag hk.fu,F,az,g0,ar,xF,zc]
  rw [J5 (by grind),A (p++[x]) _ m J j (by grind),List.append_assoc];rfl
theorem aIl (hk:F3 k) {c kd:Int} (sy: ∀b∈sys,b.c=[AK b]) (h:sys.length<=20000) (I:Int×Int×BA×LT×LB->OS S):
  fF k kd c x1 x2 x3 x4 x5 x6 sys I=I (kd,0,qw,[Tm.mk x1 x2 x3 x4 x5 x6],parts kd sys):=by
 have j:4294968296<=k:=hk
 simp only [fF,ag hk.fu,zc,k',aAh]
 refine (aGX hk _ sy h sys [] [] k rfl (by omega) (by grind)).trans ?_
 rw [An]
theorem azg (hk:F3 k) {l a:Tm} {s:LB} (hl:In k l) (ha:In k a) (hs:In k (J4 s)) (c:Int):FN (mM c (c6 [l,a,J4 s] (dF l a s))).1:=EJ fun t h=>by
 obtain ⟨so,ff,j⟩:=BI h
 obtain ⟨f1,f2,f3⟩:=wg hl.1 ha.1 hs.1 so
 exact ⟨(yu hk f1 f2 (iQ f3) j).1.1,ff⟩
theorem aA8 (hk:F3 k) {l a:Tm} {s:LB} (hl:In k l) (ha:In k a) (hs:In k (J4 s)) {t:Tm} (h:c6 [l,a,J4 s] (FI l a s)= .ok t):Fm t:=by
 obtain ⟨so,ff,j⟩:=BI h
 obtain ⟨f1,f2,f3⟩:=wg hl.1 ha.1 hs.1 so
 exact ⟨(ux hk f1 f2 (iQ f3) j).1.1,ff⟩
theorem aGe (hk:F3 k) {kd:Int} (q:0<=kd/\kd<=28) {x y:Tm} (h:Sm 50000000000 x) (j:Sm 50000000000 y):In k (dS kd [x,y]):=by
 have:=h.dep;have:=h.eO;have:=j.dep;have:=j.eO
 unfold dS
 refine ⟨?_,hk.fd ?_, ?_⟩
 ·rw [p9,aZ,aZ,aZ,ba]
  exact ⟨⟨by unfold aG;omega,by unfold aG;omega,by decide,(fun c hc=>by cases hc),by simp,by simp,by simp⟩,⟨h.ok,j.ok,trivial⟩,trivial⟩
 all_goals grind [am,aH,aO,au,ay,aI]
theorem aDa (J:F4 k) {t k0 j:Tm} (M:t.c=[k0,j]) (f0:Fm k0) (f1:Fm j) (fa:Fm (Tm.mk x1 x2 x3 x4 x5 x6)) (sy: ∀b∈sys,b.c=[AK b]/\Fm (AK b)/\RX true b.f) (x:sys.length<=20000) (I:Int×Int×BA×LT×Int->OS S):
  ∃ks c,xS k t 0 x1 x2 x3 x4 x5 x6 sys I=I (8,0,qw,ks,c)/\In k (dS 8 ks)/\(∀z,N1 k0 j (Tm.mk x1 x2 x3 x4 x5 x6) sys= .ok z->dS 8 ks=z/\c=0)/\ ∀e,N1 k0 j (Tm.mk x1 x2 x3 x4 x5 x6) sys= .error e->e≠0/\c=e:=by
 have hk:=J.f3
 obtain ⟨g0,g1⟩:=KQ M
 generalize ha:Tm.mk x1 x2 x3 x4 x5 x6=a at fa
 have O:=ea hk (kd:=9) (by omega) sy x
 have T:=ea hk (kd:=10) (by omega) sy x
 have a9:=S4 (kd:=9) (by omega) (.inl fa)
 have W:=S4 (kd:=10) (by omega) (.inl fa)
 have i9:In k (dS 9 [a]):=a9.1.isIn hk (by omega)
 have i10:In k (dS 10 [a]):=W.1.isIn hk (by omega)
 generalize A:mM 0 (c6 [k0,dS 9 [a],J4 (parts 9 sys)] (FI k0 (dS 9 [a]) (parts 9 sys)))=F
 generalize hB:mM F.2 (J6 0 1 j)=B
 generalize q:mM B.2 (ri 0 B.1 F.1)=L
 generalize hC:mM L.2 (c6 [L.1,dS 10 [a],J4 (parts 10 sys)] (dF L.1 (dS 10 [a]) (parts 10 sys)))=C
 have fF:FN F.1:=by rw [<-A];exact EJ fun t h=>aA8 hk (f0.isIn hk) i9 O h
 have fB:FN B.1:=by rw [<-hB];exact EJ fun t h=>mD (by omega) f1 h
 have fL:FN L.1:=by
  rw [<-q]
  refine EJ fun t h=> ?_
  unfold ri sh at h
  split at h
  case isFalse=>cases h
  rename_i E
  split at h
  case isFalse=>cases h
  rename_i q2
  exact qU (by omega) ⟨fB.sm.1.ok,E⟩ ⟨fF.sm.1.ok,q2⟩ h
 have iF:In k F.1:=fF.sm.1.isIn hk (by omega)
 have iB:In k B.1:=fB.sm.1.isIn hk (by omega)
 have iL:In k L.1:=fL.sm.1.isIn hk (by omega)
 have fC:FN C.1:=by grind [azg]
 have Y:=hV (n:=80001) (f0.sm.mono (by omega)) a9.1 (by have:=f0.dep;omega) (by omega) (by omega) (aCD (kd:=9) (by omega) sy) (by omega) (by grind [parts])
 refine ⟨[.mk 15 0 qw [] [k0,dS 9 [a]] (parts 9 sys),C.1],C.2, ?_,aGe hk (by omega) Y (fC.sm.1.mono (by omega)), ?_⟩
 ·simp only [xS,ag hk.fu,ar,aIl hk (fun b hb=>(sy b hb).1) x,g0,g1,rf,JM,zc,ha]
  have e9:Tm.mk 9 0 qw [] [a] []=dS 9 [a]:=rfl
  have ad:Tm.mk 10 0 qw [] [a] []=dS 10 [a]:=rfl
  rw [e9,ad,ajm hk (fun _=>⟨f0.isIn hk,i9,O⟩) (fun e h=>BJ (fun e h=>uw h) h),A,Rv hk (fun _=>f1),hB,Hf J (fun _=>⟨iB,iF⟩),q,Rx hk (fun _=>⟨iL,i10,T⟩) (fun e h=>BJ (fun e h=>o_ h) h),hC]
 ·unfold N1
  rw [kR] at A
  cases E:c6 [k0,dS 9 [a],J4 (parts 9 sys)] (FI k0 (dS 9 [a]) (parts 9 sys)) with
  |error e=>
   have he:=BH (fun e h=>uw h) E
   rw [E] at A;subst A
   rw [show (tE (.error e)).2=e from rfl,n9 (show e≠0 by omega)] at hB;subst hB
   dsimp only at q
   rw [n9 (show e≠0 by omega)] at q;subst q
   dsimp only at hC
   rw [n9 (show e≠0 by omega)] at hC;subst hC
   exact ⟨fun z h=>(by cases h),fun e' h=>by injection h with h;omega⟩
  |ok f=>
   have ff:=aA8 hk (f0.isIn hk) i9 O E
   rw [E] at A;subst A
   rw [show (tE (.ok f)).2=0 from rfl,kR] at hB
   rw [aD]
   cases q2:J6 0 1 j with
   |error e=>
    have he:=zn q2
    rw [q2] at hB;subst hB
    rw [show (tE (.error e)).2=e from rfl,n9 (show e≠0 by omega)] at q;subst q
    dsimp only at hC
    rw [n9 (show e≠0 by omega)] at hC;subst hC
    exact ⟨fun z h=>(by cases h),fun e' h=>by injection h with h;omega⟩
   |ok b=>
    have fb:=mD (by omega) f1 q2
    rw [q2] at hB;subst hB
    rw [show (tE (.ok b)).2=0 from rfl,show (tE (.ok b)).1=b from rfl,show (tE (.ok f)).1=f from rfl,kR,show ri 0 b f=Jn 0 b f from by unfold ri sh;rw [if_pos fb.2,if_pos ff.2]] at q
    rw [aD]
    cases q3:Jn 0 b f with
    |error e=>
     have he:=AL q3
     rw [q3] at q;subst q
     rw [show (tE (.error e)).2=e from rfl,n9 (show e≠0 by omega)] at hC;subst hC
     exact ⟨fun z h=>(by cases h),fun e' h=>by injection h with h;omega⟩
    |ok line=>
     rw [q3] at q;subst q
     rw [show (tE (.ok line)).2=0 from rfl,show (tE (.ok line)).1=line from rfl,kR] at hC
     rw [aD]
     cases q4:c6 [line,dS 10 [a],J4 (parts 10 sys)] (dF line (dS 10 [a]) (parts 10 sys)) with
     |error e=>
      have he:=BH (fun e h=>o_ h) q4
      rw [q4] at hC;subst hC
      exact ⟨fun z h=>(by cases h),fun e' h=>by injection h with h;subst h;exact ⟨by omega,rfl⟩⟩
     |ok y=>
      rw [q4] at hC;subst hC
      exact ⟨fun z h=>by injection h with h;subst h;exact ⟨rfl,rfl⟩,fun e h=>by cases h⟩
end
abbrev pap (r:LC) (u lo h:Tm):Tm:= .mk 13 0 qw r [u,lo,h] []
def Nu (l r:Tm) (x:Br Tm):Except Int (Br Tm):=
 bE (NF (ua x.f 0 1)) fun f=>bE (uA 0 1 0 1 (AK x)) fun u=>bE (J6 0 2 l) fun h=>bE (J6 0 2 r) fun j=> .ok ⟨f,[pap [⟨2,0⟩] u h j]⟩
def jg (k0 l r a:Tm) (sys:LB):Except Int Tm:=
 bE (J6 0 1 a) fun p=>bE (J6 0 1 l) fun h=>bE (J6 0 1 r) fun j=>bE (Ih (Nu l r) sys) fun bs=>bE (J6 0 2 l) fun q=>bE (J6 0 2 r) fun x=>
 .ok (dS 12 [.mk 15 0 qw [] [k0,pap [⟨1,0⟩] p h j] (bs++[⟨[⟨0,1⟩],[q]⟩]++[⟨[⟨1,0⟩],[x]⟩])])
theorem aCF {l r:Tm} {x:Br Tm} {e:Int} (h:Nu l r x= .error e):0<e/\e<=1000:=by
 unfold Nu at h
 rcases be h with h|⟨_,_,h⟩
 ·exact T2 (q_ _ _ _) h
 rcases be h with h|⟨_,_,h⟩
 ·exact Rz _ h
 rcases be h with h|⟨_,_,h⟩
 ·exact zn h
 rcases be h with h|⟨_,_,h⟩
 ·exact zn h
 simp_all
theorem Q5 {a b:Int} (ha:0<=a/\a<4294967296) (hb:0<=b/\b<4294967296):aq [⟨a,b⟩]/\[(⟨a,b⟩:Cl)].length<1073741824:=⟨fun c hc=>by rw [List.mem_singleton] at hc;subst hc;exact ⟨ha,hb⟩,by simp⟩
theorem b0 {r:LC} (q:aq r/\r.length<1073741824) {u lo h:Tm} (f1:FN u) (f2:FN lo) (f3:FN h):Sm 60001 (pap r u lo h)/\am (pap r u lo h)<=201:=by
 have a1:=f1.sm;have a2:=f2.sm;have a3:=f3.sm
 refine ⟨(Hn (kd:=13) (by omega) q (ks:=[u,lo,h]) (sys:=[]) (n:=60000) (m:=0) (fun x j=>by
  simp at j
  rcases j with rfl|rfl|rfl
  ·exact ⟨a1.1.ok,by omega⟩
  ·exact ⟨a2.1.ok,by omega⟩
  ·exact ⟨a3.1.ok,by omega⟩) (by simp) (by rw [ay,ay,ay,ay];have:=a1.1.eO;have:=a2.1.eO;have:=a3.1.eO;omega) (by rw [ba];trivial) (by simp) (by rw [aO];omega) (by rw [aI];omega)).mono (by omega), ?_⟩
 grind [am,aH,aO]
section
variable {x1 x2:Int} {x3:BA} {x4:LC} {x5:LT} {x6 sys:LB}
def S8 (l r:Tm) (c:Int) (x:Br Tm):Br Tm×Int:=
 let R:=if c=0 then ua x.f 0 1 else ([],c)
 let U:=mM R.2 (uA 0 1 0 1 (AK x))
 let A:=mM U.2 (J6 0 2 l)
 let B:=mM A.2 (J6 0 2 r)
 (⟨R.1,[pap [⟨2,0⟩] U.1 A.1 B.1]⟩,B.2)
theorem aHa {l r:Tm} {x:Br Tm} {b:Br Tm} (h:Nu l r x= .ok b):S8 l r 0 x=(b,0):=by
 unfold Nu at h
 obtain ⟨f,h1,h⟩:=i8 h
 obtain ⟨u,h2,h⟩:=i8 h
 obtain ⟨A,j,h⟩:=i8 h
 obtain ⟨B,q,h⟩:=i8 h
 injection h with h;subst h
 obtain ⟨z,rfl⟩:=rR h1
 unfold S8
 simp only [if_pos,z,kR,h2,j,q]
 rfl
theorem aHb {l r:Tm} {x:Br Tm} {e:Int} (h:Nu l r x= .error e):e≠0/\(S8 l r 0 x).2=e:=by
 have he:=aCF h
 refine ⟨by omega, ?_⟩
 have q:e≠0:=by omega
 unfold Nu at h
 unfold S8
 simp only [if_pos]
 by_cases j:(ua x.f 0 1).2=0
 ·rw [jF j,aD] at h
  rw [j,kR]
  cases q2:uA 0 1 0 1 (AK x) with
  |error e'=>
   grind [lk,tE,n9]
  |ok u=>
   rw [q2,aD] at h
   rw [show (tE (.ok u)).2=0 from rfl,kR]
   cases z:J6 0 2 l with
   |error e'=>
    grind [lk,tE,n9]
   |ok A=>
    rw [z,aD] at h
    rw [show (tE (.ok A)).2=0 from rfl,kR]
    cases B:J6 0 2 r with
    |error e'=>rw [B,lk] at h;injection h with h
    |ok E=>grind [aD]
 grind [iO,lk,n9]
theorem aHc {l r:Tm} {x:Br Tm} {c:Int} (hc:c≠0):(S8 l r c x).2=c:=by
 grind [S8,n9]
theorem aC9 (hk:F3 k) {t k0 l r:Tm} (a8:t.c=[k0,l,r]) (f0:Fm k0) (f1:Fm l) (f2:Fm r) (fa:Fm (Tm.mk x1 x2 x3 x4 x5 x6)) (sy: ∀b∈sys,b.c=[AK b]/\Fm (AK b)/\RX true b.f) (bc:sys.length<=20000) (I:Int×Int×BA×LT×Int->OS S):
  ∃y c,c5 k t 0 x1 x2 x3 x4 x5 x6 sys I=I (12,0,qw,[y],c)/\In k (dS 12 [y])/\(∀z,jg k0 l r (Tm.mk x1 x2 x3 x4 x5 x6) sys= .ok z->dS 12 [y]=z/\c=0)/\ ∀e,jg k0 l r (Tm.mk x1 x2 x3 x4 x5 x6) sys= .error e->e≠0/\c=e:=by
 have bf:4294968296<=k:=hk
 have g0:af t.c 0=some k0:=ED (n:=0) rfl (by grind)
 have g1:af t.c 1=some l:=ED (n:=1) rfl (by grind)
 have g2:af t.c 2=some r:=ED (n:=2) rfl (by grind)
 generalize ha:Tm.mk x1 x2 x3 x4 x5 x6=a at fa
 have Y: ∀ {t:Tm} (ft:Fm t) (c:Int) (g:Tm×Int->OS S),zb k t 0 1 c g=g (mM c (J6 0 1 t)):=fun ft c g=>w1 hk ft (by omega) (by omega) g
 have T: ∀ {t:Tm} (ft:Fm t) (c:Int) (g:Tm×Int->OS S),zb k t 0 2 c g=g (mM c (J6 0 2 t)):=fun ft c g=>w1 hk ft (by omega) (by omega) g
 generalize hP:mM 0 (J6 0 1 a)=P
 generalize O:mM P.2 (J6 0 1 l)=Lo
 generalize J:mM Lo.2 (J6 0 1 r)=Hi
 have fP:FN P.1:=by rw [<-hP];exact EJ fun t h=>mD (by omega) fa h
 have ax:FN Lo.1:=by rw [<-O];exact EJ fun t h=>mD (by omega) f1 h
 have az:FN Hi.1:=by rw [<-J];exact EJ fun t h=>mD (by omega) f2 h
 have key:=fun RET=>aAX (S:=S) (l:=sys) (L:=fun m c i acc=>jd k I x1 x2 x3 x4 x5 x6 sys t l r (13,0,qw,[⟨1,0⟩],[P.1,Lo.1,Hi.1]) m c acc i) (I:=RET) (g:=S8 l r) (F:=Nu l r) (Q:=BrQ 60001) (by omega)
 obtain ⟨l',h1,h2,h3,h4⟩:=key (fun q=>I (12,0,qw,[.mk 15 0 qw [] [k0,pap [⟨1,0⟩] P.1 Lo.1 Hi.1] (q.1++[⟨[⟨0,1⟩],[(mM q.2 (J6 0 2 l)).1]⟩]++[⟨[⟨1,0⟩],[(mM (mM q.2 (J6 0 2 l)).2 (J6 0 2 r)).1]⟩])],(mM (mM q.2 (J6 0 2 l)).2 (J6 0 2 r)).2))
  (fun m c acc ao=>by
   have:=zt (l:=sys) (p:=sys) (by simp)
   simp only [jd,ey,this,n3,ag hk.fu,ar,T f1,T f2,xF,JM,zc]
   grind [J5])
  (fun m c x p q acc h ao=>by
   obtain ⟨e1,e2,e3,_⟩:=sX h (by omega)
   obtain ⟨q1,q2,W⟩:=sy x (by grind)
   have hg:af x.c 0=some (AK x):=ED (n:=0) rfl (by grind)
   have a6:pH 1 1 (AK x)=uA 0 1 0 1 (AK x):=if_pos q2.2
   simp only [jd,ey,e1,ae,e2,rf,hg,ag hk.fu,ar,T f1,T f2,xF,tO,e3]
   rw [v_ hk W.1.2 (G9 W).2 (by omega),v6 hk (b:=1) (fun _=>q2.isIn hk) (by omega),a6,J5 (by grind)]
   rfl)
  (fun x hx b h=>aHa h) (fun x hx e h=>aHb h) (fun x hx c hc=>aHc hc)
  (fun x hx c=>by
   obtain ⟨q1,q2,W⟩:=sy x hx
   unfold S8
   have fU: ∀c,FN (mM c (uA 0 1 0 1 (AK x))).1:=fun c=>EJ fun t h=>jr (by omega) q2 h
   have fA: ∀c,FN (mM c (J6 0 2 l)).1:=fun c=>EJ fun t h=>mD (by omega) f1 h
   have fB: ∀c,FN (mM c (J6 0 2 r)).1:=fun c=>EJ fun t h=>mD (by omega) f2 h
   have ad:=b0 (Q5 (a:=2) (b:=0) (by omega) (by omega)) (fU (if c=0 then ua x.f 0 1 else ([],c)).2) (fA (mM (if c=0 then ua x.f 0 1 else ([],c)).2 (uA 0 1 0 1 (AK x))).2) (fB (mM (mM (if c=0 then ua x.f 0 1 else ([],c)).2 (uA 0 1 0 1 (AK x))).2 (J6 0 2 l)).2)
   refine ⟨_,rfl,ad.1,by omega, ?_⟩
   show aq (if c=0 then ua x.f 0 1 else ([],c)).1/\_
   split
   ·exact r8 W.1
   ·exact ⟨fun c hc=>(by cases hc),by simp⟩)
  sys [] [] k Hi.2 rfl (by omega) (by grind)
 generalize M:ut (dt Hi.2 (Ih (Nu l r) sys))=E at h1
 generalize hA:mM E (J6 0 2 l)=A at h1
 generalize hB:mM A.2 (J6 0 2 r)=B at h1
 have fA:FN A.1:=by rw [<-hA];exact EJ fun t h=>mD (by omega) f1 h
 have fB:FN B.1:=by rw [<-hB];exact EJ fun t h=>mD (by omega) f2 h
 have ad:=b0 (Q5 (a:=1) (b:=0) (by omega) (by omega)) fP ax az
 have a7:cv 60001 (l'++[⟨[⟨0,1⟩],[A.1]⟩]++[⟨[⟨1,0⟩],[B.1]⟩]):=Ux (Ux h3 (Qs (Q5 (by omega) (by omega)) (fA.sm.1.mono (by omega)) (by have:=fA.sm.2;omega) (Na _))) (Qs (Q5 (by omega) (by omega)) (fB.sm.1.mono (by omega)) (by have:=fB.sm.2;omega) (Na _))
 refine ⟨_,B.2, ?_,aBl hk (by omega) (hV (n:=60001) (x:=k0) (y:=pap [⟨1,0⟩] P.1 Lo.1 Hi.1) (f0.sm.mono (by omega)) ad.1 (by have:=f0.dep;omega) (by omega) (by omega) a7 (by omega) (by simp;omega)), ?_⟩
 ·simp only [c5,aAe,ag hk.fu,ar,g1,g2,rf,ha,Y fa,Y f1,Y f2,tO,hP,O,J]
  exact h1
 ·unfold jg
  rw [kR] at hP
  cases q1:J6 0 1 a with
  |error e=>
   have he:=zn q1
   have j:e≠0:=by omega
   rw [q1] at hP;subst hP
   rw [show (tE (.error e)).2=e from rfl,n9 j] at O;subst O
   dsimp only at J
   rw [n9 j] at J;subst J
   rw [lb j] at M
   have M:e=E:=M
   subst M
   rw [n9 j] at hA;subst hA
   dsimp only at hB
   rw [n9 j] at hB;subst hB
   exact ⟨fun z h=>(by cases h),fun e' h=>by injection h with h;omega⟩
  |ok p=>
   rw [q1] at hP;subst hP
   rw [show (tE (.ok p)).2=0 from rfl,kR] at O
   rw [aD]
   cases q2:J6 0 1 l with
   |error e=>
    have he:=zn q2
    have j:e≠0:=by omega
    rw [q2] at O;subst O
    rw [show (tE (.error e)).2=e from rfl,n9 j] at J;subst J
    rw [lb j] at M
    have M:e=E:=M
    subst M
    rw [n9 j] at hA;subst hA
    dsimp only at hB
    rw [n9 j] at hB;subst hB
    exact ⟨fun z h=>(by cases h),fun e' h=>by injection h with h;omega⟩
   |ok lo=>
    rw [q2] at O;subst O
    rw [show (tE (.ok lo)).2=0 from rfl,kR] at J
    rw [aD]
    cases W:J6 0 1 r with
    |error e=>
     have he:=zn W
     have j:e≠0:=by omega
     rw [W] at J;subst J
     rw [show (tE (.error e)).2=e from rfl,lb j] at M
     have M:e=E:=M
     subst M
     rw [n9 j] at hA;subst hA
     dsimp only at hB
     rw [n9 j] at hB;subst hB
     exact ⟨fun z h=>(by cases h),fun e' h=>by injection h with h;omega⟩
    |ok hi=>
     rw [W] at J;subst J
     rw [show (tE (.ok hi)).2=0 from rfl,oH] at M h4
     rw [aD]
     cases q4:Ih (Nu l r) sys with
     |error e=>
      have he:=aCv (fun x _ e h=>aCF h) q4
      have j:e≠0:=by omega
      rw [q4] at M
      have M:e=E:=M
      subst M
      rw [n9 j] at hA;subst hA
      dsimp only at hB
      rw [n9 j] at hB;subst hB
      exact ⟨fun z h=>(by cases h),fun e' h=>by injection h with h;omega⟩
     |ok bs=>
      have:=h4 bs q4
      subst this
      rw [q4] at M
      have M:0=E:=M
      subst M
      rw [kR] at hA
      rw [aD]
      cases q5:J6 0 2 l with
      |error e=>
       have he:=zn q5
       have j:e≠0:=by omega
       rw [q5] at hA;subst hA
       rw [show (tE (.error e)).2=e from rfl,n9 j] at hB;subst hB
       exact ⟨fun z h=>(by cases h),fun e' h=>by injection h with h;omega⟩
      |ok l2=>
       rw [q5] at hA;subst hA
       rw [show (tE (.ok l2)).2=0 from rfl,kR] at hB
       rw [aD]
       cases q6:J6 0 2 r with
       |error e=>
        have he:=zn q6
        rw [q6] at hB;subst hB
        exact ⟨fun z h=>(by cases h),fun e' h=>by injection h with h;subst h;exact ⟨by omega,rfl⟩⟩
       |ok r2=>
        rw [q6] at hB;subst hB
        exact ⟨fun z h=>by injection h with h;subst h;exact ⟨rfl,rfl⟩,fun e h=>by cases h⟩
end
def j4:Tm:=dS 8 Tu
def aJe (a:Tm) (x:Br Tm):Except Int (Br Tm):=
 bE (Ao 0 [⟨0,0⟩] (AK x)) fun e=>bE (J6 0 1 a) fun a'=>bE (c6 [AK x,a'] (aFL (AK x) a')) fun l=> .ok ⟨x.f,[e,dS 14 [l,j4]]⟩
def aJf (a:Tm) (sys:LB):Except Int Tm:=bE (Ih (aJe a) sys) fun bs=> .ok (.mk 16 0 qw [] [a] bs)
theorem SZ:Fm j4:=⟨by
 have:=(show p9 (dS 8 Tu) from by
  unfold Tu k3 vN dS
  repeat' first|rw [p9]|rw [aZ]|rw [ba]|refine ⟨?_, ?_⟩|refine ⟨⟨by unfold aG;omega,by unfold aG;omega,by decide, ?_,by simp,by simp,by simp⟩, ?_, ?_⟩|trivial|exact (Q5 (by omega) (by omega)).1|exact (fun c hc=>by cases hc))
 exact this,aFR⟩
section
variable {x1 x2:Int} {x3:BA} {x4:LC} {x5:LT} {x6 sys:LB}
def eg (x:Br Tm):Prop:= ∃t u,x.c=[t,u]/\Sm 20000 t/\Sm 80001 u/\am t<=200/\am u<=201/\aq x.f/\x.f.length<1073741824
theorem aAN {l:LB} (h: ∀x∈l,eg x):ba l/\aI l<=l.length*100001/\aO l<=201:=by
 induction l with
 |nil=>grind [ba,aI,aO]
 |cons x l j=>
  obtain ⟨i1,i2,i3⟩:=j fun x q=>h x (by simp [q])
  obtain ⟨t,u,e,h1,h2,d1,d2,z,A⟩:=h x (by simp)
  obtain ⟨f,B⟩:=x
  have e:B=[t,u]:=e
  subst e
  refine ⟨?_, ?_, ?_⟩
  ·rw [ba,fc,aZ,aZ,aZ];exact ⟨⟨⟨z,A,by simp⟩,h1.ok,h2.ok,trivial⟩,i1⟩
  ·rw [aI,Ho,ay,ay,ay,uL,Nat.succ_mul];have:=h1.eO;have:=h2.eO;omega
  grind [aO,Fy,aH]
end
def p2 (t:Tm):Except Int Tm:=
 let k0:=t.c.getD 0 pX
 let a:=t.c.getD 1 pX
 if k0.k=4 then Su (k0.c.getD 1 pX) a t.s
 else if k0.k=7 then N1 (k0.c.getD 0 pX) (k0.c.getD 1 pX) a t.s
 else if k0.k=11 then jg (k0.c.getD 0 pX) (k0.c.getD 1 pX) (k0.c.getD 2 pX) a t.s
 else if k0.k=3 then aJf a t.s
 else TC t
def TN (t:Tm):Tm×Bool×Int:=
 if bw t≠0 then (pX,false,bw t) else
 if t.k=15/\((t.c.getD 0 pX).k=4\/(t.c.getD 0 pX).k=7\/(t.c.getD 0 pX).k=11\/(t.c.getD 0 pX).k=3\/(t.c.getD 0 pX).k=16) then Hu (p2 t) else (pX,false,0)
def Sf (v d:Int) (m:Tm):Except Int Tm:=bE (oK 1 v m) fun y=>pH 0 d y
theorem aRT {v d:Int} {m:Tm} {e:Int} (h:Sf v d m= .error e):0<e/\e<=1000:=by
 unfold Sf at h
 rcases be h with h|⟨_,_,h⟩
 ·exact aJg e h
 ·exact je e h
theorem aDt {f b:Int} (hb:0<=b/\b<=1000000) {m y:Tm} (j:p9 m) (h:oK f b m= .ok y):Fm y:=by
 unfold oK sh at h
 split at h
 case isFalse=>cases h
 rename_i q
 exact jr (by omega) ⟨j,q⟩ h
theorem pq {f b:Int} (hb:0<=b/\b<=1000) {m y:Tm} (j:p9 m) (h:pH f b m= .ok y):Fm y:=by
 unfold pH sh at h
 split at h
 case isFalse=>cases h
 rename_i q
 exact jr (by omega) ⟨j,q⟩ h
theorem aEZ {v d:Int} (hv:0<=v/\v<=1000) (hd:0<=d/\d<=1000) {m y:Tm} (j:p9 m) (h:Sf v d m= .ok y):Fm y:=by
 unfold Sf at h
 obtain ⟨x,h1,h2⟩:=i8 h
 exact pq hd (aDt (by omega) j h1).ok h2
theorem aIu (hk:F3 k) {m:Tm} {v d c:Int} (hv:0<=v/\v<=1000) (hd:0<=d/\d<=1000) (q:c=0->In k m) (I:Tm×Int->OS S):Tr k m v d c I=I (mM c (Sf v d m)):=by
 simp only [Tr,ag hk.fu,dG,ar,rJ]
 by_cases hc:c=0
 case neg=>rw [dj hc,ub,ae,n9 hc];rfl
 have h:=q hc
 subst hc
 rw [show (!((0:Int)==0))=false from rfl,n3,kR,ai0 hk h (by omega) (by omega),if_pos rfl]
 unfold Sf
 cases j:oK 1 v m with
 |error e=>
  have he:=aJg e j
  rw [show (tE (.error e)).2=e from rfl,if_neg (show e≠0 by omega)]
  dsimp only
  rw [dj (show e≠0 by omega),ub,ae];rfl
 |ok y=>
  have fy:=aDt (by omega) h.1 j
  rw [show (tE (.ok y)).2=0 from rfl,show (tE (.ok y)).1=y from rfl,if_pos rfl]
  dsimp only
  rw [show (!((0:Int)==0))=false from rfl,n3,HM hk (fy.isIn hk) (by omega) (by omega),aD]
  have:=Lw (pH 0 d y) (FP je) 0
  grind [kR]
theorem aER (hk:F3 k) {line a y:Tm} {pz r:LC} {en:Cl} (hl:p9 line) (ha:p9 a) (hp:RF pz) (he:aX en) (j:RF r) (h:Fs line pz a en r= .ok y):Fm y:=by
 unfold Fs at h
 split at h
 case isFalse=>cases h
 rename_i so
 split at h
 case isFalse=>cases h
 unfold FJ at h
 obtain ⟨z,h1,h⟩:=i8 h
 split at h
 case isFalse=>cases h
 rename_i f0
 injection h with h;subst h
 have:=R0 (l:=[line,a]) (fun x q=>by
  grind) so
 exact ⟨(et hk (this line (by simp)) (this a (by simp)) hp he h1).1.1,f0⟩
theorem aAG {line a:Tm} {pz r:LC} {en:Cl} {e:Int} (h:Fs line pz a en r= .error e):e≠0:=eG h
section
variable {pz:LC} {x1 x2:Int} {x3:BA} {x4:LC} {x5:LT} {x6:LB}
theorem aIC (hk:F3 k) {l a:Tm} {c:Int} (hl:In k l) (ha:In k a) (hp:aq pz/\pz.length<1073741824) (I:Tm×Int->OS S):e0 k l pz a c I=I (mM c (Fs l pz a ⟨1,0⟩ [⟨0,1⟩,⟨2,0⟩])):=by
 simp only [e0,ag hk.fu,dG,ar,rJ]
 exact Az c (fun h g=>aHR hk hl ha hp.1 hp.2 g) (fun e h=>aAG h) I
theorem aDh (hk:F3 k) {l a:Tm} {c:Int} (hl:In k l) (ha:In k a) (hp:aq pz/\pz.length<1073741824) (I:Tm×Int->OS S):eR k l pz a c I=I (mM c (Fs l pz a ⟨0,1⟩ [⟨3,0⟩])):=by
 simp only [eR,ag hk.fu,dG,ar,rJ]
 exact Az c (fun h g=>aHV hk hl ha hp.1 hp.2 g) (fun e h=>aAG h) I
end
theorem aHO:RF [⟨2,0⟩]:=gS ⟨⟨by decide,by decide⟩,by decide,by decide⟩
def Tz (t:Tm):Except Int Tm:=bE (uA 0 1 0 2 t) fun y=>Ao 0 [⟨2,0⟩] y
def M6 (t:Tm):Except Int Tm:=sh t (Tz t)
theorem aSG {t:Tm} {e:Int} (h:Tz t= .error e):0<e/\e<=1000:=by
 unfold Tz at h
 rcases be h with h|⟨_,_,h⟩
 ·exact Rz t h
 ·exact j9 h
theorem aIF (hk:F3 k) {t:Tm} (j:In k t) (I:Tm×Int->OS S):Z2 k t I=I (tE (M6 t)):=by
 simp only [Z2,ag hk.fu,ar,HM hk j (f:=2) (b:=1) (by decide) (by omega)]
 unfold M6 pH sh
 by_cases h:bw t=0
 case neg=>rw [if_neg h,if_neg h,show (tE (.error (bw t):Except Int Tm)).2=bw t from rfl,dj h,ub,ae];rfl
 rw [if_pos h,if_pos h]
 have ft:Fm t:=⟨j.1,h⟩
 unfold Tz
 cases hl:uA 0 1 0 2 t with
 |error e=>
  have he:=Rz t hl
  rw [show (tE (.error e)).2=e from rfl,dj (show e≠0 by omega),ub,ae];rfl
 |ok y=>
  have fy:=jr (by omega) ft hl
  rw [show (tE (.ok y)).2=0 from rfl,show (tE (.ok y)).1=y from rfl,show (!((0:Int)==0))=false from rfl,n3,ap8 hk (fy.isIn hk) (i:=0) (by decide) aHO,aD,show sI 0 [⟨2,0⟩] y=Ao 0 [⟨2,0⟩] y from if_pos fy.2]
def Q2 (x:Tm):Prop:=Sm 20000 x/\am x<=200
theorem Q2.isIn {x:Tm} (h:Q2 x) (hk:F3 k):In k x:=h.1.isIn hk (by omega)
theorem Fm.q2 {x:Tm} (h:Fm x):Q2 x:=⟨h.sm,h.dep⟩
theorem Mh:Q2 pX:=(FN.sm (.inr rfl))
theorem LX {c:Int} {x:Except Int Tm} (h: ∀t,x= .ok t->Q2 t):Q2 (mM c x).1:=by
 unfold mM
 split
 ·cases x with
  |error e=>exact Mh
  |ok t=>exact h t rfl
 ·exact Mh
theorem lf {c:Int} {x:Except Int Tm} (j: ∀e,x= .error e->0<e/\e<=1000) (h:(mM c x).2=0):c=0/\ ∃y,x= .ok y/\(mM c x).1=y:=by
 by_cases hc:c=0
 ·subst hc
  rw [kR] at h ⊢
  cases x with
  |error e=>have:=j e rfl;have:e=0:=h;omega
  |ok y=>exact ⟨rfl,y,rfl,rfl⟩
 ·rw [n9 hc] at h;exact absurd h hc
theorem M7 {t y:Tm} {x:Except Int Tm} (h:sh t x= .ok y):bw t=0/\x= .ok y:=by
 unfold sh at h
 split at h
 ·rename_i j;exact ⟨j,h⟩
 ·cases h
theorem Mp {a b:Int} {t y:Tm} (j:p9 t) (h:wA a b t= .ok y):Fm t/\J6 a b t= .ok y:=⟨⟨j,(M7 h).1⟩,(M7 h).2⟩
theorem Nl {i:Int} {r:LC} {t y:Tm} (j:p9 t) (h:sI i r t= .ok y):Fm t/\Ao i r t= .ok y:=⟨⟨j,(M7 h).1⟩,(M7 h).2⟩
theorem aQv {f b:Int} {t y:Tm} (j:p9 t) (h:pH f b t= .ok y):Fm t/\uA 0 b 0 f t= .ok y:=⟨⟨j,(M7 h).1⟩,(M7 h).2⟩
theorem aSO {f b:Int} {t y:Tm} (j:p9 t) (h:oK f b t= .ok y):Fm t/\uA b 0 f 0 t= .ok y:=⟨⟨j,(M7 h).1⟩,(M7 h).2⟩
theorem ch {n:Int} {t u y:Tm} (j:p9 t) (hu:p9 u) (h:ri n t u= .ok y):Fm t/\Fm u/\Jn n t u= .ok y:=by
 obtain ⟨h1,h2⟩:=M7 h
 obtain ⟨q,x⟩:=M7 h2
 exact ⟨⟨j,h1⟩,⟨hu,q⟩,x⟩
theorem aIV {t y:Tm} (j:p9 t) (h:M6 t= .ok y):Fm t/\Tz t= .ok y:=⟨⟨j,(M7 h).1⟩,(M7 h).2⟩
theorem aDs {a b:Int} (ha:0<=a/\a<=1000) (hb:0<=b/\b<=1000) {t y:Tm} (j:p9 t) (h:wA a b t= .ok y):Q2 y:=(mD (by omega) (Mp j h).1 (Mp j h).2).q2
theorem Sx {r:LC} {t y:Tm} (j:p9 t) (h:sI 0 r t= .ok y):Q2 y:=by
 obtain ⟨h1,h2⟩:=Nl j h
 obtain ⟨q,q2,x⟩:=zv h1 h2
 exact ⟨⟨q,x,by omega⟩,q2⟩
theorem azK {t u y:Tm} (j:p9 t) (hu:p9 u) (h:ri 0 t u= .ok y):Q2 y:=by
 obtain ⟨h1,h2,q⟩:=ch j hu h
 exact (qU (by omega) h1 h2 q).q2
theorem aIW {t y:Tm} (j:p9 t) (h:M6 t= .ok y):Q2 y:=by
 obtain ⟨h1,h2⟩:=aIV j h
 unfold Tz at h2
 obtain ⟨z,q,x⟩:=i8 h2
 obtain ⟨A,q2,B⟩:=zv (jr (by omega) h1 q) x
 exact ⟨⟨A,B,by omega⟩,q2⟩
theorem aE0 {v d:Int} (hv:0<=v/\v<=1000) (hd:0<=d/\d<=1000) {m y:Tm} (j:p9 m) (h:Sf v d m= .ok y):Q2 y:=(aEZ hv hd j h).q2
theorem ayY (hk:F3 k) {line a y:Tm} {pz r:LC} {en:Cl} (hl:p9 line) (ha:p9 a) (hp:RF pz) (he:aX en) (j:RF r) (h:Fs line pz a en r= .ok y):Q2 y:=(aER hk hl ha hp he j h).q2
theorem y':RF []:=rA
theorem aSH {t:Tm}: ∀e,M6 t= .error e->0<e/\e<=1000:=fun e h=>z7 (fun e h=>aSG h) h
section
variable {pz:LC} {x1 x2:Int} {x3:BA} {x4:LC} {x5:LT} {x6:LB}
def SV (pz:LC) (k0 k1 a:Tm):Tm×Int:=
 let U:=mM 0 (wA 1 0 k0)
 let W:=mM U.2 (Fs U.1 pz (vN 0) ⟨1,0⟩ [⟨0,1⟩,⟨2,0⟩])
 let B0:=mM W.2 (Sf 1 0 k1)
 let B:=mM B0.2 (ri 0 B0.1 W.1)
 let F:=mM B.2 (wA 1 0 a)
 let T:=mM F.2 (sI 0 [] W.1)
 (dS 5 [xW pz B.1 (dS 6 [F.1,T.1])],T.2)
def S1 (pz:LC) (k0 k1 a:Tm):Tm×Int:=
 let R:=mM 0 (Fs k0 pz (dS 9 [a]) ⟨0,1⟩ [⟨3,0⟩])
 let B:=mM R.2 (ri 0 k1 R.1)
 (dS 8 [xW pz k0 (dS 9 [a]),xW pz B.1 (dS 10 [a])],B.2)
end
theorem KV {n:Int} (hn:0<=n/\n<=1000):Q2 (vN n):=by
 unfold vN
 refine ⟨⟨?_, ?_, ?_⟩, ?_⟩
 ·rw [p9,aZ,ba];exact ⟨⟨by unfold aG;omega,by unfold aG;omega,by decide,(fun c hc=>by cases hc),by simp,by simp,by simp⟩,trivial,trivial⟩
 ·rw [au,ay,aI];omega
 ·rw [am,aH,aO];omega
 ·rw [am,aH,aO];omega
theorem aG8:aX ⟨1,0⟩:=⟨⟨by decide,by decide⟩,⟨by decide,by decide⟩⟩
theorem sL:aX ⟨0,1⟩:=⟨⟨by decide,by decide⟩,⟨by decide,by decide⟩⟩
section
variable {pz:LC} {x1 x2:Int} {x3:BA} {x4:LC} {x5:LT} {x6:LB}
theorem aDg (j:F4 k) {l k0 k1:Tm} (J:l.c=[k0,k1]) (f0:Fm k0) (f1:Fm k1) (fa:Fm (Tm.mk x1 x2 x3 x4 x5 x6)) (hp:RX true pz) (I:Int×Int×BA×LT×Int->OS S):
  ∃ks c,hK k l 0 pz x1 x2 x3 x4 x5 x6 I=I (5,0,qw,ks,c)/\(dS 5 ks,c)=SV pz k0 k1 (Tm.mk x1 x2 x3 x4 x5 x6)/\In k (dS 5 ks):=by
 have hk:=j.f3
 obtain ⟨g0,g1⟩:=KQ J
 generalize ha:Tm.mk x1 x2 x3 x4 x5 x6=a at fa
 unfold SV
 dsimp only
 generalize hU:mM 0 (wA 1 0 k0)=U
 generalize hW:mM U.2 (Fs U.1 pz (vN 0) ⟨1,0⟩ [⟨0,1⟩,⟨2,0⟩])=W
 generalize q:mM W.2 (Sf 1 0 k1)=B0
 generalize hB:mM B0.2 (ri 0 B0.1 W.1)=B
 generalize hF:mM B.2 (wA 1 0 a)=F
 generalize hT:mM F.2 (sI 0 [] W.1)=T
 have qU:Q2 U.1:=by rw [<-hU];exact LX fun t h=>aDs (by omega) (by omega) f0.ok h
 have E:Q2 W.1:=by rw [<-hW];exact LX fun t h=>ayY hk qU.1.ok (KV (by omega)).1.ok hp.1 aG8 aC4 h
 have z:Q2 B0.1:=by rw [<-q];exact LX fun t h=>aE0 (by omega) (by omega) f1.ok h
 have L:Q2 B.1:=by rw [<-hB];exact LX fun t h=>azK z.1.ok E.1.ok h
 have M:Q2 F.1:=by rw [<-hF];exact LX fun t h=>aDs (by omega) (by omega) fa.ok h
 have O:Q2 T.1:=by rw [<-hT];exact LX fun t h=>Sx E.1.ok h
 have h6:=Qt (kd:=6) (by omega) (n:=20000) (ks:=[F.1,T.1]) (fun x A=>by
  simp at A
  rcases A with rfl|rfl
  ·exact ⟨M.1,by have:=M.2;omega⟩
  ·exact ⟨O.1,by have:=O.2;omega⟩) (by simp)
 have d6:am (dS 6 [F.1,T.1])<=201:=by unfold dS;rw [am,aH,aH,aH,aO];have:=M.2;have:=O.2;omega
 have Y:=MP (G9 hp) L.1 h6.1 (by have:=L.2;omega) (by omega)
 have d14:am (xW pz B.1 (dS 6 [F.1,T.1]))<=202:=by unfold xW;rw [am,aH,aH,aH,aO];have:=L.2;omega
 have h5:=Qt (kd:=5) (by omega) (ks:=[xW pz B.1 (dS 6 [F.1,T.1])]) (fun x A=>by
  simp at A;subst A;exact ⟨Y,by omega⟩) (by simp)
 refine ⟨_,T.2, ?_,rfl,h5.1.isIn hk (by omega)⟩
 simp only [hK,ag hk.fu,ar,g0,g1,rf,TY,zc,SD,tO,ha]
 have e0:Tm.mk 1 0 qw [] [] []=vN 0:=rfl
 have i0:=(KV (n:=0) (by omega)).isIn hk
 rw [IG hk (fun _=>f0.isIn hk) (by omega) (by omega),hU]
 rw [e0,aIC hk (qU.isIn hk) i0 (G9 hp),hW,aIu hk (by omega) (by omega) (fun _=>f1.isIn hk),q,Hf j (fun _=>⟨z.isIn hk,E.isIn hk⟩),hB,IG hk (fun _=>fa.isIn hk) (by omega) (by omega),hF,fi hk (fun _=>E.isIn hk) y',hT]
 rfl
theorem aDi (q:F4 k) {l k0 k1:Tm} (A:l.c=[k0,k1]) (f0:Fm k0) (f1:Fm k1) (fa:Fm (Tm.mk x1 x2 x3 x4 x5 x6)) (hp:RX true pz) (I:Int×Int×BA×LT×Int->OS S):
  ∃ks c,u2 k l 0 pz x1 x2 x3 x4 x5 x6 I=I (8,0,qw,ks,c)/\(dS 8 ks,c)=S1 pz k0 k1 (Tm.mk x1 x2 x3 x4 x5 x6)/\In k (dS 8 ks):=by
 have hk:=q.f3
 obtain ⟨g0,g1⟩:=KQ A
 generalize ha:Tm.mk x1 x2 x3 x4 x5 x6=a at fa
 unfold S1
 dsimp only
 have a9:=S4 (kd:=9) (by omega) (.inl fa)
 have j:=S4 (kd:=10) (by omega) (.inl fa)
 have i9:In k (dS 9 [a]):=a9.1.isIn hk (by omega)
 generalize J:mM 0 (Fs k0 pz (dS 9 [a]) ⟨0,1⟩ [⟨3,0⟩])=R
 generalize hB:mM R.2 (ri 0 k1 R.1)=B
 have L:Q2 R.1:=by rw [<-J];exact LX fun t h=>ayY hk f0.ok a9.1.ok hp.1 sL QD h
 have E:Q2 B.1:=by rw [<-hB];exact LX fun t h=>azK f1.ok L.1.ok h
 have F:=MP (G9 hp) f0.sm a9.1 (by have:=f0.dep;omega) (by have:=a9.2;omega)
 have z:=MP (G9 hp) E.1 j.1 (by have:=E.2;omega) (by have:=j.2;omega)
 have d14:am (xW pz k0 (dS 9 [a]))<=202:=by unfold xW;rw [am,aH,aH,aH,aO];have:=f0.dep;have:=a9.2;omega
 have M:am (xW pz B.1 (dS 10 [a]))<=202:=by unfold xW;rw [am,aH,aH,aH,aO];have:=E.2;have:=j.2;omega
 have T:=Qt (kd:=8) (by omega) (n:=100002) (ks:=[xW pz k0 (dS 9 [a]),xW pz B.1 (dS 10 [a])]) (fun x O=>by
  simp at O
  rcases O with rfl|rfl
  ·exact ⟨F.mono (by omega),by omega⟩
  ·exact ⟨z.mono (by omega),by omega⟩) (by simp)
 refine ⟨_,B.2, ?_,rfl,T.1.isIn hk (by omega)⟩
 simp only [u2,ag hk.fu,ar,g0,g1,rf,zc,SD,tO,ha]
 have W:Tm.mk 9 0 qw [] [a] []=dS 9 [a]:=rfl
 rw [W,aDh hk (f0.isIn hk) i9 (G9 hp),J,Hf q (fun _=>⟨f1.isIn hk,L.isIn hk⟩),hB]
 rfl
end
def MM (c:Int) (f:LC):LC×Int:=if c=0 then ua f 0 1 else ([],c)
def LS (b:Int) (r:LC) (a u v:Tm) (c:Int):Tm×Int:=
 let P:=mM c (wA 0 b a)
 let X:=mM P.2 (wA 0 b u)
 let Y:=mM X.2 (wA 0 b v)
 (pap r P.1 X.1 Y.1,Y.2)
def Sv (pz:LC) (a u v:Tm) (c:Int):LB×Int:=
 if pz.length=0 then ([],c) else
  let f:=MM c pz
  let q:=LS 2 [⟨2,0⟩] a u v f.2
  ([⟨f.1,[q.1]⟩],q.2)
def S2 (pz:LC) (k0 l r a:Tm):Tm×Int:=
 let u:=mM 0 (sI 0 [] l)
 let v:=mM u.2 (sI 0 [] r)
 let L:=mM v.2 (M6 k0)
 let b:=LS 1 [⟨1,0⟩] a u.1 v.1 L.2
 let s:=Sv pz a u.1 v.1 b.2
 let h:=mM s.2 (pH 1 1 l)
 let r1:=mM h.2 (pH 1 1 r)
 let sys:=s.1++[⟨[⟨0,1⟩],[h.1]⟩]++[⟨[⟨1,0⟩],[r1.1]⟩]
 let C:=mM r1.2 (c6 [L.1,b.1,J4 sys] (dF L.1 b.1 sys))
 (dS 12 [C.1],C.2)
section
variable {pz:LC} {x1 x2:Int} {x3:BA} {x4:LC} {x5:LT} {x6:LB}
theorem aAI {b:Int} (hb:0<=b/\b<=1000) {r:LC} {a u v:Tm} {c:Int} (q:p9 a) (x:p9 u) (z:p9 v) (A:aq r/\r.length<1073741824):Sm 60001 (LS b r a u v c).1/\am (LS b r a u v c).1<=201:=by
 have f: ∀ {t:Tm} (j:p9 t) (c:Int),FN (mM c (wA 0 b t)).1:=fun j c=>EJ fun t h=>mD (by omega) (Mp j h).1 (Mp j h).2
 exact b0 A (f q _) (f x _) (f z _)
theorem aDe (hk:F3 k) {b c:Int} (hb:0<=b/\b<1000) {r:Cl} {u v:Tm} (h:In k (Tm.mk x1 x2 x3 x4 x5 x6)) (j:In k u) (q:In k v) (I:Int×Int×BA×LC×LT×Int->OS S):
  ∃ks,tS k b r u v c pz x1 x2 x3 x4 x5 x6 I=I (13,0,qw,[r],ks,(LS b [r] (Tm.mk x1 x2 x3 x4 x5 x6) u v c).2)/\Tm.mk 13 0 qw [r] ks []=(LS b [r] (Tm.mk x1 x2 x3 x4 x5 x6) u v c).1:=by
 refine ⟨_, ?_,rfl⟩
 simp only [tS,ag hk.fu,ar,tO]
 rw [IG hk (fun _=>h) (by omega) hb,IG hk (fun _=>j) (by omega) hb,IG hk (fun _=>q) (by omega) hb]
 rfl
theorem aH4 (hk:F3 k) {t:Tm} {c:Int} (h:In k t) (I:Tm×Int->OS S):Z1 k t c pz x1 x2 x3 x4 x5 x6 I=I (mM c (M6 t)):=by
 simp only [Z1,ag hk.fu,ar,aIF hk h]
 by_cases hc:c=0
 ·subst hc;rw [show (!((0:Int)==0))=false from rfl,n3,kR]
 ·rw [dj hc,ub,ae,n9 hc];rfl
theorem aHP {c:Int} {f:LC} (h:RF f):aq (MM c f).1/\(MM c f).1.length<1073741824:=by
 unfold MM
 split
 ·exact r8 h
 ·exact ⟨fun c hc=>(by cases hc),by simp⟩
theorem aDf (hk:F3 k) {t k0 l r:Tm} (B:t.c=[k0,l,r]) (f0:Fm k0) (f1:Fm l) (f2:Fm r) (fa:Fm (Tm.mk x1 x2 x3 x4 x5 x6)) (hp:RX true pz) (I:Int×Int×BA×LT×Int->OS S):
  ∃ks c,lo k t 0 pz x1 x2 x3 x4 x5 x6 I=I (12,0,qw,ks,c)/\(dS 12 ks,c)=S2 pz k0 l r (Tm.mk x1 x2 x3 x4 x5 x6)/\In k (dS 12 ks):=by
 have g0:af t.c 0=some k0:=ED (n:=0) rfl (by rw [B];rfl)
 have g1:af t.c 1=some l:=ED (n:=1) rfl (by rw [B];rfl)
 have g2:af t.c 2=some r:=ED (n:=2) rfl (by rw [B];rfl)
 have ia:=fa.isIn hk
 unfold S2
 dsimp only
 generalize hu:mM 0 (sI 0 [] l)=u
 generalize hv:mM u.2 (sI 0 [] r)=v
 generalize hL:mM v.2 (M6 k0)=L
 have W:Q2 u.1:=by rw [<-hu];exact LX fun t h=>Sx f1.ok h
 have Y:Q2 v.1:=by rw [<-hv];exact LX fun t h=>Sx f2.ok h
 have qL:Q2 L.1:=by rw [<-hL];exact LX fun t h=>aIW f0.ok h
 have ad:=fun c=>aAI (b:=1) (r:=[⟨1,0⟩]) (c:=c) (by omega) fa.ok W.1.ok Y.1.ok (Q5 (by omega) (by omega))
 have ao:=fun c=>aAI (b:=2) (r:=[⟨2,0⟩]) (c:=c) (by omega) fa.ok W.1.ok Y.1.ok (Q5 (by omega) (by omega))
 have sb:=ad L.2
 have O:=fun (g:Int×Int×BA×LC×LT×Int->OS S)=>aDe (pz:=pz) hk (b:=1) (c:=L.2) (by omega) (r:=⟨1,0⟩) ia (W.isIn hk) (Y.isIn hk) g
 generalize az:LS 1 [⟨1,0⟩] (Tm.mk x1 x2 x3 x4 x5 x6) u.1 v.1 L.2=b at sb O ⊢
 have fin: ∀ (s:LB×Int),cv 60001 s.1->s.1.length<=10->
   (∀c,FN (mM c (pH 1 1 l)).1)/\(∀c,FN (mM c (pH 1 1 r)).1)/\
   ∀j r1:Tm×Int,FN j.1->FN r1.1->In k (J4 (s.1++[⟨[⟨0,1⟩],[j.1]⟩]++[⟨[⟨1,0⟩],[r1.1]⟩])):=fun s hs hl=>by
  refine ⟨fun c=>EJ fun t h=>pq (by omega) f1.ok h,fun c=>EJ fun t h=>pq (by omega) f2.ok h,fun j r1 h1 h2=> ?_⟩
  have ax:cv 60001 (s.1++[⟨[⟨0,1⟩],[j.1]⟩]++[⟨[⟨1,0⟩],[r1.1]⟩]):=Ux (Ux hs (Qs (Q5 (by omega) (by omega)) (h1.sm.1.mono (by omega)) (by have:=h1.sm.2;omega) (Na _))) (Qs (Q5 (by omega) (by omega)) (h2.sm.1.mono (by omega)) (by have:=h2.sm.2;omega) (Na _))
  obtain ⟨b1,b2⟩:=nj ax
  exact Jb hk (by omega) b1 (by simp;omega) b2
 have last: ∀ {c:Int} {bb:Tm} {sys:LB},In k bb->In k (J4 sys)->In k (dS 12 [(mM c (c6 [L.1,bb,J4 sys] (dF L.1 bb sys))).1]):=by
  intro c bb sys h1 h2
  have q:=(azg hk (qL.isIn hk) h1 h2 c).sm
  have:=Qt (kd:=12) (by omega) (n:=20000) (ks:=[(mM c (c6 [L.1,bb,J4 sys] (dF L.1 bb sys))).1]) (fun x hx=>by
   rw [List.mem_singleton] at hx;subst hx
   exact ⟨q.1,by have:=q.2;omega⟩) (by simp)
  exact this.1.isIn hk (by omega)
 have ib:In k b.1:=sb.1.isIn hk (by omega)
 simp only [lo,ag hk.fu,ar,g0,g1,g2,rf,zc,xF]
 rw [fi hk (fun _=>f1.isIn hk) y',hu,fi hk (fun _=>f2.isIn hk) y',hv,aH4 hk (f0.isIn hk),hL]
 obtain ⟨a6,h1,h2⟩:=O _
 rw [h1]
 dsimp only
 by_cases hl:pz.length=0
 ·rw [decide_eq_false (by omega),n3]
  obtain ⟨fl,fr,fw⟩:=fin ([],b.2) (Na _) (by simp)
  have E:Sv pz (Tm.mk x1 x2 x3 x4 x5 x6) u.1 v.1 b.2=([],b.2):=if_pos hl
  rw [E]
  dsimp only
  generalize z:mM b.2 (pH 1 1 l)=j
  generalize A:mM j.2 (pH 1 1 r)=r1
  have F:FN j.1:=z▸fl _
  have J:FN r1.1:=A▸fr _
  have M:=fw j r1 F J
  dsimp only at M ⊢
  rw [An] at M ⊢
  refine ⟨_,_, ?_,rfl,last ib M⟩
  rw [v6 hk (fun _=>f1.isIn hk) (by omega),z,J5 (by simp),v6 hk (fun _=>f2.isIn hk) (by omega),A,J5 (by simp),h2,Rx hk (fun _=>⟨qL.isIn hk,ib,M⟩) (fun e h=>BJ (fun e h=>o_ h) h)]
 ·rw [decide_eq_true (by omega),ae]
  have E:Sv pz (Tm.mk x1 x2 x3 x4 x5 x6) u.1 v.1 b.2=([⟨(MM b.2 pz).1,[(LS 2 [⟨2,0⟩] (Tm.mk x1 x2 x3 x4 x5 x6) u.1 v.1 (MM b.2 pz).2).1]⟩],(LS 2 [⟨2,0⟩] (Tm.mk x1 x2 x3 x4 x5 x6) u.1 v.1 (MM b.2 pz).2).2):=if_neg hl
  rw [E]
  dsimp only
  have T:=aHP (c:=b.2) hp.1
  have qR:(if b.2=0 then ua pz 0 1 else ([],b.2))=MM b.2 pz:=rfl
  rw [v_ hk hp.1.2 (G9 hp).2 (by omega),qR]
  generalize MM b.2 pz=f at T ⊢
  obtain ⟨a7,h3,h4⟩:=aDe (pz:=pz) hk (b:=2) (c:=f.2) (by omega) (r:=⟨2,0⟩) ia (W.isIn hk) (Y.isIn hk) _
  rw [h3]
  have sq:=ao f.2
  generalize LS 2 [⟨2,0⟩] (Tm.mk x1 x2 x3 x4 x5 x6) u.1 v.1 f.2=q at h4 sq ⊢
  dsimp only
  obtain ⟨fl,fr,fw⟩:=fin ([⟨f.1,[q.1]⟩],q.2) (Qs T sq.1 (by have:=sq.2;omega) (Na _)) (by simp)
  generalize z:mM q.2 (pH 1 1 l)=j
  generalize A:mM j.2 (pH 1 1 r)=r1
  have F:FN j.1:=z▸fl _
  have J:FN r1.1:=A▸fr _
  have M:=fw j r1 F J
  refine ⟨_,_, ?_,rfl,last ib M⟩
  rw [J5 (by simp),v6 hk (fun _=>f1.isIn hk) (by omega),z,J5 (by simp),v6 hk (fun _=>f2.isIn hk) (by omega),A,J5 (by simp),h2,h4,Rx hk (fun _=>⟨qL.isIn hk,ib,M⟩) (fun e h=>BJ (fun e h=>o_ h) h)]
end
end
section
section
variable {kd:Int}
theorem aoD (t:Tm): ∀ {V D:Int},rP true V D t=true->rP false V D t=true:=by
 induction t using gq with
 |h kd n A r B sys j q=>
  intro V D h
  have hk: ∀ {l:LT} {i:Nat},(∀x∈l,∀ {V D:Int},rP true V D x=true->rP false V D x=true)->bO true V D kd i l=true->bO false V D kd i l=true:=by
   intro l
   induction l<;>grind [bO]
  rw [rP,qC,qC,qC] at h ⊢
  refine ⟨rfl,h.2.1,hk j h.2.2.1, ?_⟩
  have:=h.2.2.2
  rw [wH,zf] at this ⊢
  intro b hb
  have:=this b hb
  rw [zf] at this ⊢
  exact fun x z=>q b hb x z (this x z)
theorem aqj (t:Tm): ∀ {V D:Int},rP false V D t=true->D+iP t<=24->rP true V D t=true:=by
 induction t using gq with
 |h kd n J r E sys z A=>
  intro V D h hb
  rw [iP] at hb
  have L:=mj kd E 0
  have hk: ∀ {l:LT} {i:Nat},(∀x∈l,∀ {V D:Int},rP false V D x=true->D+iP x<=24->rP true V D x=true)->bO false V D kd i l=true->D+dI kd i l<=24->bO true V D kd i l=true:=by
   intro l
   induction l with
   |nil=>intro i _ _ _;rw [bO]
   |cons t l q=>
    intro i h ha hb
    rw [bO,qC] at ha ⊢
    rw [dI] at hb
    exact ⟨h t (by simp) ha.1 (by omega),q (fun x B=>h x (by simp [B])) ha.2 (by omega)⟩
  have hs: ∀ {l:LB},(∀b∈l,∀x∈b.c,∀ {V D:Int},rP false V D x=true->D+iP x<=24->rP true V D x=true)->ck false V D kd l=true->D+cx l<=24->ck true V D kd l=true:=by
   intro l
   induction l with
   |nil=>intro _ _ _;rw [ck]
   |cons b l q=>
    intro h ha hb
    obtain ⟨f,j⟩:=b
    rw [ck,jT,qC] at ha ⊢
    rw [cx,h7] at hb
    have F: ∀ {l:LT},(∀x∈l,∀ {V D:Int},rP false V D x=true->D+iP x<=24->rP true V D x=true)->ca false V D kd l=true->D+cX l<=24->ca true V D kd l=true:=by
     intro l
     induction l with
     |nil=>intro _ _ _;rw [ca]
     |cons t l q=>
      intro h ha hb
      rw [ca,qC] at ha ⊢
      rw [cX] at hb
      have:=IB kd
      exact ⟨h t (by simp) ha.1 (by omega),q (fun x B=>h x (by simp [B])) ha.2 (by omega)⟩
    have I:D+max (cX j) (cx l)<=24:=hb
    exact ⟨F (l:=j) (h ⟨f,j⟩ (by simp)) ha.1 (by omega),q (fun b hb=>h b (by simp [hb])) ha.2 (by omega)⟩
  rw [rP,qC,qC,qC] at h ⊢
  exact ⟨by rw [decide_eq_false (by omega)];rfl,h.2.1,hk z h.2.2.1 (by omega),hs A h.2.2.2 (by omega)⟩
end
abbrev fz (V D:Int) (t:Tm):Prop:=rP false V D t=true
theorem q8 {vb db:Int} (j:0<=vb) (q:0<=db) {v d V D:Int} {t t':Tm} (hd:0<=d) (x:0<=V) (hf:Fm t) (h:fz V D t) (hl:uA vb db v d t= .ok t'):fz (V+vb) (D+db) t':=
 aof j q t hd x hf.ok hf.rows h (fun e=>by cases e) hl
theorem FA {V D a b:Int} {t t':Tm} (hf:Fm t) (ha:0<=a/\a<=1000000000) (hb:0<=b) (j:0<=V) (hs:fz V D t) (h:J6 a b t= .ok t'):fz (V+a) (D+b) t':=by
 obtain ⟨m,h1,h2⟩:=i8 h
 have fm:=jr (by omega) hf h1
 have s2:=q8 (BF 0) hb (BF 0) (by omega) fm (q8 ha.1 (by decide) (BF 0) j hf hs h1) h2
 rw [xm,xm] at s2;exact s2
theorem me {V D:Int} {r:LC} {t t':Tm} (hf:Fm t) (z:0<=D) (q:RF r) (hl:dg r D=true) (hs:fz V (D+1) t) (h:Ao 0 r t= .ok t'):fz V D t':=by
 unfold Ao at h
 obtain ⟨s,A,h⟩:=i8 h
 obtain ⟨x,rfl⟩:=rR A
 refine aoV (c:=D) (kQ x) ?_ t (BF 0) z (by omega) hf.ok hf.rows hs h
 exact aot (n:=0) q x (Rj ((L5 q).1 hl) fun j hj=>by
  have:Ix 0 1 j=j+1:=by unfold Ix;rw [if_neg (by omega)]
  rw [this];omega)
abbrev kW (n V D:Int) (u x:Tm):Prop:= ∀ {v d:Int} {o:Tm},0<=v->v+am x<=1000->0<=d->fz (V+v+1) (D+d) x->HZ n u v d x= .ok o->fz (V+v) (D+d) o
section
variable {n V D kd:Int} {u:Tm}
theorem ib {W v:Int} (h:0<=W):cQ W v=W+v:=by unfold cQ;rw [if_neg (by omega)]
theorem apZ (E:0<=V): ∀ {l l':LT} {i:Nat} {v d:Int},(∀x∈l,kW n V D u x)->0<=v->v+aH l+1<=1000->0<=d->bO false (V+v+1) (D+d) kd i l=true->dX n u v d kd i l= .ok l'->bO false (V+v) (D+d) kd i l'=true/\l'.length=l.length:=by
 intro l
 induction l with
 |nil=>intro l' i v d _ _ _ _ _ h;rw [dX] at h;injection h with h;subst h;exact ⟨by rw [bO],rfl⟩
 |cons t l j=>
  intro l' i v d h hv hb hd ha hl
  rw [dX] at hl
  obtain ⟨F,q,hl⟩:=i8 hl
  obtain ⟨m,z,hl⟩:=i8 hl
  injection hl with hl;subst hl
  rw [bO,qC] at ha ⊢
  rw [aH] at hb
  have I:=g7 kd i;have J:=gr kd i
  obtain ⟨A,q2⟩:=j (fun x B=>h x (by simp [B])) hv (by omega) hd ha.2 z
  refine ⟨⟨?_,A⟩,by rw [uL,uL,q2]⟩
  have:=ha.1
  rw [ib (by omega),show V+v+1+tZ kd i=V+(v+tZ kd i)+1 by omega,show D+d+bJ kd i=D+(d+bJ kd i) by omega] at this
  rw [ib (by omega),show V+v+tZ kd i=V+(v+tZ kd i) by omega,show D+d+bJ kd i=D+(d+bJ kd i) by omega]
  exact h t (by simp) (by omega) (by omega) (by omega) this q
theorem ap0: ∀ {l l':LT} {v d:Int},(∀x∈l,kW n V D u x)->0<=v->v+aH l+1<=1000->0<=d->ca false (V+v+1) (D+d) kd l=true->L7 n u v d kd l= .ok l'->ca false (V+v) (D+d) kd l'=true/\l'.length=l.length:=by
 intro l
 induction l with
 |nil=>intro l' v d _ _ _ _ _ h;rw [L7] at h;injection h with h;subst h;exact ⟨by rw [ca],rfl⟩
 |cons t l j=>
  intro l' v d h hv hb hd ha hl
  rw [L7] at hl
  obtain ⟨E,q,hl⟩:=i8 hl
  obtain ⟨m,z,hl⟩:=i8 hl
  injection hl with hl;subst hl
  rw [ca,qC] at ha ⊢
  rw [aH] at hb
  have F:=IB kd
  obtain ⟨A,q2⟩:=j (fun x B=>h x (by simp [B])) hv (by omega) hd ha.2 z
  refine ⟨⟨?_,A⟩,by rw [uL,uL,q2]⟩
  have:=ha.1
  rw [show D+d+av kd=D+(d+av kd) by omega] at this ⊢
  exact h t (by simp) hv (by omega) (by omega) this q
theorem ap1: ∀ {l l':LB} {v d:Int},(∀b∈l,∀x∈b.c,kW n V D u x)->0<=v->v+aO l+1<=1000->0<=d->ck false (V+v+1) (D+d) kd l=true->IE n u v d kd l= .ok l'->ck false (V+v) (D+d) kd l'=true/\l'.length=l.length/\l'.all (bX kd (D+d))=l.all (bX kd (D+d)):=by
 intro l
 induction l with
 |nil=>intro l' v d _ _ _ _ _ h;rw [IE] at h;injection h with h;subst h;exact ⟨by rw [ck],rfl,rfl⟩
 |cons b l A=>
  intro l' v d h hv hb hd ha hl
  rw [IE] at hl
  obtain ⟨M,j,hl⟩:=i8 hl
  obtain ⟨m,B,hl⟩:=i8 hl
  injection hl with hl;subst hl
  obtain ⟨f,q⟩:=b
  rw [AJ] at j
  obtain ⟨z,E,j⟩:=i8 j
  injection j with j;subst j
  rw [ck,jT,qC] at ha ⊢
  rw [aO,Fy] at hb
  obtain ⟨F,q2,I⟩:=A (fun b hb=>h b (by simp [hb])) hv (by omega) hd ha.2 B
  obtain ⟨J,L⟩:=ap0 (kd:=kd) (l:=q) (h ⟨f,q⟩ (by simp)) hv (by omega) hd ha.1 E
  refine ⟨⟨J,F⟩,by rw [uL,uL,q2], ?_⟩
  have:bX kd (D+d) ⟨f,z⟩=bX kd (D+d) ⟨f,q⟩:=by unfold bX;simp only [L]
  rw [EZ,EZ,this,I]
theorem aqu (hn:0<=n) (z:n<=V) (M:0<=D) (hf:Fm u) (hu:fz V D u) (t:Tm):kW n V D u t:=by
 induction t using gq with
 |h kd m O r T sys j q=>
  intro v d o hv hb hd ha h
  rw [HZ] at h
  rw [am] at hb
  split at h
  ·exact FA hf (by omega) hd (by omega) hu h
  ·rename_i hc
   obtain ⟨A,B,h⟩:=i8 h
   obtain ⟨x,E,h⟩:=i8 h
   injection h with h;subst h
   unfold fz at ha ⊢
   rw [rP] at ha ⊢
   simp only [Bool.false_and,ub,Bool.true_and,qC] at ha ⊢
   obtain ⟨q2,F,I⟩:=ha
   obtain ⟨k1,J⟩:=apZ (by omega) j hv (by omega) hd F B
   obtain ⟨s1,s2,L⟩:=ap1 q hv (by omega) hd I E
   refine ⟨?_,k1,s1⟩
   unfold cL at q2 ⊢
   simp only [qC,decide_eq_true_eq] at q2 ⊢
   rw [J,s2,L]
   obtain ⟨⟨a1,a2,a3,a4⟩,a5⟩:=q2
   refine ⟨⟨a1, ?_,a3,a4⟩, ?_⟩
   ·by_cases c:kd=1
    ·exact .inl c
    ·exact .inr (by rw [if_neg (fun h=>c h.1)];exact a2.resolve_left c)
   ·by_cases c1:kd=1
    ·rw [if_pos c1] at a5 ⊢
     simp only [qC,decide_eq_true_eq] at a5 ⊢
     have: ¬m=n+v:=fun e=>hc ⟨c1,e⟩
     refine ⟨a5.1, ?_,.inr ?_⟩
     ·split<;>omega
     ·split<;>omega
    ·rw [if_neg c1] at a5 ⊢;exact a5
end
theorem Z0 {V D:Int} (j:0<=V) (q:0<=D) {t u o:Tm} (x:Fm t) (hf:Fm u) (hu:fz V D u) (hs:fz (V+1) D t) (h:Jn 0 t u= .ok o):fz V D o:=by
 unfold Jn at h
 split at h
 ·cases h
 obtain ⟨z,h1,h⟩:=i8 h
 split at h
 ·cases h
 injection h with h;subst h
 have:=(Iz x.2).1
 have:=aqu (BF 0) j q hf hu t (BF 0) (by omega) (BF 0) (by rw [xm,xm];exact hs) h1
 rw [xm,xm] at this;exact this
variable {S:Type} {k:Nat}
theorem Ko {r:LC} {t y:Tm} (j:Fm t) (q:RF r) (hl:dg r 24=true) (h:Ao 0 r t= .ok y):Fm y:=by
 obtain ⟨x,q2,A⟩:=zv j h
 have ha:=(Iz j.2).2.2
 have hs:fz (-1) (24+1) t:=by
  show rP false (-1) (24+1) t=true
  rw [at8 t (d:=24+1) (d':=24) (by decide) (by decide)];exact ha
 have z:=me j (by decide) q hl hs h
 refine ⟨x, ?_⟩
 unfold bw
 rw [if_neg (by omega),if_neg (by omega),if_pos z]
theorem kC {D:Int} (h:0<=D):dg [⟨0,0⟩] D=true:=Nf (d:=0) Qz (by decide) h
theorem Sp {D:Int} (h:0<=D):dg [] D=true:=Nf (d:=0) rA (by decide) h
theorem aN8 {t y:Tm} (j:Fm t) (h:Ao 0 [] t= .ok y):Fm y:=Ko j rA (Sp (by decide)) h
theorem aN9 {t y:Tm} (j:Fm t) (h:Ao 0 [⟨0,0⟩] t= .ok y):Fm y:=Ko j Qz (kC (by decide)) h
def SC (c:Cl):Bool:= !(bP (ep c.pos c.neg) 0)
def MA (f:LC):LC×Int:=bp (f.filter SC)
theorem aGS (hk:Fu k) (I:LC->OS S) {l:LC} (hl:aq l) (hlen:l.length<2147483648):
  ∀ (r p:LC) (m:Nat) (o:LC),l=p++r->r.length<m->o.length+r.length<4294967296->N2 k I 0 l m (p.length:Int) o=I (o++r.filter SC):=by
 intro r
 induction r with
 |nil=>
  intro p m o h z ho
  obtain ⟨m,rfl,j⟩:=qI z
  simp only [N2,KK,zt h,n3,List.filter_nil,zr]
 |cons x r A=>
  intro p m o h z ho
  obtain ⟨m,rfl,j⟩:=qI z
  obtain ⟨E,F,J,B⟩:=sX h (by omega)
  have q:aX x:=hl x (by rw [h];simp)
  simp only [uL] at ho
  have L:DR (ep x.pos x.neg):=FX q.1 q.2
  simp only [N2,KK,E,ae,F,rf,ag hk,ay3,fP q.1 q.2,rF hk L,J]
  show ab (SC x) _ _=_
  cases hf:SC x with
  |true=>
   rw [ae,J5 (by simp;omega),A (p++[x]) m (o++[x]) B j (by rw [Is,List.length_singleton];omega),List.filter_cons_of_pos hf,List.append_assoc];rfl
  |false=>
   rw [n3,A (p++[x]) m o B j (by omega),List.filter_cons_of_neg (by rw [hf];decide)]
theorem aH7 (h:F3 k) {f:LC} (hf:aq f) (j:cV f=true) (hlen:f.length<2147483648) (I:LC×Int->OS S):cz k f 0 I=I (MA f):=by
 have q:4294968296<=k:=h
 have hk:=h.fu
 have ho:aq (f.filter SC):=fun c hc=>hf c (List.mem_filter.1 hc).1
 have hl:=List.length_filter_le SC f
 simp only [cz,ag hk,Hb hk hf hlen,j,xJ,n3,ai8 hk]
 rw [show (!(decide ((0:Int)<=0/\(0:Int)<24)))=false from by decide,n3]
 simp only [ay4,az7]
 rw [show ((0:Int))=((([]:LC).length:Nat):Int) from rfl]
 refine (aGS hk _ hf hlen f [] k [] rfl (by omega) (by simp;omega)).trans ?_
 rw [An,kX hk ho (by omega)]
 rfl
theorem aAD {f:LC} (h:RX true f):(MA f).2=0/\RX true (MA f).1/\(∀j:Nat->Prop,u9 j f->u9 j (MA f).1):=by
 have hs: ∀c∈f.filter SC,c∈f:=fun c hc=>(List.mem_filter.1 hc).1
 have q:(MA f).2=0:=LH (fun c hc=>h.1.rc (hs c hc)) (by have:=h.1.len;have:=List.length_filter_le SC f;omega)
 have ho:aq (f.filter SC):=fun c hc=>h.1.2 c (hs c hc)
 have:=LG ho (fun c hc=>h.2 rfl c (hs c hc)) q
 exact ⟨q,⟨this.1,fun _=>this.2⟩,fun j hl=>jy (azw hl hs)⟩
def Ic (c:Int) (f:LC):LC×Int:=
 if c=0 then ((tE (sI 0 [] (xW (MA f).1 zm zm))).1.r,(tE (sI 0 [] (xW (MA f).1 zm zm))).2) else ([],c)
theorem yt:Q2 zm:=by
 refine ⟨⟨?_, ?_, ?_⟩, ?_⟩
 ·rw [p9,aZ,ba];exact ⟨⟨by unfold aG;omega,by unfold aG;omega,by decide,(fun c hc=>by cases hc),by simp,by simp,by simp⟩,trivial,trivial⟩
 ·rw [au,ay,aI];omega
 ·rw [am,aH,aO];omega
 ·rw [am,aH,aO];omega
theorem aI_ {r:LC} (h:RX true r) (hk:F3 k):In k (xW r zm zm):=by
 have:=MP (G9 h) yt.1 yt.1 (by have:=yt.2;omega) (by have:=yt.2;omega)
 exact this.isIn hk (by omega)
theorem aIt (hk:F3 k) {f:LC} {c:Int} (h:RX true f) (I:LC×Int->OS S):ed k f c I=I (Ic c f):=by
 simp only [ed,ag hk.fu,dG,ar,rJ]
 unfold Ic
 by_cases hc:c=0
 case neg=>rw [dj hc,ub,ae,if_neg hc]
 subst hc
 obtain ⟨a0,a1,_⟩:=aAD h
 have hlen:=(G9 h).2
 have j:cV f=true:=BE.right ⟨h.1,h.2 rfl⟩
 rw [show (!((0:Int)==0))=false from rfl,n3,aH7 hk h.1.2 j (by omega)]
 rw [a0]
 simp only [if_pos]
 rw [show (!((0:Int)==0))=false from rfl,n3]
 simp only [zc,tK]
 have e:Tm.mk 14 0 qw (MA f).1 [Tm.mk 3 0 qw [] [] [],Tm.mk 3 0 qw [] [] []] []=xW (MA f).1 zm zm:=rfl
 rw [e,ap8 hk (aI_ a1 hk) (i:=0) (by decide) rA]
 cases sI 0 [] (xW (MA f).1 zm zm) with
 |error e=>
  show I (pX.r,_)=I (pX.r,e)
  by_cases he:e=0
  ·subst he;rfl
  ·rw [show (tE (.error e)).2=e from rfl,if_neg he]
 |ok y=>rfl
def ue {α β:Type} (F:Int->β->α×Int):Int->List β->List α×Int
 |c,[]=>([],c)
 |c,x::r=>((F c x).1::(ue F (F c x).2 r).1,(ue F (F c x).2 r).2)
theorem R6 {α β:Type} {F:Int->β->α×Int}: ∀ {l:List β} {c:Int},(ue F c l).1.length=l.length:=by
 intro l
 induction l with
 |nil=>intro c;rfl
 |cons x l h=>intro c;rw [ue,uL,uL,h]
theorem TW {α β:Type} {F:Int->β->α×Int} {Q:α->Prop}: ∀ {l:List β} {c:Int},(∀x∈l,∀c,Q (F c x).1)-> ∀y∈(ue F c l).1,Q y:=by
 intro l
 induction l with
 |nil=>intro c _ y hy;cases hy
 |cons x l j=>
  intro c h y hy
  rw [ue] at hy
  rcases BB.1 hy with rfl|hy
  ·exact h x (by simp) c
  ·exact j (fun x q=>h x (by simp [q])) y hy
theorem To {α β:Type} {F:Int->β->α×Int} (j: ∀c x,(F c x).2=0->c=0): ∀ {l:List β} {c:Int},(ue F c l).2=0->c=0/\ ∀x∈l,(F 0 x).2=0/\(F 0 x).1∈(ue F c l).1:=by
 intro l
 induction l with
 |nil=>intro c h;exact ⟨h,fun x q=>by cases q⟩
 |cons x l z=>
  intro c h
  rw [ue] at h ⊢
  obtain ⟨h1,h2⟩:=z h
  have hc:=j c x h1
  subst hc
  refine ⟨rfl,fun y hy=> ?_⟩
  rcases BB.1 hy with rfl|hy
  ·exact ⟨h1,by simp⟩
  ·exact ⟨(h2 y hy).1,List.mem_cons_of_mem _ (h2 y hy).2⟩
theorem sx {α β:Type} {F:Int->β->α×Int} (j: ∀c x,(F c x).2=0->c=0): ∀ {l:List β} {c:Int},(ue F c l).2=0->(ue F c l).1=l.map fun x=>(F 0 x).1:=by
 intro l
 induction l with
 |nil=>intro c h;rfl
 |cons x l q=>
  intro c h
  rw [ue] at h ⊢
  have h1:=(To j h).1
  have hc:=j c x h1
  subst hc
  rw [HW,q h]
theorem hL {α β:Type} {l:List β} {L:Nat->Int->Int->List α->OS S} {F:Int->β->α×Int} {I:List α×Int->OS S}
  (q: ∀ (m:Nat) (c:Int) (acc:List α),acc.length=l.length->L (m+1) c (l.length:Int) acc=I (acc,c))
  (j: ∀ (m:Nat) (c:Int) (x:β) (p r:List β) (acc:List α),l=p++x::r->acc.length=p.length->L (m+1) c (p.length:Int) acc=L m (F c x).2 (((p++[x]).length:Nat):Int) (acc++[(F c x).1])):
  ∀ (r p:List β) (acc:List α) (m:Nat) (c:Int),l=p++r->r.length<m->acc.length=p.length->L m c (p.length:Int) acc=I (acc++(ue F c r).1,(ue F c r).2):=by
 intro r
 induction r with
 |nil=>
  intro p acc m c h A ha
  obtain ⟨m,rfl,z⟩:=qI A
  rw [zr] at h
  subst h
  rw [q m c acc ha,ue,zr]
 |cons x r B=>
  intro p acc m c h A ha
  obtain ⟨m,rfl,z⟩:=qI A
  rw [j m c x p r acc h ha,B (p++[x]) _ m _ (by rw [h];simp) z (by simp [ha]),ue,List.append_assoc];rfl
def B1:Int->LB->LB×Int
 |c,[]=>([],c)
 |c,x::r=>if (Ic c x.f).1.length=0 then B1 (Ic c x.f).2 r else (⟨(Ic c x.f).1,x.c⟩::(B1 (Ic c x.f).2 r).1,(B1 (Ic c x.f).2 r).2)
theorem aAE {c:Int} {f:LC} (h:RX true f):aq (Ic c f).1/\(Ic c f).1.length<1073741824:=by
 have j:aq ([]:LC)/\([]:LC).length<1073741824:=⟨fun c hc=>(by cases hc),by simp⟩
 unfold Ic
 split
 ·have hk:p9 (xW (MA f).1 zm zm):=(MP (G9 (aAD h).2.1) yt.1 yt.1 (by have:=yt.2;omega) (by have:=yt.2;omega)).ok
  cases q:sI 0 [] (xW (MA f).1 zm zm) with
  |error e=>exact j
  |ok y=>
   have:=(Sx hk q).1.ok.no
   exact ⟨this.2.2.2.1,this.2.2.2.2.1⟩
 ·exact j
theorem aIT: ∀ {l:LB} {c:Int},(B1 c l).1.length<=l.length:=by
 intro l
 induction l with
 |nil=>intro c;exact zk _
 |cons x l h=>
  intro c
  rw [B1]
  split
  ·have:=h (c:=(Ic c x.f).2);simp;omega
  ·have:=h (c:=(Ic c x.f).2);simp;omega
def K5 (b:Br Tm):Prop:=b.c=[AK b,k1 b]/\Fm (AK b)/\Fm (k1 b)/\aq b.f/\b.f.length<1073741824
theorem aIU: ∀ {l:LB} {c:Int},(∀b∈l,b.c=[AK b,k1 b]/\Fm (AK b)/\Fm (k1 b)/\RX true b.f)-> ∀b∈(B1 c l).1,K5 b:=by
 intro l
 induction l with
 |nil=>intro c _ b hb;cases hb
 |cons x l j=>
  intro c h b hb
  rw [B1] at hb
  obtain ⟨q,q2,z,A⟩:=h x (by simp)
  split at hb
  ·exact j (fun b hb=>h b (by simp [hb])) b hb
  ·rcases BB.1 hb with rfl|hb
   ·have:=aAE (c:=c) A
    exact ⟨q,q2,z,this.1,this.2⟩
   ·exact j (fun b hb=>h b (by simp [hb])) b hb
def Ab (pz:LC) (F:Int->Tm×Int) (c:Int):LB×Int:=
 if pz.length=0 then ([],c) else ([⟨pz,[(F c).1]⟩],(F c).2)
theorem aJa: ∀ {l:LB},(∀b∈l,b.c=[AK b,k1 b])->2*l.length<=aI l:=by
 intro l
 induction l with
 |nil=>simp
 |cons x l j=>
  intro h
  have h1:=j fun b hb=>h b (by simp [hb])
  have h2:=h x (by simp)
  obtain ⟨f,q⟩:=x
  grind [aI,Ho,ay,mB]
theorem m' {g:Tm} (j:Fm g) (q:g.k=16):g.s.length<=10000:=by
 have h:=aJa fun b hb=>((j.gl q).1 b hb).1
 have:=j.eO
 cases g<;>grind [au,Tm.s]
def GN (x:Tm):Prop:=Fm x/\x.k=16\/x=pX
theorem GN.es (hk:F3 k) {x:Tm} (h:GN x) (I:LB->OS S):T4 k x I=I (eh x):=by
 have j:4294968296<=k:=hk
 simp only [T4,ag hk.fu,zl,fL]
 rcases h with ⟨h1,h2⟩|rfl
 ·obtain ⟨q,hl,_⟩:=h1.gl h2
  exact azu hk I (fun b hb=>(q b hb).1) hl x.s [] [] k rfl (by omega) (by grind)
 ·exact azu (l:=[]) hk I (fun b hb=>by cases hb) (by simp) [] [] [] k rfl (by grind) (by simp)
theorem GN.un {x a:Tm} (h:GN x) (ha:Fm a):Sm 40002 (zg a (eh x))/\am (zg a (eh x))<=201:=by
 have:=ha.dep;have:=ha.eO
 rcases h with ⟨h1,h2⟩|rfl
 ·obtain ⟨j,q,A,B,_,_⟩:=o4 h1 h2
  have d:=h1.dep;have z:=h1.eO
  have E:aO x.s+1<=am x:=by cases x<;>grind [am,Tm.s]
  have F:aI x.s+1<=au x:=by cases x<;>grind [au,Tm.s]
  have I:=m' h1 h2
  have d1:am (zg a (eh x))<=201:=by grind [am,aH]
  refine ⟨⟨?_, ?_,by omega⟩,d1⟩
  ·rw [p9,aZ,aZ];exact ⟨⟨by unfold aG;omega,by unfold aG;omega,by decide,(fun c hc=>by cases hc),by simp,by simp,by omega⟩,⟨ha.ok,trivial⟩,j⟩
  grind [au,ay]
 ·have d1:am (zg a (eh pX))<=201:=by rw [am,aH,aH];show max _ (aO [])+1<=_;rw [aO];omega
  refine ⟨⟨?_, ?_,by omega⟩,d1⟩
  ·rw [p9,aZ,aZ];refine ⟨⟨by unfold aG;omega,by unfold aG;omega,by decide,(fun c hc=>by cases hc),by simp,by simp,by simp [eh,pX,Tm.s]⟩,⟨ha.ok,trivial⟩, ?_⟩
   show ba [];rw [ba];trivial
  ·rw [au,ay,ay];show _+aI []<=_;rw [aI];omega
theorem k6 {c:Int} {r:LC} {g:Tm} (h:Fm g) (j:g.k=16) (q:RF r) (hl:dg r 24=true):GN (mM c (sI 0 r g)).1:=by
 unfold mM
 split
 ·cases x:sI 0 r g with
  |error e=>exact .inr rfl
  |ok y=>
   obtain ⟨h1,h2⟩:=Nl h.ok x
   exact .inl ⟨Ko h q hl h2,(TZ h2).trans j⟩
 ·exact .inr rfl
def RU (pz:LC) (a:Tm) (c:Int) (b:Br Tm):Br Tm×Int:=
 (⟨b.f,[dS 6 [dS 9 [k1 b],(mM c (Fs (AK b) pz a ⟨0,1⟩ [⟨3,0⟩])).1]]⟩,(mM c (Fs (AK b) pz a ⟨0,1⟩ [⟨3,0⟩])).2)
def Mj (g:Tm):Tm:=g.c.headD pX
structure BegR where
 st:LB
 a1:Tm
 c:Int
def SH (pz:LC) (a a0:Tm) (st:LB) (c:Int):LB×Int:=
 ((Ab pz (fun c=>mM c (wA 0 1 a0)) c).1++(ue (RU pz a) (Ab pz (fun c=>mM c (wA 0 1 a0)) c).2 st).1,(ue (RU pz a) (Ab pz (fun c=>mM c (wA 0 1 a0)) c).2 st).2)
def LV (g:Tm) (pz:LC) (a a0:Tm) (st:LB) (c:Int):Tm×Int:=
 mM (SH pz a a0 st c).2 (c6 [Mj g,a0,J4 (SH pz a a0 st c).1] (dF (Mj g) a0 (SH pz a a0 st c).1))
def Mq (g:Tm) (pz:LC) (a:Tm):BegR:=
 let T:=mM 0 (sI 0 [] g)
 let st:=B1 T.2 g.s
 let C:=LV g pz a (zg a (eh T.1)) st.1 st.2
 ⟨st.1,C.1,C.2⟩
section
variable {pz:LC} {x1 x2:Int} {x3:BA} {x4:LC} {x5:LT} {x6 st0:LB} {y1 y2:Int} {y3:BA} {y4:LC} {y5:LT} {y6:LB} {z1 z2:Int} {z3:BA} {z4:LC} {z5:LT} {z6:LB}
theorem aIz (hk:F3 k) (fa:Fm (Tm.mk x1 x2 x3 x4 x5 x6)) (hp:RX true pz) {st:LB} (hs: ∀b∈st,K5 b) (hl:st.length<=10000) (c:Int) (I:LB×Int->OS S):
  fg k st c pz x1 x2 x3 x4 x5 x6 st0 y1 y2 y3 y4 y5 y6 z1 z2 z3 z4 z5 z6 I=I (ue (RU pz (Tm.mk x1 x2 x3 x4 x5 x6)) c st):=by
 have j:4294968296<=k:=hk
 simp only [fg,o5]
 have:=hL (S:=S) (l:=st) (L:=fun m c i acc=>ll k I pz y2 y3 y4 y5 y6 z1 z2 z3 z4 z5 x1 z6 x2 x3 x4 x5 x6 st0 y1 st m c i acc) (F:=RU pz (Tm.mk x1 x2 x3 x4 x5 x6)) (I:=I)
  (fun m c acc ha=>by
   grind [ll,fB,n3])
  (fun m c x p r acc h ha=>by
   obtain ⟨q,z,A,_⟩:=sX h (by omega)
   have hlen:p.length<st.length:=by grind
   obtain ⟨B,q2,E,J⟩:=hs x (by grind)
   have g0:af x.c 0=some (AK x):=ED (n:=0) rfl (by grind)
   have g1:af x.c 1=some (k1 x):=ED (n:=1) rfl (by grind)
   simp only [ll,fB,q,ae,z,rf,ag hk.fu,ay7,g0,g1,ar,SG,zc,xF,A]
   rw [aDh hk (q2.isIn hk) (fa.isIn hk) (G9 hp),J5 (by grind)]
   rfl)
  st [] [] k c rfl (by omega) rfl
 grind
theorem aIJ (hk:F3 k) {st:LB} {a0:Tm} (ha:In k a0) (c:Int) (I:LB×Int->OS S):
  fr k c pz x1 x2 x3 x4 x5 x6 st y1 y2 y3 y4 y5 y6 z1 z2 z3 z4 z5 z6 a0 I=I (Ab pz (fun c=>mM c (wA 0 1 a0)) c):=by
 simp only [fr,ag hk.fu,ar,x0,xF]
 rw [IG hk (fun _=>ha) (by omega) (by omega)]
 unfold Ab
 by_cases h:pz.length=0<;>simp_all [ae,beq_false_of_ne,n3]
theorem gw {F:Int->Tm×Int} (hp:RX true pz) {n:Nat} (h: ∀c,Sm n (F c).1/\am (F c).1<=290) (c:Int):cv n (Ab pz F c).1/\(Ab pz F c).1.length<=1:=by
 grind [Ab,Na,Qs,G9]
theorem aHQ (hk:F3 k) {a:Tm} (fa:Fm a) (hp:RX true pz) {st:LB} (hs: ∀b∈st,K5 b) (c:Int):cv 400000 (ue (RU pz a) c st).1:=by
 intro y z
 refine TW (Q:=fun y=> ∃t,y.c=[t]/\Sm 400000 t/\am t<=299/\aq y.f/\y.f.length<1073741824) (F:=RU pz a) (l:=st) (c:=c) (fun x j c=> ?_) y z
 obtain ⟨J,q2,A,B,E⟩:=hs x j
 have a9:=S4 (kd:=9) (by omega) (.inl A)
 have q:Q2 (mM c (Fs (AK x) pz a ⟨0,1⟩ [⟨3,0⟩])).1:=LX fun t h=>ayY hk q2.ok fa.ok hp.1 sL QD h
 have I:=Qt (kd:=6) (by omega) (n:=80001) (ks:=[dS 9 [k1 x],(mM c (Fs (AK x) pz a ⟨0,1⟩ [⟨3,0⟩])).1]) (fun x j=>by
  simp at j
  rcases j with rfl|rfl
  ·grind
  ·exact ⟨q.1.mono (by omega),by have:=q.2;omega⟩) (by simp)
 exact ⟨_,rfl,I.1.mono (by omega),by omega,B,E⟩
theorem qE (hk:F3 k) {a a0:Tm} (fa:Fm a) (j:p9 a0) (hp:RX true pz) {st:LB} (hs: ∀b∈st,K5 b) (hl:st.length<=10000) (c:Int):In k (J4 (SH pz a a0 st c).1):=by
 have q: ∀c,FN (mM c (wA 0 1 a0)).1:=fun c=>EJ fun t h=>mD (by omega) (Mp j h).1 (Mp j h).2
 obtain ⟨x,B⟩:=gw (F:=fun c=>mM c (wA 0 1 a0)) hp (n:=400000) (fun c=>⟨(q c).sm.1.mono (by omega),by have:=(q c).sm.2;omega⟩) c
 have hb:cv 400000 (SH pz a a0 st c).1:=Ux x (aHQ hk fa hp hs _)
 obtain ⟨z,A⟩:=nj hb
 refine Jb hk (by omega) z ?_ A
 grind [SH,R6]
theorem aH2 (hk:F3 k) {g a0:Tm} (A:Fm g) (B:g.k=16) (fa:Fm (Tm.mk x1 x2 x3 x4 x5 x6)) (j:In k a0) (hp:RX true pz) {st:LB} (hs: ∀b∈st,K5 b) (hl:st.length<=10000) (c:Int) (I:Int×LB×Int×Int×BA×LC×LT×LB->OS S):
  (fr k c pz x1 x2 x3 x4 x5 x6 st y1 y2 y3 y4 y5 y6 z1 z2 z3 z4 z5 z6 a0 fun r8=>fg k st r8.2 pz x1 x2 x3 x4 x5 x6 st y1 y2 y3 y4 y5 y6 z1 z2 z3 z4 z5 z6 fun r9=>pA (aw 1099511627776 r8.1.length r9.1.length) fun E=>pA (af g.c 0) fun x=>y9 k x a0 (r8.1++r9.1) r9.2 fun Dd=>I (Dd.2,st,Dd.1.k,Dd.1.n,Dd.1.name,Dd.1.r,Dd.1.c,Dd.1.s))=
   I ((LV g pz (Tm.mk x1 x2 x3 x4 x5 x6) a0 st c).2,st,(LV g pz (Tm.mk x1 x2 x3 x4 x5 x6) a0 st c).1.k,(LV g pz (Tm.mk x1 x2 x3 x4 x5 x6) a0 st c).1.n,(LV g pz (Tm.mk x1 x2 x3 x4 x5 x6) a0 st c).1.name,(LV g pz (Tm.mk x1 x2 x3 x4 x5 x6) a0 st c).1.r,(LV g pz (Tm.mk x1 x2 x3 x4 x5 x6) a0 st c).1.c,(LV g pz (Tm.mk x1 x2 x3 x4 x5 x6) a0 st c).1.s):=by
 obtain ⟨_,_,b,hb,fb⟩:=A.gl B
 have J:af g.c 0=some b:=ED (n:=0) rfl (by grind)
 have hd:Mj g=b:=by grind [Mj]
 have L:=(gw (F:=fun c=>mM c (wA 0 1 a0)) hp (n:=20000) (fun c=>by
  have z:FN (mM c (wA 0 1 a0)).1:=EJ fun t h=>mD (by omega) (Mp j.1 h).1 (Mp j.1 h).2
  exact ⟨z.sm.1,by have:=z.sm.2;omega⟩) c).2
 rw [aIJ hk j,aIz hk fa hp hs hl,J5 (by rw [R6];omega),J,rf]
 have q:=qE hk fa j.1 hp hs hl c
 unfold SH at q
 rw [Rx hk (fun _=>⟨fb.isIn hk,j,q⟩) (fun e h=>BJ (fun e h=>o_ h) h)]
 grind [LV,SH]
theorem aGJ (hk:F3 k) {g a0:Tm} (A:Fm g) (B:g.k=16) (fa:Fm (Tm.mk x1 x2 x3 x4 x5 x6)) {es:LB} (E:Tm.mk 18 0 qw [] [Tm.mk x1 x2 x3 x4 x5 x6] es=a0) (Y:In k a0) (hp:RX true pz) (I:Int×LB×Int×Int×BA×LC×LT×LB->OS S):
  ∀ (r p st:LB) (m:Nat) (c:Int),g.s=p++r->r.length<m->(∀b∈st,K5 b)->st.length+r.length<=10000->
   jw k I pz y2 y3 y4 y5 y6 z1 z2 z3 z4 z5 x1 z6 x2 x3 x4 x5 x6 y1 g (18,0,qw,[Tm.mk x1 x2 x3 x4 x5 x6],es) m c st (p.length:Int)=
    (fun C:Tm×Int=>I (C.2,st++(B1 c r).1,C.1.k,C.1.n,C.1.name,C.1.r,C.1.c,C.1.s)) (LV g pz (Tm.mk x1 x2 x3 x4 x5 x6) a0 (st++(B1 c r).1) (B1 c r).2):=by
 obtain ⟨F,hl,_⟩:=A.gl B
 intro r
 induction r with
 |nil=>
  intro p st m c h j hs ha
  obtain ⟨m,rfl,q⟩:=qI j
  simp only [jw,ys,zt h,n3,ag hk.fu,ar,B1,zr,E]
  simp_all [aH2]
 |cons x r ih=>
  intro p st m c h j hs ha
  obtain ⟨m,rfl,q⟩:=qI j
  obtain ⟨J,L,M,e4⟩:=sX h (by omega)
  rw [uL] at ha
  obtain ⟨O,q2,T,z⟩:=F x (by grind)
  simp only [jw,ys,J,ae,L,rf,ag hk.fu,M,xF]
  rw [aIt hk z,B1]
  by_cases W:(Ic c x.f).1.length=0
  ·grind [decide_eq_false,n3]
  ·rw [if_neg W,decide_eq_true (by omega),ae,J5 (by grind)]
   have:=aAE (c:=c) z
   have hb:K5 ⟨(Ic c x.f).1,x.c⟩:=⟨O,q2,T,this.1,this.2⟩
   grind
theorem aH1 (hk:F3 k) {g:Tm} (h:Fm g) (j:g.k=16) (fa:Fm (Tm.mk x1 x2 x3 x4 x5 x6)) (hp:RX true pz) (I:Int×LB×Int×Int×BA×LC×LT×LB->OS S):
  sq k g 0 pz x1 x2 x3 x4 x5 x6 y1 y2 y3 y4 y5 y6 z1 z2 z3 z4 z5 z6 I=(fun B:BegR=>I (B.c,B.st,B.a1.k,B.a1.n,B.a1.name,B.a1.r,B.a1.c,B.a1.s)) (Mq g pz (Tm.mk x1 x2 x3 x4 x5 x6)):=by
 have x:4294968296<=k:=hk
 simp only [sq,az_,ag hk.fu,ar]
 rw [fi hk (fun _=>h.isIn hk) y']
 have q:GN (mM 0 (sI 0 [] g)).1:=k6 h j rA (Sp (by decide))
 rw [q.es hk]
 simp only [SF,ag hk.fu,JM,ar]
 have hu:=q.un fa
 have z:=hu.1.isIn hk (by omega)
 have hlen:=m' h j
 refine (aGJ hk h j fa rfl z hp I g.s [] [] k _ rfl (by omega) (fun b hb=>by cases hb) (by grind)).trans ?_
 rfl
end
def hi (w z:Tm):Tm:=dS 8 [w,dS 12 [z]]
def b' (u w z:Tm):Tm:=pap [⟨1,0⟩] (dS 6 [dS 10 [u],hi w z]) (dS 9 [u]) (hi w z)
def IC (a1 cen x:Tm) (c:Int):Tm×Int:=
 let u:=mM c (wA 0 1 cen)
 let w:=mM u.2 (wA 0 1 x)
 let z:=mM w.2 (wA 0 2 a1)
 (b' u.1 w.1 z.1,z.2)
def I0 (e a1:Tm):Tm:=dS 6 [dS 10 [e],a1]
def RP (pz:LC) (a a1 cen:Tm) (c:Int) (b:Br Tm):Br Tm×Int:=
 (⟨b.f,[(IC a1 cen (xW pz (AK b) a) c).1]⟩,(IC a1 cen (xW pz (AK b) a) c).2)
def l5 (pz:LC) (a a1 cen:Tm) (st:LB) (c:Int):LB×Int:=
 ((Ab pz (IC a1 cen a) c).1++(ue (RP pz a a1 cen) (Ab pz (IC a1 cen a) c).2 st).1,(ue (RP pz a a1 cen) (Ab pz (IC a1 cen a) c).2 st).2)
def Tx (pz:LC) (a a1 t1:Tm) (st:LB) (t e:Tm) (c:Int):Tm×Int:=
 let f:=mM c (c6 [t,t1,dS 9 [e],a1] (ID t t1 (dS 9 [e]) a1))
 let s:=l5 pz a a1 (I0 e a1) st f.2
 (.mk 15 0 qw [] [f.1,dS 9 [I0 e a1]] s.1,s.2)
theorem Mr {kd:Int} (h:0<=kd/\kd<=28) {n m d:Nat} {x y:Tm} (j:Sm n x/\am x<=d) (q:Sm m y/\am y<=d) (hd:d<=290):Sm (n+m+1) (dS kd [x,y])/\am (dS kd [x,y])<=d+1:=by
 unfold dS
 refine ⟨(Hn (kd:=kd) h (r:=[]) ⟨(fun c hc=>by cases hc),by simp⟩ (ks:=[x,y]) (sys:=[]) (n:=n+m) (m:=0) (fun z A=>by
  simp at A
  rcases A with rfl|rfl
  ·exact ⟨j.1.ok,by omega⟩
  ·exact ⟨q.1.ok,by omega⟩) (by simp) (by rw [ay,ay,ay];have:=j.1.eO;have:=q.1.eO;omega) (by rw [ba];trivial) (by simp) (by rw [aO];omega) (by rw [aI];omega)).mono (by omega), ?_⟩
 grind [am,aH,aO]
theorem MO {kd:Int} (h:0<=kd/\kd<=28) {n d:Nat} {x:Tm} (j:Sm n x/\am x<=d) (hd:d<=290):Sm (n+1) (dS kd [x])/\am (dS kd [x])<=d+1:=by
 unfold dS
 refine ⟨(Hn (kd:=kd) h (r:=[]) ⟨(fun c hc=>by cases hc),by simp⟩ (ks:=[x]) (sys:=[]) (n:=n) (m:=0) (fun z q=>by
  simp at q;subst q
  exact ⟨j.1.ok,by omega⟩) (by simp) (by rw [ay,ay];have:=j.1.eO;omega) (by rw [ba];trivial) (by simp) (by rw [aO];omega) (by rw [aI];omega)).mono (by omega), ?_⟩
 grind [am,aH,aO]
theorem ht {r:LC} (E:aq r/\r.length<1073741824) {n m j d:Nat} {x y z:Tm} (h:Sm n x/\am x<=d) (q:Sm m y/\am y<=d) (A:Sm j z/\am z<=d) (hd:d<=290):Sm (n+m+j+1) (pap r x y z)/\am (pap r x y z)<=d+1:=by
 refine ⟨(Hn (kd:=13) (by omega) E (ks:=[x,y,z]) (sys:=[]) (n:=n+m+j) (m:=0) (fun w B=>by
  simp at B
  rcases B with rfl|rfl|rfl
  ·exact ⟨h.1.ok,by omega⟩
  ·exact ⟨q.1.ok,by omega⟩
  ·exact ⟨A.1.ok,by omega⟩) (by simp) (by rw [ay,ay,ay,ay];have:=h.1.eO;have:=q.1.eO;have:=A.1.eO;omega) (by rw [ba];trivial) (by simp) (by rw [aO];omega) (by rw [aI];omega)).mono (by omega), ?_⟩
 grind [am,aH,aO]
theorem Ft {c a b:Int} (ha:0<=a/\a<=1000) (hb:0<=b/\b<=1000) {t:Tm} (j:p9 t):FN (mM c (wA a b t)).1:=EJ fun t h=>mD (by omega) (Mp j h).1 (Mp j h).2
theorem aHd {u w z:Tm} (hu:FN u) (q:FN w) (A:FN z):Sm 200000 (b' u w z)/\am (b' u w z)<=210:=by
 have h:=MO (kd:=12) (by omega) A.sm (by omega)
 have x:=Mr (kd:=8) (by omega) (d:=201) ⟨q.sm.1,by have:=q.sm.2;omega⟩ h (by omega)
 have j:=MO (kd:=10) (by omega) hu.sm (by omega)
 have B:=MO (kd:=9) (by omega) hu.sm (by omega)
 have E:=Mr (kd:=6) (by omega) (d:=202) ⟨j.1,by omega⟩ ⟨x.1,by omega⟩ (by omega)
 have:=ht (Q5 (a:=1) (b:=0) (by omega) (by omega)) (d:=203) ⟨E.1,by omega⟩ ⟨B.1,by omega⟩ ⟨x.1,by omega⟩ (by omega)
 exact ⟨this.1.mono (by omega),by grind [b',hi]⟩
theorem aCB {a1 cen x:Tm} {c:Int} (h1:p9 a1) (h2:p9 cen) (h:p9 x):Sm 200000 (IC a1 cen x c).1/\am (IC a1 cen x c).1<=210:=
 aHd (Ft (by omega) (by omega) h2) (Ft (by omega) (by omega) h) (Ft (by omega) (by omega) h1)
theorem Fq {e a1:Tm} (he:FN e) (h1:FN a1):Sm 40002 (I0 e a1)/\am (I0 e a1)<=202:=by
 have h:=MO (kd:=10) (by omega) he.sm (by omega)
 have:=Mr (kd:=6) (by omega) (d:=201) ⟨h.1,by omega⟩ ⟨h1.sm.1,by have:=h1.sm.2;omega⟩ (by omega)
 grind [I0]
section
variable {pz:LC} {x1 x2:Int} {x3:BA} {x4:LC} {x5:LT} {x6 st0:LB} {y1 y2:Int} {y3:BA} {y4:LC} {y5:LT} {y6:LB} {z1 z2:Int} {z3:BA} {z4:LC} {z5:LT} {z6:LB}
theorem aDc (hk:F3 k) {x cen:Tm} (i1:In k (Tm.mk y1 y2 y3 y4 y5 y6)) (i2:In k cen) (i3:In k x) (c:Int) (I:Int×Int×BA×LC×LT×Int->OS S):
  ∃ks,kT k x cen c pz x1 x2 x3 x4 x5 x6 st0 y1 y2 y3 y4 y5 y6 z1 z2 z3 z4 z5 z6 I=I (13,0,qw,[⟨1,0⟩],ks,(IC (Tm.mk y1 y2 y3 y4 y5 y6) cen x c).2)/\Tm.mk 13 0 qw [⟨1,0⟩] ks []=(IC (Tm.mk y1 y2 y3 y4 y5 y6) cen x c).1:=by
 refine ⟨_, ?_,rfl⟩
 simp only [kT,ag hk.fu,ar,zc,tO]
 rw [IG hk (fun _=>i2) (by omega) (by omega),IG hk (fun _=>i3) (by omega) (by omega),IG hk (fun _=>i1) (by omega) (by omega)]
 rfl
theorem aIK (hk:F3 k) {cen:Tm} (i1:In k (Tm.mk y1 y2 y3 y4 y5 y6)) (i2:In k cen) (i3:In k (Tm.mk x1 x2 x3 x4 x5 x6)) (c:Int) (I:LB×Int->OS S):
  r7 k c pz x1 x2 x3 x4 x5 x6 st0 y1 y2 y3 y4 y5 y6 z1 z2 z3 z4 z5 z6 cen I=I (Ab pz (IC (Tm.mk y1 y2 y3 y4 y5 y6) cen (Tm.mk x1 x2 x3 x4 x5 x6)) c):=by
 simp only [r7,ag hk.fu,ar,xf,xF]
 obtain ⟨j,h1,h2⟩:=aDc (pz:=pz) (x1:=x1) (x2:=x2) (x3:=x3) (x4:=x4) (x5:=x5) (x6:=x6) (st0:=st0) (z1:=z1) (z2:=z2) (z3:=z3) (z4:=z4) (z5:=z5) (z6:=z6) hk i1 i2 i3 c (fun r1=>I ([⟨pz,[Tm.mk r1.1 r1.2.1 r1.2.2.1 r1.2.2.2.1 r1.2.2.2.2.1 []]⟩],r1.2.2.2.2.2))
 rw [h1]
 dsimp only
 rw [h2]
 unfold Ab
 by_cases h:pz.length=0<;>simp_all [ae,beq_false_of_ne,n3]
theorem aIc (hk:F3 k) {cen:Tm} (i1:In k (Tm.mk y1 y2 y3 y4 y5 y6)) (i2:In k cen) (fa:Fm (Tm.mk x1 x2 x3 x4 x5 x6)) (hp:RX true pz) {st:LB} (hs: ∀b∈st,K5 b) (hl:st.length<=10000) (c:Int) (I:LB×Int->OS S):
  xM k st cen c pz x1 x2 x3 x4 x5 x6 st0 y1 y2 y3 y4 y5 y6 z1 z2 z3 z4 z5 z6 I=I (ue (RP pz (Tm.mk x1 x2 x3 x4 x5 x6) (Tm.mk y1 y2 y3 y4 y5 y6) cen) c st):=by
 have z:4294968296<=k:=hk
 simp only [xM,l']
 have:=hL (S:=S) (l:=st) (L:=fun m c i acc=>TK k I cen pz y2 y3 y4 y5 y6 z1 z2 z3 z4 z5 x1 z6 x2 x3 x4 x5 x6 st0 y1 st m c i acc) (F:=RP pz (Tm.mk x1 x2 x3 x4 x5 x6) (Tm.mk y1 y2 y3 y4 y5 y6) cen) (I:=I)
  (fun m c acc ha=>by
   grind [TK,R',n3])
  (fun m c x p r acc h ha=>by
   obtain ⟨A,B,E,_⟩:=sX h (by omega)
   have hlen:p.length<st.length:=by grind
   obtain ⟨M,q2,O,T⟩:=hs x (by grind)
   have g0:af x.c 0=some (AK x):=ED (n:=0) rfl (by grind)
   have q:=(MP (G9 hp) q2.sm fa.sm (by have:=q2.dep;omega) (by have:=fa.dep;omega)).isIn hk (by omega)
   simp only [TK,R',A,ae,B,rf,ag hk.fu,ay8,g0,ar,tO,xF,E]
   obtain ⟨W,h1,h2⟩:=aDc (pz:=pz) (x1:=x1) (x2:=x2) (x3:=x3) (x4:=x4) (x5:=x5) (x6:=x6) (st0:=st0) (z1:=z1) (z2:=z2) (z3:=z3) (z4:=z4) (z5:=z5) (z6:=z6) hk i1 i2 q c (fun j=>pA (aw 1099511627776 acc.length [(⟨x.f,[Tm.mk j.1 j.2.1 j.2.2.1 j.2.2.2.1 j.2.2.2.2.1 []]⟩:Br Tm)].length) fun J=>TK k I cen pz y2 y3 y4 y5 y6 z1 z2 z3 z4 z5 x1 z6 x2 x3 x4 x5 x6 st0 y1 st m j.2.2.2.2.2 (((p++[x]).length:Nat):Int) (acc++[⟨x.f,[Tm.mk j.1 j.2.1 j.2.2.1 j.2.2.2.1 j.2.2.2.2.1 []]⟩]))
   refine qy ?_ (h1.trans ?_)
   ·rfl
   dsimp only
   rw [J5 (by grind),h2]
   rfl)
  st [] [] k c rfl (by omega) rfl
 grind
end
theorem aA6 {a a1 cen:Tm} (fa:Fm a) (h1:p9 a1) (h2:p9 cen) {pz:LC} (hp:RX true pz) {st:LB} (hs: ∀b∈st,K5 b) (c:Int):cv 200000 (l5 pz a a1 cen st c).1/\(l5 pz a a1 cen st c).1.length<=st.length+1:=by
 obtain ⟨j,E⟩:=gw (F:=IC a1 cen a) hp (n:=200000) (fun c=>by
  have:=aCB (c:=c) h1 h2 fa.ok
  exact ⟨this.1,by have:=this.2;omega⟩) c
 refine ⟨Ux j ?_, ?_⟩
 ·intro y q
  refine TW (Q:=fun y=> ∃t,y.c=[t]/\Sm 200000 t/\am t<=299/\aq y.f/\y.f.length<1073741824) (F:=RP pz a a1 cen) (l:=st) (c:=(Ab pz (IC a1 cen a) c).2) (fun x z c=> ?_) y q
  obtain ⟨I,q2,J,A,B⟩:=hs x z
  have h:=(MP (G9 hp) q2.sm fa.sm (by have:=q2.dep;omega) (by have:=fa.dep;omega)).ok
  have:=aCB (c:=c) h1 h2 h
  exact ⟨_,rfl,this.1,by have:=this.2;omega,A,B⟩
 ·unfold l5
  rw [Is,R6];omega
theorem aF0 (hk:F3 k) {pz:LC} {a a1 t1 t e:Tm} {st:LB} {c:Int} (fa:Fm a) (f1:FN a1) (j:FN t1) (ft:Fm t) (q:Fm e) (hp:RX true pz) (hs: ∀b∈st,K5 b) (hl:st.length<=10000):
  FN (mM c (c6 [t,t1,dS 9 [e],a1] (ID t t1 (dS 9 [e]) a1))).1->Sm 50000000000 (Tx pz a a1 t1 st t e c).1/\am (Tx pz a a1 t1 st t e c).1<=300:=by
 intro hf
 have hc:=Fq (.inl q) f1
 have h:=MO (kd:=9) (by omega) hc (by omega)
 obtain ⟨x,z⟩:=aA6 (st:=st) (cen:=I0 e a1) fa f1.sm.1.ok hc.1.ok hp hs (mM c (c6 [t,t1,dS 9 [e],a1] (ID t t1 (dS 9 [e]) a1))).2
 have:=hV (n:=50000) (m:=200000) (hf.sm.1.mono (by omega)) (h.1.mono (by omega)) (by have:=hf.sm.2;omega) (by have:=h.2;omega) (by omega) x (by omega) (by omega)
 exact ⟨this,this.dep⟩
section
variable {pz:LC} {x1 x2:Int} {x3:BA} {x4:LC} {x5:LT} {x6 st0:LB} {y1 y2:Int} {y3:BA} {y4:LC} {y5:LT} {y6:LB} {z1 z2:Int} {z3:BA} {z4:LC} {z5:LT} {z6:LB}
theorem aIw (hk:F3 k) {t a f y:Tm} {c:Int} (j:In k t) (ha:In k a) (hf:In k f) (q:In k y) (I:Tm×Int->OS S):sb k t a f y c I=I (mM c (c6 [t,a,f,y] (ID t a f y))):=by
 simp only [sb,ag hk.fu,dG,ar,rJ]
 exact Az c (fun h g=>aHT hk j ha hf q g) (fun e h=>BJ (fun e h=>aFT h) h) I
theorem aH_ (hk:F3 k) {t e:Tm} (ft:Fm t) (h:Fm e) (fa:Fm (Tm.mk x1 x2 x3 x4 x5 x6)) (f1:FN (Tm.mk y1 y2 y3 y4 y5 y6)) (j:FN (Tm.mk z1 z2 z3 z4 z5 z6)) (hp:RX true pz) {st:LB} (hs: ∀b∈st,K5 b) (hl:st.length<=10000) (c:Int) (I:Int×Int×BA×LT×LB×Int->OS S):
  l1 k t e c pz x1 x2 x3 x4 x5 x6 st y1 y2 y3 y4 y5 y6 z1 z2 z3 z4 z5 z6 I=(fun F:Tm×Int=>I (15,0,qw,F.1.c,F.1.s,F.2)) (Tx pz (Tm.mk x1 x2 x3 x4 x5 x6) (Tm.mk y1 y2 y3 y4 y5 y6) (Tm.mk z1 z2 z3 z4 z5 z6) st t e c):=by
 have i1:=f1.sm.1.isIn hk (by omega)
 have i2:=(Fq (.inl h) f1).1.isIn hk (by omega)
 have i9:=(MO (kd:=9) (by omega) (FN.sm (.inl h)) (by omega)).1.isIn hk (by omega)
 simp only [l1,ag hk.fu,ar,zc,SG,JM]
 have q:Tm.mk 9 0 qw [] [e] []=dS 9 [e]:=rfl
 have x:Tm.mk 6 0 qw [] [Tm.mk 10 0 qw [] [e] [],Tm.mk y1 y2 y3 y4 y5 y6] []=I0 e (Tm.mk y1 y2 y3 y4 y5 y6):=rfl
 rw [q,x,aIw hk (ft.isIn hk) (j.sm.1.isIn hk (by omega)) i9 i1,aIK hk i1 i2 (fa.isIn hk),aIc hk i1 i2 fa hp hs hl]
 have hb:=(aA6 (st:=st) (cen:=I0 e (Tm.mk y1 y2 y3 y4 y5 y6)) (a1:=Tm.mk y1 y2 y3 y4 y5 y6) fa f1.sm.1.ok (Fq (.inl h) f1).1.ok hp hs (mM c (c6 [t,Tm.mk z1 z2 z3 z4 z5 z6,dS 9 [e],Tm.mk y1 y2 y3 y4 y5 y6] (ID t (Tm.mk z1 z2 z3 z4 z5 z6) (dS 9 [e]) (Tm.mk y1 y2 y3 y4 y5 y6)))).2).2
 unfold l5 at hb
 rw [Is] at hb
 rw [J5 (by omega)]
 rfl
end
theorem azT (hk:F3 k) {t:Tm} {c:Int} (h:p9 t) (hd:am t<=400) (I:Tm×Bool×Int×Int->OS S):ly k t c I=I ((dM c t).1,(dM c t).2==0,(dM c t).2,(dM c t).2):=by
 have h2:Fd k (am t):=hk.fd (by omega)
 simp only [ly,ag hk.fu,dG,ar,rJ,E9 h h2 (by omega)]
 have:p9 (dM c t).1/\Fd k (am (dM c t).1):=by
  unfold dM
  split
  ·split
   ·grind
   ·exact ⟨(gQ hk).1,(gQ hk).2.1⟩
  ·exact ⟨(gQ hk).1,(gQ hk).2.1⟩
 grind [vU,dM]
def H0 (pz:LC) (a a1 t1:Tm) (st:LB) (c:Int) (b:Br Tm):Tm×Int:=Tx pz a a1 t1 st (AK b) (k1 b) c
def IK (a1:Tm) (c:Int) (q:Br Tm×Tm):Br Tm×Int:=
 let x:=mM c (wA 0 1 q.2)
 let h:=mM x.2 (wA 0 1 a1)
 let e:=mM h.2 (wA 0 1 (k1 q.1))
 (⟨q.1.f,[pap [⟨1,0⟩] (dS 10 [x.1]) h.1 (dS 6 [dS 9 [e.1],dS 9 [x.1]])]⟩,e.2)
def TB (q:Br Tm×Tm):Br Tm:=⟨q.1.f,[dS 9 [q.2]]⟩
def EI (l:LT):Tm:=match l with
 |[x]=>x
 |_=>pX
theorem aFU (hk:F3 k) {t a f y:Tm} (q:In k t) (ha:In k a) (hf:In k f) (A:In k y) (c:Int):FN (mM c (c6 [t,a,f,y] (ID t a f y))).1:=EJ fun z h=>by
 obtain ⟨so,ff,j⟩:=BI h
 have:=R0 (l:=[t,a,f,y]) (fun x j=>by
  simp at j
  rcases j with rfl|rfl|rfl|rfl
  ·exact q.1
  ·exact ha.1
  ·exact hf.1
  ·exact A.1) so
 exact ⟨((aA5 (by omega) (by omega) (this t (by simp)).f2 (this a (by simp)).f2 (this f (by simp)).f2 (this y (by simp)).f2 j).isIn hk (by omega) (by omega)).1,ff⟩
section
variable {pz:LC} {x1 x2:Int} {x3:BA} {x4:LC} {x5:LT} {x6 st:LB} {y1 y2:Int} {y3:BA} {y4:LC} {y5:LT} {y6:LB} {z1 z2:Int} {z3:BA} {z4:LC} {z5:LT} {z6:LB}
def GB (l:LB):Prop:= ∀b∈l,b.c=[AK b,k1 b]/\Fm (AK b)/\Fm (k1 b)/\RX true b.f
theorem bh (hk:F3 k) {a a1 t1:Tm} (fa:Fm a) (f1:FN a1) (h:FN t1) (hp:RX true pz) (hs: ∀b∈st,K5 b) (hl:st.length<=10000) {l:LB} (q:GB l) {c:Int}: ∀w∈(ue (H0 pz a a1 t1 st) c l).1,Sm 50000000000 w/\am w<=300:=
 TW fun b hb c=>by
  obtain ⟨x,q2,j,z⟩:=q b hb
  exact aF0 hk fa f1 h q2 j hp hs hl (aFU hk (q2.isIn hk) (h.sm.1.isIn hk (by omega)) ((MO (kd:=9) (by omega) (FN.sm (.inl j)) (by omega)).1.isIn hk (by omega)) (f1.sm.1.isIn hk (by omega)) _)
theorem aIO (hk:F3 k) (fa:Fm (Tm.mk x1 x2 x3 x4 x5 x6)) (f1:FN (Tm.mk y1 y2 y3 y4 y5 y6)) (j:FN (Tm.mk z1 z2 z3 z4 z5 z6)) (hp:RX true pz) (hs: ∀b∈st,K5 b) (hl:st.length<=10000) {l:LB} (q:GB l) (z:l.length<=10000) (c:Int) (I:LT×Int->OS S):
  uv k l c pz x1 x2 x3 x4 x5 x6 st y1 y2 y3 y4 y5 y6 z1 z2 z3 z4 z5 z6 I=I (ue (H0 pz (Tm.mk x1 x2 x3 x4 x5 x6) (Tm.mk y1 y2 y3 y4 y5 y6) (Tm.mk z1 z2 z3 z4 z5 z6) st) c l):=by
 have A:4294968296<=k:=hk
 simp only [uv,aAc]
 have:=hL (S:=S) (l:=l) (L:=fun m c i acc=>e7 k I pz y2 y3 y4 y5 y6 z1 z2 z3 z4 z5 x1 z6 x2 x3 x4 x5 x6 st y1 l m c i acc) (F:=H0 pz (Tm.mk x1 x2 x3 x4 x5 x6) (Tm.mk y1 y2 y3 y4 y5 y6) (Tm.mk z1 z2 z3 z4 z5 z6) st) (I:=I)
  (fun m c acc ha=>by
   grind [e7,L',n3])
  (fun m c x p r acc h ha=>by
   obtain ⟨B,E,J,_⟩:=sX h (by omega)
   have hlen:p.length<l.length:=by grind
   obtain ⟨O,q2,M,T⟩:=q x (by grind)
   have g0:af x.c 0=some (AK x):=ED (n:=0) rfl (by grind)
   have g1:af x.c 1=some (k1 x):=ED (n:=1) rfl (by grind)
   simp only [e7,L',B,ae,E,rf,ag hk.fu,b1,g0,g1,ar,J]
   rw [aH_ hk q2 M fa f1 j hp hs hl]
   dsimp only
   rw [J5 (by grind)]
   rfl)
  l [] [] k c rfl (by omega) rfl
 grind
theorem aIL (hk:F3 k) (i1:In k (Tm.mk y1 y2 y3 y4 y5 y6)) (c:Int) (I:LB×Int->OS S):
  k7 k c pz x1 x2 x3 x4 x5 x6 st y1 y2 y3 y4 y5 y6 z1 z2 z3 z4 z5 z6 I=I (Ab pz (fun c=>mM c (wA 0 1 (Tm.mk y1 y2 y3 y4 y5 y6))) c):=by
 simp only [k7,ag hk.fu,ar,ts,xF]
 rw [IG hk (fun _=>i1) (by omega) (by omega)]
 unfold Ab
 by_cases h:pz.length=0<;>simp_all [ae,beq_false_of_ne,n3]
end
def M5 (pz:LC) (g a:Tm):Tm×Int:=
 let B:=Mq g pz a
 let G:=mM B.c (sI 0 [⟨0,0⟩] g)
 let t1:=EI G.1.c
 let ws:=ue (H0 pz a B.a1 t1 B.st) G.2 G.1.s
 let W:=Ab pz (fun c=>mM c (wA 0 1 B.a1)) ws.2
 let Z:=ue (IK B.a1) W.2 (G.1.s.zip ws.1)
 (.mk 17 0 qw [] [.mk 15 0 qw [] [t1,B.a1] (W.1++Z.1)] ((G.1.s.zip ws.1).map TB),Z.2)
def z' (t:Tm):Tm×Bool×Int:=
 if bw t≠0 then (pX,false,bw t) else
 if t.k=14/\(t.c.getD 0 pX).k=16 then
  (fun q:Tm×Int=>((dM q.2 q.1).1,(dM q.2 q.1).2==0,(dM q.2 q.1).2)) (M5 t.r (t.c.getD 0 pX) (t.c.getD 1 pX))
 else (pX,false,0)
theorem II (hk:F3 k) {g a:Tm} {pz:LC} (h:Fm g) (j:g.k=16) (fa:Fm a) (hp:RX true pz):FN (Mq g pz a).a1/\(∀b∈(Mq g pz a).st,K5 b)/\(Mq g pz a).st.length<=10000:=by
 obtain ⟨x,_,b,hb,fb⟩:=h.gl j
 have hlen:=m' h j
 have z:GN (mM 0 (sI 0 [] g)).1:=k6 h j rA (Sp (by decide))
 have hs:=aIU (l:=g.s) (c:=(mM 0 (sI 0 [] g)).2) x
 have hl:=aIT (l:=g.s) (c:=(mM 0 (sI 0 [] g)).2)
 have hd:Mj g=b:=by grind [Mj]
 have q:=(z.un fa).1.isIn hk (by omega)
 refine ⟨?_,hs,zj hl hlen⟩
 show FN (LV g pz a _ _ _).1
 unfold LV
 rw [hd]
 exact azg hk (fb.isIn hk) q (qE hk fa q.1 hp hs (zj hl hlen) _) _
theorem e9 {x:Tm} (h:GN x):FN (EI x.c)/\GB x.s/\x.s.length<=10000/\(x.c.length=1/\x.c=[EI x.c]\/x.c.length=0/\EI x.c=pX):=by
 rcases h with ⟨h1,h2⟩|rfl
 ·obtain ⟨j,_,b,hb,fb⟩:=h1.gl h2
  rw [hb]
  exact ⟨.inl fb,j,m' h1 h2,.inl ⟨rfl,rfl⟩⟩
 ·exact ⟨.inr rfl,(fun b hb=>by cases hb),by simp [pX,Tm.s],.inr ⟨rfl,rfl⟩⟩
section
variable {z1 z2:Int} {z3:BA} {z4:LC} {z5:LT} {z6:LB}
theorem aGR (hk:F3 k) (I:Tm×Bool×Int->OS S) {r3 x4:Tm} {r6:Int×LB×Int×Int×BA×LC×LT×LB} {r8:Tm×Int} {a1:Tm} (J:Tm.mk r6.2.2.1 r6.2.2.2.1 r6.2.2.2.2.1 r6.2.2.2.2.2.1 r6.2.2.2.2.2.2.1 r6.2.2.2.2.2.2.2=a1) (o1:p9 a1) (i1:In k a1) (L:GB r8.1.s) (M:r8.1.s.length<=10000) {ws:LT} (O: ∀w∈ws,In k w) (T:ws.length=r8.1.s.length) {END:LB->LB->Int->OS S}
  (F: ∀ (m:Nat) (c:Int) (j sy:LB),Ta k I r3 r6 x4 r8 (m+1) c z1 z2 z3 z4 z5 z6 j (r8.1.s.length:Int) ws sy=END j sy c):
  ∀ (r p:LB) (rw z:LT) (j sy:LB) (m:Nat) (c:Int),r8.1.s=p++r->ws=z++rw->z.length=p.length->r.length<m->j.length=p.length->sy.length<=p.length+1->
   Ta k I r3 r6 x4 r8 m c z1 z2 z3 z4 z5 z6 j (p.length:Int) ws sy=END (j++(r.zip rw).map TB) (sy++(ue (IK a1) c (r.zip rw)).1) (ue (IK a1) c (r.zip rw)).2:=by
 intro r
 induction r with
 |nil=>
  grind [qI,List.zip_nil_left,ue]
 |cons x r W=>
  intro p q z j sy m c h h' A Y ad ao
  obtain ⟨m,rfl,B⟩:=qI Y
  obtain ⟨E,e2,e3,e4⟩:=sX h (by omega)
  have hlen:p.length<r8.1.s.length:=by grind
  cases q with
  |nil=>grind
  |cons w q=>
  have gw:af ws (p.length:Int)=some w:=by
   rw [h',<-A]
   exact ED (n:=z.length) rfl (by simp)
  obtain ⟨q1,q2,q3,q4⟩:=L x (by grind)
  have g1:af x.c 1=some (k1 x):=ED (n:=1) rfl (by grind)
  have iw:=O w (by grind)
  simp only [Ta,K2,E,ae,e2,rf,gw,ag hk.fu,ar,J,g1,SG,zc,tO,xF,e3]
  rw [IG hk (fun _=>iw) (by omega) (by omega),IG hk (fun _=>i1) (by omega) (by omega),IG hk (fun _=>q3.isIn hk) (by omega) (by omega),J5 (by grind),J5 (by grind)]
  refine qy (W (p++[x]) q (z++[w]) _ _ m _ e4 (by grind) (by simp_all) B (by simp_all) (by grind)) ?_
  rw [List.zip_cons_cons,HW,ue,List.append_assoc,List.append_assoc]
  rfl
end
theorem Bi {n:Nat}: ∀ {l:LB},(∀x∈l,∃t,x.c=[t]/\p9 t/\am t<=n/\aq x.f/\x.f.length<1073741824)->ba l/\aO l<=n+2:=by
 intro l
 induction l with
 |nil=>grind [ba,aO]
 |cons x l j=>
  intro h
  obtain ⟨h1,h2⟩:=j fun y q=>h y (by simp [q])
  obtain ⟨t,z,q2,A,B,E⟩:=h x (by simp)
  obtain ⟨f,F⟩:=x
  grind [ba,fc,aZ,aO,Fy,aH]
theorem aA7 {a1:Tm} (x:p9 a1) {q:Br Tm×Tm} (z:p9 q.2) (A:p9 (k1 q.1)) (hf:aq q.1.f/\q.1.f.length<1073741824) (c:Int):
  ∃t,(IK a1 c q).1.c=[t]/\p9 t/\am t<=299/\aq (IK a1 c q).1.f/\(IK a1 c q).1.f.length<1073741824:=by
 have fx:=Ft (c:=c) (a:=0) (b:=1) (by omega) (by omega) z
 have fl:=Ft (c:=(mM c (wA 0 1 q.2)).2) (a:=0) (b:=1) (by omega) (by omega) x
 have B:=Ft (c:=(mM (mM c (wA 0 1 q.2)).2 (wA 0 1 a1)).2) (a:=0) (b:=1) (by omega) (by omega) A
 have h:=MO (kd:=10) (by omega) fx.sm (by omega)
 have E:=MO (kd:=9) (by omega) fx.sm (by omega)
 have j:=MO (kd:=9) (by omega) B.sm (by omega)
 have F:=Mr (kd:=6) (by omega) (d:=201) j E (by omega)
 have:=ht (Q5 (a:=1) (b:=0) (by omega) (by omega)) (d:=202) ⟨h.1,by omega⟩ ⟨fl.sm.1,by have:=fl.sm.2;omega⟩ ⟨F.1,by omega⟩ (by omega)
 exact ⟨_,rfl,this.1.ok,by omega,hf.1,hf.2⟩
theorem pj (a b:Int) (c:BA) (d:LC) (e:LT) (f:LB):(Tm.mk a b c d e f).k=a/\(Tm.mk a b c d e f).n=b/\(Tm.mk a b c d e f).name=c/\(Tm.mk a b c d e f).r=d/\(Tm.mk a b c d e f).c=e/\(Tm.mk a b c d e f).s=f:=⟨rfl,rfl,rfl,rfl,rfl,rfl⟩
theorem aIe (hk:F3 k) {t:Tm} (O:In k t) (I:Tm×Bool×Int->OS S):uC k t I=I (z' t):=by
 have a7:4294968296<=k:=hk
 simp only [uC,qG,ag hk.fu,ar,E9 O.1 O.2.1 O.dep]
 unfold z'
 by_cases h0:bw t=0
 case neg=>rw [dj h0,ub,ae,if_pos h0];rfl
 rw [h0,show (!((0:Int)==0))=false from rfl,n3,if_neg (by simp)]
 have ft:Fm t:=⟨O.1,h0⟩
 by_cases A:t.k=14
 case neg=>rw [beq_false_of_ne A,ub,ae,if_neg (fun h=>A h.1)];rfl
 rw [A,show (!((14:Int)==14))=false from rfl,n3]
 obtain ⟨g,a,Y⟩:=I8 (E5 ft A (n:=2) rfl)
 obtain ⟨g0,g1⟩:=KQ Y
 obtain ⟨d0,d1⟩:=EC Y
 have fg:Fm g:=ft.bD (by grind)
 have fa:Fm a:=ft.bD (by grind)
 have hp:=ft.r14 A
 rw [g0,rf,d0,d1]
 by_cases x:g.k=16
 case neg=>rw [beq_false_of_ne x,ub,ae,if_neg (fun h=>x h.2)];rfl
 rw [x,show (!((16:Int)==16))=false from rfl,n3,vU t O.1 _ O.2.1,if_pos ⟨rfl,rfl⟩]
 simp only [g0,g1,rf]
 generalize a6:t.r=pz at hp
 obtain ⟨x1,x2,x3,x4,x5,x6⟩:=a
 simp only [pj x1 x2 x3 x4 x5 x6]
 rw [aH1 hk fg x fa hp]
 unfold M5
 dsimp only
 obtain ⟨E,sB,lB⟩:=II hk fg x fa hp
 generalize Mq g pz (Tm.mk x1 x2 x3 x4 x5 x6)=B at E sB lB ⊢
 obtain ⟨st,⟨y1,y2,y3,y4,y5,y6⟩,c0⟩:=B
 dsimp only at E sB lB ⊢
 simp only [pj y1 y2 y3 y4 y5 y6]
 rw [vZ hk (fun _=>fg.isIn hk)]
 have gG:GN (mM c0 (sI 0 [⟨0,0⟩] g)).1:=k6 fg x Qz (kC (by decide))
 generalize mM c0 (sI 0 [⟨0,0⟩] g)=G at gG ⊢
 obtain ⟨f1,T,lG,ad⟩:=e9 gG
 have i1:=E.sm.1.isIn hk (by omega)
 have main: ∀ {z1 z2:Int} {z3:BA} {z4:LC} {z5:LT} {z6:LB},Tm.mk z1 z2 z3 z4 z5 z6=EI G.1.c->
   (uv k G.1.s G.2 pz x1 x2 x3 x4 x5 x6 st y1 y2 y3 y4 y5 y6 z1 z2 z3 z4 z5 z6 fun ao=>k7 k ao.2 pz x1 x2 x3 x4 x5 x6 st y1 y2 y3 y4 y5 y6 z1 z2 z3 z4 z5 z6 fun ax=>Ta k I t (c0,st,y1,y2,y3,y4,y5,y6) (Tm.mk x1 x2 x3 x4 x5 x6) G k ax.2 z1 z2 z3 z4 z5 z6 [] 0 ao.1 ax.1)=
    (fun q:Tm×Int=>I ((dM q.2 q.1).1,(dM q.2 q.1).2==0,(dM q.2 q.1).2)) (.mk 17 0 qw [] [.mk 15 0 qw [] [EI G.1.c,Tm.mk y1 y2 y3 y4 y5 y6] ((Ab pz (fun c=>mM c (wA 0 1 (Tm.mk y1 y2 y3 y4 y5 y6))) (ue (H0 pz (Tm.mk x1 x2 x3 x4 x5 x6) (Tm.mk y1 y2 y3 y4 y5 y6) (EI G.1.c) st) G.2 G.1.s).2).1++(ue (IK (Tm.mk y1 y2 y3 y4 y5 y6)) (Ab pz (fun c=>mM c (wA 0 1 (Tm.mk y1 y2 y3 y4 y5 y6))) (ue (H0 pz (Tm.mk x1 x2 x3 x4 x5 x6) (Tm.mk y1 y2 y3 y4 y5 y6) (EI G.1.c) st) G.2 G.1.s).2).2 (G.1.s.zip (ue (H0 pz (Tm.mk x1 x2 x3 x4 x5 x6) (Tm.mk y1 y2 y3 y4 y5 y6) (EI G.1.c) st) G.2 G.1.s).1)).1)] ((G.1.s.zip (ue (H0 pz (Tm.mk x1 x2 x3 x4 x5 x6) (Tm.mk y1 y2 y3 y4 y5 y6) (EI G.1.c) st) G.2 G.1.s).1).map TB),(ue (IK (Tm.mk y1 y2 y3 y4 y5 y6)) (Ab pz (fun c=>mM c (wA 0 1 (Tm.mk y1 y2 y3 y4 y5 y6))) (ue (H0 pz (Tm.mk x1 x2 x3 x4 x5 x6) (Tm.mk y1 y2 y3 y4 y5 y6) (EI G.1.c) st) G.2 G.1.s).2).2 (G.1.s.zip (ue (H0 pz (Tm.mk x1 x2 x3 x4 x5 x6) (Tm.mk y1 y2 y3 y4 y5 y6) (EI G.1.c) st) G.2 G.1.s).1)).2):=by
  intro z1 z2 z3 z4 z5 z6 hz
  rw [<-hz] at f1
  rw [aIO hk fa E f1 hp sB lB T lG,<-hz]
  have J:=bh (pz:=pz) (st:=st) (c:=G.2) hk fa E f1 hp sB lB T
  have az:(ue (H0 pz (Tm.mk x1 x2 x3 x4 x5 x6) (Tm.mk y1 y2 y3 y4 y5 y6) (Tm.mk z1 z2 z3 z4 z5 z6) st) G.2 G.1.s).1.length=G.1.s.length:=R6
  generalize ue (H0 pz (Tm.mk x1 x2 x3 x4 x5 x6) (Tm.mk y1 y2 y3 y4 y5 y6) (Tm.mk z1 z2 z3 z4 z5 z6) st) G.2 G.1.s=ws at J az ⊢
  rw [aIL hk i1]
  have fU: ∀c,FN (mM c (wA 0 1 (Tm.mk y1 y2 y3 y4 y5 y6))).1:=fun c=>Ft (by omega) (by omega) E.sm.1.ok
  obtain ⟨w1,w2⟩:=gw (F:=fun c=>mM c (wA 0 1 (Tm.mk y1 y2 y3 y4 y5 y6))) hp (n:=20000) (fun c=>⟨(fU c).sm.1,by have:=(fU c).sm.2;omega⟩) ws.2
  generalize Ab pz (fun c=>mM c (wA 0 1 (Tm.mk y1 y2 y3 y4 y5 y6))) ws.2=W at w1 w2 ⊢
  have j: ∀q∈G.1.s.zip ws.1,q.1∈G.1.s/\q.2∈ws.1:=fun q L=>⟨(List.of_mem_zip L).1,(List.of_mem_zip L).2⟩
  have key:=aGR (z1:=z1) (z2:=z2) (z3:=z3) (z4:=z4) (z5:=z5) (z6:=z6) hk I (r3:=t) (x4:=Tm.mk x1 x2 x3 x4 x5 x6) (r6:=(c0,st,y1,y2,y3,y4,y5,y6)) (r8:=G) (a1:=Tm.mk y1 y2 y3 y4 y5 y6) rfl E.sm.1.ok i1 T lG (ws:=ws.1) (fun w hw=>(J w hw).1.isIn hk (by omega)) az
   (END:=fun pa sy c=>ly k (.mk 17 0 qw [] [.mk 15 0 qw [] [Tm.mk z1 z2 z3 z4 z5 z6,Tm.mk y1 y2 y3 y4 y5 y6] sy] pa) c fun M=>I (M.1,M.2.1,M.2.2.1)) (fun m c pa sy=>by
    have:=zt (l:=G.1.s) (p:=G.1.s) (by simp)
    simp only [Ta,K2,this,n3,ag hk.fu,ar,JM])
   G.1.s [] ws.1 [] [] W.1 k W.2 rfl rfl rfl (by omega) rfl (by omega)
  refine qy ?_ (key.trans ?_)
  ·rfl
  rw [An]
  dsimp only
  generalize hZ:ue (IK (Tm.mk y1 y2 y3 y4 y5 y6)) W.2 (G.1.s.zip ws.1)=Z
  have zq: ∀y∈Z.1,∃t,y.c=[t]/\p9 t/\am t<=299/\aq y.f/\y.f.length<1073741824:=by
   rw [<-hZ]
   exact TW fun q L c=>aA7 E.sm.1.ok (J q.2 (j q L).2).1.ok (T q.1 (j q L).1).2.2.1.ok (G9 (T q.1 (j q L).1).2.2.2) c
  have zl:Z.1.length=(G.1.s.zip ws.1).length:=by grind [R6]
  have pq: ∀y∈(G.1.s.zip ws.1).map TB,∃t,y.c=[t]/\p9 t/\am t<=301/\aq y.f/\y.f.length<1073741824:=fun y hy=>by
   obtain ⟨q,L,rfl⟩:=xq.1 hy
   obtain ⟨h1,h2⟩:=J q.2 (j q L).2
   have r:=G9 (T q.1 (j q L).1).2.2.2
   refine ⟨_,rfl, ?_, ?_,r.1,r.2⟩
   ·unfold dS;rw [p9,aZ,aZ,ba];exact ⟨⟨by unfold aG;omega,by unfold aG;omega,by decide,(fun c hc=>by cases hc),by simp,by simp,by simp⟩,⟨h1.ok,trivial⟩,trivial⟩
   grind [dS,am,aH,aO]
  obtain ⟨o1,o2⟩:=Bi (l:=W.1++Z.1) (n:=299) fun y hy=>by
   rcases zx.1 hy with hy|hy
   ·obtain ⟨t,q1,q2,q3,q4,q5⟩:=w1 y hy;exact ⟨t,q1,q2.ok,q3,q4,q5⟩
   grind
  obtain ⟨o3,o4⟩:=Bi pq
  have a8:(G.1.s.zip ws.1).length<=10000:=by grind
  have b1:=f1.sm;have b2:=E.sm
  refine azT hk ?_ ?_ _
  ·rw [p9,aZ,aZ,p9,aZ,aZ,aZ]
   exact ⟨⟨by unfold aG;omega,by unfold aG;omega,by decide,(fun c hc=>by cases hc),by simp,by simp,by grind⟩,⟨⟨⟨by unfold aG;omega,by unfold aG;omega,by decide,(fun c hc=>by cases hc),by simp,by simp,by grind⟩,⟨b1.1.ok,b2.1.ok,trivial⟩,o1⟩,trivial⟩,o3⟩
  grind [am,aH]
 rcases ad with ⟨e1,e2⟩|⟨e1,e2⟩
 ·have gk:af G.1.c 0=some (EI G.1.c):=by rw [e2];rfl
  rw [e1,show ((((1:Nat):Int))==1)=true from rfl,ae,gk,rf]
  generalize hz:EI G.1.c=z at main ⊢
  obtain ⟨z1,z2,z3,z4,z5,z6⟩:=z
  grind [pj]
 ·rw [e1,show ((((0:Nat):Int))==1)=false from rfl,n3]
  exact main e2.symm
theorem dh {t:Tm} (h:t.c.length=3): ∃a b c,t.c=[a,b,c]:=by
 match hk:t.c,h with
 |[a,b,c],_=>simp
def Mz (q:Tm×Int):Tm×Bool×Int:=((dM q.2 q.1).1,(dM q.2 q.1).2==0,(dM q.2 q.1).2)
def Ss (t:Tm):Tm×Bool×Int:=
 if bw t≠0 then (pX,false,bw t) else
 if t.k≠14 then (pX,false,0) else
 let l:=t.c.getD 0 pX
 let a:=t.c.getD 1 pX
 let k0:=l.c.getD 0 pX
 let k1:=l.c.getD 1 pX
 if l.k=3\/l.k=19 then Mz (a,0) else
 if l.k=4 then Mz (SV t.r k0 k1 a) else
 if l.k=7 then Mz (S1 t.r k0 k1 a) else
 if l.k=11 then Mz (S2 t.r k0 k1 (l.c.getD 2 pX) a) else
 if l.k=23 then h_ t else
 if l.k=16 then z' t else (pX,false,0)
theorem aIE (B:F4 k) {t:Tm} (F:In k t) (I:Tm×Bool×Int->OS S):K1 k t I=I (Ss t):=by
 have hk:=B.f3
 have az:4294968296<=k:=hk
 simp only [K1,ag hk.fu,ar,E9 F.1 F.2.1 F.dep]
 unfold Ss
 by_cases h0:bw t=0
 case neg=>rw [dj h0,ub,ae,if_pos h0];rfl
 rw [h0,show (!((0:Int)==0))=false from rfl,n3,if_neg (by simp)]
 have ft:Fm t:=⟨F.1,h0⟩
 by_cases q:t.k=14
 case neg=>rw [beq_false_of_ne q,ub,ae,if_pos q];rfl
 rw [q,show (!((14:Int)==14))=false from rfl,n3,if_neg (by simp)]
 obtain ⟨l,a,J⟩:=I8 (E5 ft q (n:=2) rfl)
 obtain ⟨g0,g1⟩:=KQ J
 obtain ⟨d0,d1⟩:=EC J
 have fl:Fm l:=ft.bD (by grind)
 have fa:Fm a:=ft.bD (by grind)
 have hp:=ft.r14 q
 rw [vU t F.1 _ F.2.1]
 simp only [g0,g1,rf,d0,d1]
 have L:=fun {x:Tm} {c:Int} (hx:In k x) (g:Tm×Bool×Int->OS S)=>Ry hk (c:=c) hx (fun r=>g (r.1,r.2.1,r.2.2.1))
 generalize ax:t.r=pz at hp
 obtain ⟨x1,x2,x3,x4,x5,x6⟩:=a
 simp only [pj x1 x2 x3 x4 x5 x6]
 by_cases h3:l.k=3
 ·rw [h3,show ((3:Int)==3)=true from rfl,ae,if_pos (.inl rfl),L (fa.isIn hk)];rfl
 rw [beq_false_of_ne h3,n3]
 by_cases E:l.k=19
 ·rw [E,show ((19:Int)==19)=true from rfl,ae,if_pos (.inr rfl),L (fa.isIn hk)];rfl
 rw [beq_false_of_ne E,n3,if_neg (fun h=>h.elim h3 E)]
 by_cases h4:l.k=4
 ·obtain ⟨k0,ao,hb⟩:=I8 (E5 fl h4 (n:=2) rfl)
  obtain ⟨M,O⟩:=EC hb
  rw [h4,show ((4:Int)==4)=true from rfl,ae,if_pos rfl,M,O]
  obtain ⟨ks,c,T,q2,W⟩:=aDg (pz:=pz) B hb (fl.bD (by grind)) (fl.bD (by grind)) fa hp (fun j=>ly k (Tm.mk j.1 j.2.1 j.2.2.1 [] j.2.2.2.1 []) j.2.2.2.2 fun z=>I (z.1,z.2.1,z.2.2.1))
  rw [T,<-q2]
  exact L W I
 rw [beq_false_of_ne h4,n3,if_neg h4]
 by_cases h7:l.k=7
 ·obtain ⟨k0,ao,hb⟩:=I8 (E5 fl h7 (n:=2) rfl)
  obtain ⟨M,O⟩:=EC hb
  rw [h7,show ((7:Int)==7)=true from rfl,ae,if_pos rfl,M,O]
  obtain ⟨ks,c,T,q2,W⟩:=aDi (pz:=pz) B hb (fl.bD (by grind)) (fl.bD (by grind)) fa hp (fun j=>ly k (Tm.mk j.1 j.2.1 j.2.2.1 [] j.2.2.2.1 []) j.2.2.2.2 fun z=>I (z.1,z.2.1,z.2.2.1))
  rw [T,<-q2]
  exact L W I
 rw [beq_false_of_ne h7,n3,if_neg h7]
 by_cases A:l.k=11
 ·obtain ⟨k0,kl,kr,hb⟩:=dh (E5 fl A (n:=3) rfl)
  have M:l.c.getD 0 pX=k0:=by grind
  have O:l.c.getD 1 pX=kl:=by grind
  have e2:l.c.getD 2 pX=kr:=by simp_all
  rw [A,show ((11:Int)==11)=true from rfl,ae,if_pos rfl,M,O,e2]
  obtain ⟨ks,c,T,q2,W⟩:=aDf (pz:=pz) hk hb (fl.bD (by grind)) (fl.bD (by grind)) (fl.bD (by grind)) fa hp (fun j=>ly k (Tm.mk j.1 j.2.1 j.2.2.1 [] j.2.2.2.1 []) j.2.2.2.2 fun z=>I (z.1,z.2.1,z.2.2.1))
  rw [T,<-q2]
  exact L W I
 rw [beq_false_of_ne A,n3,if_neg A]
 by_cases Y:l.k=23
 ·grind [ae,ap_]
 rw [beq_false_of_ne Y,n3,if_neg Y]
 by_cases ad:l.k=16
 ·grind [ae,aIe]
 rw [beq_false_of_ne ad,n3,if_neg ad]
 rfl
def S6 (f:LC):Bool:=decide (f=[⟨0,0⟩])
def TP (l:LB):Option (Br Tm):=l.find? fun b=>S6 b.f
def NX (r:LC):Int:=if r.length=0 then 0 else if S6 r then 1 else-1
theorem aCz {f:LC} (h:f.length≠1):S6 f=false:=by
 grind [S6]
theorem aCA (c:Cl):S6 [c]=((c.pos==0)&&((c.neg==0)&&true)):=by
 unfold S6
 obtain ⟨p,n⟩:=c
 grind
theorem azS (r:LC) (I:Int->OS S):aW k r I=I (NX r):=by
 simp only [aW]
 unfold NX
 match r with
 |[]=>rfl
 |[c]=>
  rw [show ((([c]:LC).length:Int)==0)=false from rfl,n3,show ((([c]:LC).length:Int)==1)=true from rfl,ae,show af [c] 0=some c from rfl,rf,<-aCA,if_neg (by simp)]
  cases S6 [c]<;>rfl
 |c::d::r=>
  rw [beq_false_of_ne (by grind),n3,beq_false_of_ne (by grind),n3,if_neg (by simp),aCz (by simp)]
  rfl
theorem aIG (b:Br Tm) (I:Bool->OS S):cW k b I=I (S6 b.f):=by
 simp only [cW]
 match h:b.f with
 |[]=>rfl
 |[c]=>simp_all [ae,af,aCA]
 |c::d::r=>rw [beq_false_of_ne (by grind),n3,aCz (by simp)]
theorem aGY (hk:Fu k) (I:Int->OS S) {l:LB} (hl:l.length<4611686018427387904):
  ∀ (r p:LB) (m:Nat),l=p++r->r.length<m-> ∃i,mg k I l m (p.length:Int)=I i/\(i<0/\TP r=none\/0<=i/\ ∃b,af l i=some b/\TP r=some b):=by
 intro r
 induction r with
 |nil=>
  intro p m h j
  obtain ⟨m,rfl,q⟩:=qI j
  refine ⟨-1, ?_,.inl ⟨by omega,rfl⟩⟩
  grind [mg,cm,n3]
 |cons x r z=>
  intro p m h j
  obtain ⟨m,rfl,q⟩:=qI j
  obtain ⟨A,B,E,F⟩:=sX h (by omega)
  grind [mg,cm,ae,aIG,ag,TP,n3]
theorem aIH (hk:F3 k) {l:LB} (hl:l.length<=20000) (I:Int->OS S): ∃i,cS k l I=I i/\(i<0/\TP l=none\/0<=i/\ ∃b,af l i=some b/\TP l=some b):=by
 have h:4294968296<=k:=hk
 obtain ⟨i,h1,h2⟩:=aGY hk.fu (fun r1=>I r1) (l:=l) (by omega) l [] k rfl (by omega)
 grind [cS,cP,N',ag]
theorem Fm.parts {t:Tm} (h:Fm t): ∀b∈t.s,(b.c.length:Int)=Ah t.k:=fun b hb=>by
 have ho:=h.own
 obtain ⟨kd,n,j,r,q,sys⟩:=t
 have hb:b∈sys:=hb
 by_cases hp:Ah kd=0
 ·have:sys.length=0:=by
   have ho:((_&&(_&&(_&&decide (Ah kd=0->sys.length=0))))&&_)=true:=ho
   grind
  grind
 ·have hk:kd=16\/kd=15\/kd=17\/kd=18:=by
   grind [Ah]
  have key:sys.all (bX kd 24)=true:=by
   rcases hk with rfl|rfl|rfl|rfl
   ·have ho:(_&&(sys.all (bX 16 24)&&_))=true:=ho
    grind
   ·have ho:(_&&(sys.all (bX 15 24)&&_))=true:=ho
    grind
   ·have ho:(_&&(sys.all (bX 17 24)&&_))=true:=ho
    grind
   ·have ho:(_&&(sys.all (bX 18 24)&&_))=true:=ho
    grind
  have:=zf.1 key b hb
  unfold bX at this
  simp only [qC,decide_eq_true_eq] at this
  exact this.1
theorem qT {l:LB} {b:Br Tm} (h:TP l=some b):b∈l:=List.mem_of_find?_eq_some h
def H5 (t:Tm):Tm×Bool×Int:=match TP t.s with
 |none=>(pX,false,0)
 |some b=>if t.k=15 then ((tE (sI 0 [⟨0,0⟩] (AK b))).1,true,(tE (sI 0 [⟨0,0⟩] (AK b))).2)
  else if t.k=18 then (dS 6 [dS 9 [AK b],t.c.getD 0 pX],true,0)
  else if t.k=16\/t.k=17 then (AK b,true,0) else (pX,false,0)
theorem aH0 (hk:F3 k) {t:Tm} (ft:Fm t) (I:Tm×Bool×Int->OS S):aJ k t 0 I=I (H5 t):=by
 have hz:=ft.eO
 have hl:t.s.length<=20000:=by
  have: ∀ {l:LB},(∀b∈l,(b.c.length:Int)=Ah t.k)->l≠[]->Ah t.k≠0->l.length<=aI l:=by
   intro l
   induction l with
   |nil=>simp
   |cons b l ih=>
    intro hb _ hp
    have h1:=hb b (by simp)
    have h2:1<=ay b.c:=by
     cases hk:b.c<;>grind [ay,mB]
    obtain ⟨f,E⟩:=b
    have h2:1<=ay E:=h2
    rw [aI,Ho,uL]
    by_cases hn:l=[]<;>grind
  by_cases hn:t.s=[]
  ·grind
  ·have hp:Ah t.k≠0:=by
    intro M
    cases hs:t.s with
    |nil=>simp_all
    |cons b l=>
     have ho:=ft.own
     obtain ⟨kd,n,nm,r,E,sys⟩:=t
     have ho:((_&&(_&&(_&&decide (Ah kd=0->sys.length=0))))&&_)=true:=ho
     simp only [qC,decide_eq_true_eq] at ho
     have:=ho.1.2.2.2 M
     have hs:sys=b::l:=hs
     grind
   have h1:=this ft.parts hn hp
   have h2:aI t.s+1<=au t:=by cases t<;>grind [au,Tm.s]
   omega
 obtain ⟨i,h1,h2⟩:=aIH hk hl (fun r1=>ab (decide ((r1:Int)<0)) (I (pX,false,0)) (pA (af t.s r1) fun x2=>ab (t.k==15) (pA (af x2.c 0) fun x3=>JI k x3 0 fun F=>I (F.1,true,F.2)) (ab (t.k==18) (pA (af x2.c 0) fun x5=>pA (af t.c 0) fun O=>I (dS 6 [dS 9 [x5],O],true,0)) (ab (t.k==16) (pA (af x2.c 0) fun T=>I (T,true,0)) (ab (t.k==17) (pA (af x2.c 0) fun z=>I (z,true,0)) (I (pX,false,0)))))))
 simp only [aJ,ag hk.fu,ar,zc]
 refine qy ?_ (h1.trans ?_)
 ·rfl
 unfold H5
 rcases h2 with ⟨h2,J⟩|⟨h2,b,J,L⟩
 ·grind [ae]
 ·rw [L,decide_eq_false (by omega),n3,J,rf]
  have hb:=qT L
  have hp:=ft.parts b hb
  have fb:t.k=15\/t.k=16\/t.k=17\/t.k=18->af b.c 0=some (AK b)/\Fm (AK b):=fun A=>by
   have W:Ah t.k≠0:=by rcases A with h|h|h|h<;>rw [h]<;>decide
   cases hk:b.c with
   |nil=>grind
   |cons x r=>
    have e:AK b=x:=by grind [AK]
    rw [e]
    exact ⟨rfl,ft.brk hb (by grind)⟩
  dsimp only
  by_cases q:t.k=15
  ·obtain ⟨B,f0⟩:=fb (.inl q)
   rw [q,show ((15:Int)==15)=true from rfl,ae,if_pos rfl,B,rf,vZ hk (fun _=>f0.isIn hk)]
   rfl
  rw [beq_false_of_ne q,n3,if_neg q]
  by_cases j:t.k=18
  ·obtain ⟨B,f0⟩:=fb (.inr (.inr (.inr j)))
   obtain ⟨a,ha⟩: ∃a,t.c=[a]:=by
    have:=E5 ft j (n:=1) rfl
    match h:t.c,this with
    |[a],_=>simp
   rw [j,show ((18:Int)==18)=true from rfl,ae,if_pos rfl,B,rf,ha]
   rfl
  rw [beq_false_of_ne j,n3,if_neg j]
  by_cases Y:t.k=16<;>grind [ae,n3]
abbrev kd0 (t:Tm):Tm:=t.c.getD 0 pX
abbrev LA (t:Tm):Tm:=t.c.getD 1 pX
abbrev kd2 (t:Tm):Tm:=t.c.getD 2 pX
abbrev SY (t:Tm):Tm:=t.c.getD 3 pX
abbrev M4 (t:Tm):Tm:=t.c.getD 4 pX
theorem zh {t:Tm} {n i:Nat} (h:t.c.length=n) (j:i<n):af t.c (i:Int)=some (t.c.getD i pX)/\t.c.getD i pX∈t.c:=by
 grind [pU]
theorem aAY (r:LC):NX r= -1\/NX r=0\/NX r=1:=by
 grind [NX]
def sc (t:Tm):Tm×Bool×Int:=
 if NX t.r=0 then (LA t,true,0) else if NX t.r=1 then (kd2 t,true,0) else
 if (kd0 t).k=12 then ((tE (sI 0 t.r (kd0 (kd0 t)))).1,true,(tE (sI 0 t.r (kd0 (kd0 t)))).2) else (pX,false,0)
theorem Fm.r13 {t:Tm} (h:Fm t) (hk:t.k=13):RF t.r:=by
 have ho:=h.own
 obtain ⟨kd,n,j,r,q,sys⟩:=t
 have hk:kd=13:=hk
 subst hk
 have ho:(_&&(xP r&&_))=true:=ho
 simp only [qC] at ho
 exact (M9 (h.ok.no.2.2.2.1)).1 ho.2.1
theorem aHX (hk:F3 k) {t:Tm} (ft:Fm t) (q:t.k=13) (I:Tm×Bool×Int->OS S):cA k t 0 I=I (sc t):=by
 have hl:=E5 ft q (n:=3) rfl
 obtain ⟨g0,m0⟩:=zh hl (i:=0) (by omega)
 obtain ⟨g1,_⟩:=zh hl (i:=1) (by omega)
 obtain ⟨g2,_⟩:=zh hl (i:=2) (by omega)
 simp only [cA,ag hk.fu,ar,azS]
 unfold sc
 rcases aAY t.r with h|h|h
 ·rw [h,show decide ((-1:Int)>=0)=false from rfl,n3,if_neg (by decide),if_neg (by decide)]
  simp only [Int.natCast_zero] at g0
  rw [g0,rf]
  by_cases j:(kd0 t).k=12
  ·rw [j,show ((12:Int)==12)=true from rfl,ae,if_pos rfl,rf]
   have f0:=ft.bD m0
   have x:=E5 f0 j (n:=1) rfl
   obtain ⟨g,m⟩:=zh x (i:=0) (by omega)
   simp only [Int.natCast_zero] at g
   rw [g,rf,fi hk (fun _=>(f0.bD m).isIn hk) (ft.r13 q)]
   rfl
  ·rw [beq_false_of_ne j,n3,if_neg j];rfl
 ·rw [h,show decide ((0:Int)>=0)=true from rfl,ae,if_pos rfl]
  have:p5 .i64 (1+0)=((1:Nat):Int):=rfl
  grind
 ·rw [h,show decide ((1:Int)>=0)=true from rfl,ae,if_neg (by decide),if_pos rfl]
  have:p5 .i64 (1+1)=((2:Nat):Int):=rfl
  grind
def Sg (t:Tm):Tm×Bool:=
 if NX t.r= -1 then (pX,false) else if t.k=21 then (dS 20 [],true) else if NX t.r=0 then (dS 24 [],true) else (dS 25 [],true)
theorem aC7 (hk:F3 k) (t:Tm) (I:Tm×Bool->OS S):bA k t I=I (Sg t):=by
 simp only [bA,ag hk.fu,azS,zc]
 unfold Sg
 rcases aAY t.r with h|h|h
 ·rw [h,show decide ((-1:Int)<0)=true from rfl,ae,if_pos rfl];rfl
 ·rw [h,show decide ((0:Int)<0)=false from rfl,n3,if_neg (by decide)]
  by_cases j:t.k=21
  ·rw [j,show ((21:Int)==21)=true from rfl,ae,if_pos rfl];rfl
  ·rw [beq_false_of_ne j,n3,if_neg j,show ((0:Int)==0)=true from rfl,ae,if_pos rfl];rfl
 ·rw [h,show decide ((1:Int)<0)=false from rfl,n3,if_neg (by decide)]
  by_cases j:t.k=21
  ·rw [j,show ((21:Int)==21)=true from rfl,ae,if_pos rfl];rfl
  ·rw [beq_false_of_ne j,n3,if_neg j,show ((1:Int)==0)=false from rfl,n3,if_neg (by decide)];rfl
def S3 (t:Tm):Tm×Bool:=
 if (SY t).k=20 then (LA t,true) else if (SY t).k=21 then (pap (SY t).r (kd2 t) (LA t) (LA t),true) else (pX,false)
theorem aHW (hk:F3 k) {t:Tm} (ft:Fm t) (j:t.k=22) (I:Tm×Bool->OS S):d' k t I=I (S3 t):=by
 have hl:=E5 ft j (n:=4) rfl
 obtain ⟨g1,_⟩:=zh hl (i:=1) (by omega)
 obtain ⟨g2,_⟩:=zh hl (i:=2) (by omega)
 obtain ⟨g3,_⟩:=zh hl (i:=3) (by omega)
 have g1:af t.c 1=some (LA t):=g1
 have g2:af t.c 2=some (kd2 t):=g2
 have g3:af t.c 3=some (SY t):=g3
 simp only [d',ag hk.fu,ar,g1,g2,g3,rf,tO]
 unfold S3
 by_cases h:(SY t).k=20
 ·grind [ae]
 rw [beq_false_of_ne h,n3,if_neg h]
 by_cases h:(SY t).k=21
 ·grind [ae]
 rw [beq_false_of_ne h,n3,if_neg h];rfl
def Sw (t:Tm):Tm×Bool:=
 if (M4 t).k=24 then (LA t,true) else if (M4 t).k=25 then (kd2 t,true) else
 if (M4 t).k=26 then (pap (M4 t).r (dS 6 [SY t,kd0 (M4 t)]) (LA t) (kd2 t),true) else (pX,false)
theorem aHZ (hk:F3 k) {t:Tm} (ft:Fm t) (j:t.k=27) (I:Tm×Bool->OS S):D3 k t I=I (Sw t):=by
 have hl:=E5 ft j (n:=5) rfl
 obtain ⟨g1,_⟩:=zh hl (i:=1) (by omega)
 obtain ⟨g2,_⟩:=zh hl (i:=2) (by omega)
 obtain ⟨g3,_⟩:=zh hl (i:=3) (by omega)
 obtain ⟨g4,m4⟩:=zh hl (i:=4) (by omega)
 have g1:af t.c 1=some (LA t):=g1
 have g2:af t.c 2=some (kd2 t):=g2
 have g3:af t.c 3=some (SY t):=g3
 have g4:af t.c 4=some (M4 t):=g4
 simp only [D3,ag hk.fu,ar,g1,g2,g3,g4,rf,tO,zc]
 unfold Sw
 by_cases h:(M4 t).k=24
 ·grind [ae]
 rw [beq_false_of_ne h,n3,if_neg h]
 by_cases h:(M4 t).k=25
 ·grind [ae]
 rw [beq_false_of_ne h,n3,if_neg h]
 by_cases h:(M4 t).k=26
 ·have q:=E5 (ft.bD m4) h (n:=1) rfl
  obtain ⟨g,_⟩:=zh q (i:=0) (by omega)
  have g:af (M4 t).c 0=some (kd0 (M4 t)):=g
  rw [h,show ((26:Int)==26)=true from rfl,ae,if_pos rfl,g,rf];rfl
 rw [beq_false_of_ne h,n3,if_neg h];rfl
end
end Go.Proofs.YtgmmefmmnakbpaaGreatDoor
