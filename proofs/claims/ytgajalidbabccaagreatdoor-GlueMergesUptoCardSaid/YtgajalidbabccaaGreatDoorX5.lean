/- hypercubelaw18.GlueMerges returns true for every term: a glued system merged is as the document has it; the card with an upper bound of the input's bulk. -/
import Derived.Test.YtgajalidbabccaaGreatDoorX4
import Derived.KernelRfl
open Bool renaming and_eq_true→aF,not_eq_true'→kn,not_false→dQ,not_true→cF,true_and→hX
open ByteArray renaming empty→av
open Eq renaming trans→aj
open Go.IntKind renaming wrap→ag
open Int renaming toNat_natCast→gb
open List renaming all_eq_true→dI,append_assoc→gZ,append_nil→eU,length_append→it,length_cons→dD,length_nil→iV,map_cons→fG,mem_append→dk,mem_cons→d7,nil_append→eo
open Nat renaming eq_of_testBit_eq→h8,le_refl→dv,le_trans→gf,mul_le_mul_right→jl
open Option renaming bind→af,bind_some→aI
set_option linter.unusedVariables false
set_option linter.unusedSimpArgs false
namespace Go.Proofs.YtgajalidbabccaaGreatDoor
open Go PI
set_option maxRecDepth 20000
variable {S:Type} {k:Nat}
def pE {α:Type}:Except Int α->Pan Int α
 | .ok a=> .ok a
 | .error e=> .pan e
def eE {α β:Type} (x:Except Int α) (f:α->β) (g:Int->β):β:=match x with
 | .ok a=>f a
 | .error e=>g e
theorem p5 {α β:Type} (x:Except Int α) (f:α->β) (g:Int->β):Pan.elim (pE x) f g=eE x f g:=by cases x<;>rfl
theorem bV {α β γ:Type} (x:Except Int α) (f:α->Except Int β) (u:β->γ) (w:Int->γ):eE (bE x f) u w=eE x (fun a=>eE (f a) u w) w:=by cases x<;>rfl
theorem cj {α β:Type} (a:α) (f:α->β) (g:Int->β):eE (.ok a) f g=f a:=rfl
theorem ajQ {α:Type} (x:Except Int α) (Y:Pan Int α->OS S):Y (pE x)=eE x (fun a=>Y (.ok a)) fun e=>Y (.pan e):=by cases x<;>rfl
def aD:Tm:= .mk 0 0 av [] [] []
def dw (e:Int):Tm:= .mk (-e) 0 av [] [] []
def rE:Except Int Tm->Tm
 | .ok t=>t
 | .error e=>dw e
def tE:Except Int Tm->Tm×Int
 | .ok t=>(t,0)
 | .error e=>(aD,e)
theorem pi (x:Except Int Tm) (Y:Tm->OS S):Y (rE x)=eE x Y fun e=>Y (dw e):=by cases x<;>rfl
theorem eJ {α β:Type} {x:Except Int α} {f f':α->β} {g g':Int->β} (h: ∀a,x= .ok a->f a=f' a) (h': ∀e,x= .error e->g e=g' e):eE x f g=eE x f' g':=by
 cases x with
 |ok a=>exact h a rfl
 |error e=>exact h' e rfl
theorem TC (hk:Fu k) {a b d:Int} {f:LC} (hf:aw f) (hl:f.length<1073741824) (hd:aQ d) (hb:aQ b) (Y:Pan Int (LC)->OS S):wa k a b f d Y=Y (pE (eR d b f)):=by
 simp only [wa,ap hk,yu hk hf hl hd hb,dx,bS,bA (show 0+f.length<=1099511627776 by omega)]
 unfold eR
 by_cases h0:b=0
 ·rw [if_pos h0,if_pos (.inl h0)];rfl
 ·rw [if_neg h0]
  by_cases h1:d>=24
  ·rw [if_pos h1,if_pos (.inr h1)];rfl
  ·rw [if_neg h1,if_neg (show ¬ (b=0\/d>=24) by omega)]
   by_cases h2:(di f d b).2=0
   ·rw [decide_eq_true h2,mC h2];rfl
   ·rw [decide_eq_false h2,lO h2];rfl
theorem TE (hk:Fu k) {b d:Int} {f:LC} (hf:RF f) (hd:0<=d/\d<9223372036854775808) (hb:0<=b/\b<9223372036854775808) (Y:LC×Int->OS S): ∃z:LC×Int,eT z=eR d b f/\wn k f d b Y=Y z:=by
 have hl:=hf.len
 simp only [wn,ap hk,Di hk hf.2 (show f.length<1073741824 by omega) (show aQ d by unfold aQ;omega) (show aQ b by unfold aQ;omega),tJ,bS]
 by_cases h0:f.length=0
 ·refine ⟨([],0), ?_,by grind⟩
  have:=List.length_eq_zero_iff.1 h0
  subst this
  rw [Dd];rfl
 ·refine ⟨di f d b, ?_,by grind⟩
  unfold eR
  split
  ·next h=>rw [ahh hf hd.1 hb.1 h];rfl
  ·rfl
section
variable {hd:Int->Int->Tm->Int->Int->(Pan Int Tm->OS S)->OS S} {vb db v d:Int} {t:Tm}
theorem aga (hk:Fu k) (Y:Pan Int Tm->OS S) (rec2:LB->Int->Int->OS S) {r12 r2:LC} {b1 v90:Int} {ks:LT} {o:LB} {x:Br Tm} {more:Int} (hm:more=aM t.kind)
  (hd0:0<=d/\d<4611686018427387904) (hQ: ∀y∈x.kids,∀g,hd vb db y v (d+more) g=g (pE (dy vb db v (d+more) y))) (hl:x.kids.length<1073741824) (ho:o.length<1073741824):
  ∀ (r p:LT) (m:Nat) (acc:LT),x.kids=p++r->r.length<m->acc.length=p.length->
  oP hd k Y rec2 r12 vb db t b1 r2 ks o x more v d v90 m acc (p.length:Int)=eE (gT vb db v d t.kind r) (fun l=>rec2 (o++[⟨r12,acc++l⟩]) more (ag .i64 (v90+1))) fun e=>Y (.pan e):=by
 subst hm
 have hmo:=iJ t.kind
 intro r
 induction r with
 |nil=>
  grind [aq,oP,zl,al,gT,cj,bA]
 |cons y r ih=>
  intro p m acc h hm ha
  obtain ⟨m,rfl,hm'⟩:=aq hm
  obtain ⟨e1,e2,e3,e4⟩:=aK h (by omega)
  have hpl:p.length<x.kids.length:=by grind
  have hy:=hQ y (by grind)
  simp only [oP,zl,e1,ao,e2,aI,aJ,dz (n:=d+aM t.kind) (by omega) (by omega),hy,p5,gT,bV,cj]
  refine eJ (fun t' ht'=> ?_) fun e _=>rfl
  rw [bA (by grind),e3,ih (p++[y]) m (acc++[t']) e4 hm' (by grind)]
  simp
theorem af_ (hk:Fu k) (Y:Pan Int Tm->OS S) {r2:LC} {b1:Int} {ks:LT} {more:Int} (hm:more=aM t.kind) (ht:OkT t) (hdb:aQ db) (hd0:0<=d/\d<4611686018427387904)
  (hQ: ∀b∈t.sys,∀y∈b.kids,∀g,hd vb db y v (d+more) g=g (pE (dy vb db v (d+more) y))):
  ∀ (r p:LB) (m:Nat) (o:LB),t.sys=p++r->r.length<m->o.length=p.length->
  ln hd k Y vb db t b1 r2 ks v d m o more (p.length:Int)=eE (g8 vb db v d t.kind r) (fun l=>Y (.ok (.mk t.kind b1 t.name r2 ks (o++l)))) fun e=>Y (.pan e):=by
 obtain ⟨o1,o2,o3,o4,o5,o6,o7⟩:=ht.no
 intro r
 induction r with
 |nil=>
  grind [aq,ln,uY,al,g8,cj]
 |cons x r ih=>
  intro p m o h hml ho
  obtain ⟨m,rfl,hm'⟩:=aq hml
  obtain ⟨e1,e2,e3,e4⟩:=aK h (by omega)
  have hx:x∈t.sys:=by grind
  have hpl:p.length<t.sys.length:=by grind
  have hb:=(ht.bi hx).1
  have hrow:=TC (S:=S) hk (a:=vb) hb.1 hb.2.1 (show aQ d by unfold aQ;omega) hdb
  have:=fun r12=>aga hk Y (ln hd k Y vb db t b1 r2 ks v d m) (r12:=r12) (r2:=r2) (b1:=b1) (v90:=(p.length:Int)) (ks:=ks) (o:=o) hm hd0 (hQ x hx) hb.2.2 (by omega) x.kids [] k [] rfl (by omega) rfl
  have this: ∀r12,oP hd k Y (ln hd k Y vb db t b1 r2 ks v d m) r12 vb db t b1 r2 ks o x more v d (p.length:Int) k [] 0=_:=this
  have hB:xg vb db v d t.kind x=bE (eR d db x.face) fun f'=>bE (gT vb db v d t.kind x.kids) fun ks'=> .ok (.mk f' ks'):=by cases x;rfl
  simp only [ln,uY,e1,ao,e2,aI,ap hk,hrow,p5,this,g8,hB,bV,cj,eo,e3]
  refine eJ (fun f' _=>eJ (fun ks' _=> ?_) fun e _=>rfl) fun e _=>rfl
  rw [ih (p++[x]) m (o++[Br.mk f' ks']) e4 hm' (by grind)]
  simp
theorem af9 (hk:Fu k) (Y:Pan Int Tm->OS S) {r2:LC} {b1:Int} (ht:OkT t) (hdb:aQ db) (hd0:0<=d/\d<4611686018427387904) (hv0:0<=v/\v<4611686018427387904)
  (hQ: ∀y∈t.kids,∀a b,0<=a/\a<=1->0<=b/\b<=1-> ∀g,hd vb db y (v+a) (d+b) g=g (pE (dy vb db (v+a) (d+b) y))) (hQ': ∀b∈t.sys,∀y∈b.kids,∀g,hd vb db y v (d+aM t.kind) g=g (pE (dy vb db v (d+aM t.kind) y))):
  ∀ (r p:LT) (m:Nat) (acc:LT),t.kids=p++r->r.length<m->acc.length=p.length->
  m9 hd k Y vb db t b1 r2 v d m acc (p.length:Int)=eE (g7 vb db v d t.kind p.length r) (fun l=>eE (g8 vb db v d t.kind t.sys) (fun s=>Y (.ok (.mk t.kind b1 t.name r2 (acc++l) s))) fun e=>Y (.pan e)) fun e=>Y (.pan e):=by
 obtain ⟨o1,o2,o3,o4,o5,o6,o7⟩:=ht.no
 intro r
 induction r with
 |nil=>
  intro p m acc h hm ha
  obtain ⟨m,rfl,hm'⟩:=aq hm
  have hs:ln hd k Y vb db t b1 r2 acc v d k [] (aM t.kind) 0=_:=af_ hk Y rfl ht hdb hd0 hQ' t.sys [] k [] rfl (by omega) rfl
  grind [m9,uX,g7,cj,eM,aM]
 |cons y r ih=>
  intro p m acc h hm ha
  obtain ⟨m,rfl,hm'⟩:=aq hm
  obtain ⟨e1,e2,e3,e4⟩:=aK h (by omega)
  have hpl:p.length<t.kids.length:=by grind
  have b1':=vE t.kind p.length
  have b2':=mP t.kind p.length
  have hy:=hQ y (by grind) (fj t.kind p.length) (dR t.kind p.length) b1' b2'
  simp only [m9,uX,e1,ao,e2,aI,ap hk,uk,aJ,dz (n:=v+fj t.kind p.length) (by omega) (by omega),dz (n:=d+dR t.kind p.length) (by omega) (by omega),hy,p5,g7,bV,cj]
  refine eJ (fun t' ht'=> ?_) fun e _=>rfl
  rw [bA (by grind),e3,ih (p++[y]) m (acc++[t']) e4 hm' (by grind),show (p++[y]).length=p.length+1 by simp]
  simp
end
theorem G_ (vb db v d:Int) (t:Tm):dy vb db v d t=if t.kind=1/\t.n>=v/\t.n>1000000000-vb then .error 100 else bE (eR d db t.r) fun r'=>bE (g7 vb db v d t.kind 0 t.kids) fun ks'=>bE (g8 vb db v d t.kind t.sys) fun sys'=> .ok (.mk t.kind (if t.kind=1/\t.n>=v then t.n+vb else t.n) t.name r' ks' sys'):=by cases t;rfl
theorem RowsT.no {t:Tm} (h:RowsT t):RF t.r/\(t.kind=1->t.r=[])/\0<=t.kind:=by cases t;rw [RowsT] at h;exact h.1
theorem RowsT.ki {t x:Tm} (h:RowsT t) (hx:x∈t.kids):RowsT x:=by cases t;rw [RowsT] at h;exact rowsK_iff.1 h.2.1 x hx
theorem RowsT.bi {t:Tm} {b:Br Tm} (h:RowsT t) (hb:b∈t.sys):RF b.face/\ ∀x∈b.kids,RowsT x:=by cases t;rw [RowsT] at h;exact rowsS_iff.1 h.2.2 b hb
def VP (v d:Int) (n:Nat):Prop:=0<=v/\v+n<4611686018427387904/\0<=d/\d+n<4611686018427387904
theorem IP {vb db:Int} (hvb:0<=vb/\vb<=1000000000) (hdb:aQ db) (t:Tm):OkT t->RowsT t-> ∀ {k:Nat} {v d:Int} (Y:Pan Int Tm->OS S),Fd k (ax t)->VP v d (ax t)->gE k vb db t v d Y=Y (pE (dy vb db v d t)):=by
 induction t using il with
 |h t ih1 ih2=>
  intro ht hro k v d Y hk hv
  obtain ⟨q,rfl,hq,hf⟩:=hk.pos' (fq t)
  obtain ⟨q',hq'⟩: ∃q',q=q'+1:=⟨q-1,by omega⟩
  have hp:=fq t
  unfold VP at hv
  obtain ⟨o1,o2,o3,o4,o5,o6,o7⟩:=ht.no
  have hmo:=iJ t.kind
  have hQ: ∀y∈t.kids,∀a b,0<=a/\a<=1->0<=b/\b<=1-> ∀g:Pan Int Tm->OS S,gE q vb db y (v+a) (d+b) g=g (pE (dy vb db (v+a) (d+b) y)):=fun y hy a b h1 h2 g=>
   ih1 y hy (ht.ki hy) (hro.ki hy) g (hf _ (eN hy)) (by have:=eN hy;unfold VP;omega)
  have hQ': ∀b∈t.sys,∀y∈b.kids,∀g:Pan Int Tm->OS S,gE q vb db y v (d+aM t.kind) g=g (pE (dy vb db v (d+aM t.kind) y)):=fun b hb y hy g=>
   ih2 b hb y hy ((ht.bi hb).2 y hy) ((hro.bi hb).2 y hy) g (hf _ (eX hb hy)) (by have:=eX hb hy;unfold VP;omega)
  have h1:=fun r2 b1=>af9 (r2:=r2) (b1:=b1) hq Y ht hdb (show 0<=d/\d<4611686018427387904 by omega) (show 0<=v/\v<4611686018427387904 by omega) hQ hQ' t.kids [] q [] rfl (by omega) rfl
  have h0: ∀r2 b1,w_ (gE q) q Y vb db t r2 v d q b1=m9 (gE q) q Y vb db t b1 r2 v d q [] 0:=by
   intro r2 b1
   have: ∀j,j=q'+1->w_ (gE q) q Y vb db t r2 v d j b1=m9 (gE q) q Y vb db t b1 r2 v d q [] 0:=by rintro j rfl;rfl
   grind
  have h2: ∀r2 b1,w_ (gE q) q Y vb db t r2 v d q b1=_:=fun r2 b1=>(h0 r2 b1).trans (h1 r2 b1)
  have hrow:=TC (S:=S) hq (a:=vb) o4 o5 (show aQ d by unfold aQ;omega) hdb
  simp only [gE,Ju,ap hq,hrow,p5,h2,iV,eo]
  rw [ajQ _ Y,G_]
  unfold aQ at o2
  by_cases hc:t.kind=1
  ·have hr:=hro.no.2.1 hc
   rw [hr,Dd,cj,hc,show ((1:Int)==1)=true from rfl,ao,bS]
   by_cases hn:t.n>=v
   ·rw [if_pos hn,dz (n:=1000000000-vb) (by omega) (by omega),bS]
    by_cases hb:t.n>1000000000-vb
    ·rw [if_pos hb,if_pos (show (1:Int)=1/\t.n>=v/\t.n>1000000000-vb from ⟨rfl,hn,hb⟩)];rfl
    grind [bV,dz,cj]
   grind [bV,cj]
  ·have hc':(t.kind==1)=false:=by grind
   rw [hc',if_neg (show ¬ (t.kind=1/\t.n>=v/\t.n>1000000000-vb) from fun h=>hc h.1)]
   simp_all [al,bV,cj]
theorem nL {e:Int} (he:0<e/\e<=1000) (Y:Int×Int×BA->OS S):iC k e Y=Y (-e,0,av):=by
 grind [iC,dz]
theorem ml {e:Int} (he:0<e):decide ((dw e).kind<0)=true:=decide_eq_true (show-e<0 by omega)
section
variable {hd:Tm->Int->Int->Int->Int->(Tm->OS S)->OS S} {vb db v d:Int} {t:Tm}
theorem xZ {x:Except Int Tm} (hx: ∀e,x= .error e->0<e) (hx': ∀y,x= .ok y->0<=y.kind) (f:Tm->OS S) (Y:Tm->OS S):
  (fun r:Tm=>ac (decide (r.kind<0)) (Y r) (f r)) (rE x)=eE x f fun e=>Y (dw e):=by
 cases x with
 |error e=>show ac _ _ _=_;rw [show rE (.error e)=dw e from rfl,ml (hx e rfl),ao];rfl
 |ok y=>show ac _ _ _=_;rw [show rE (.ok y)=y from rfl,decide_eq_false (by grind),al];rfl
theorem qE {vb db v d:Int} {x y:Tm} (h:dy vb db v d x= .ok y):y.kind=x.kind:=by
 rw [G_] at h
 split at h
 ·cases h
 ·obtain ⟨_,_,h⟩:=bH h
  obtain ⟨_,_,h⟩:=bH h
  obtain ⟨_,_,h⟩:=bH h
  injection h with h;subst h;rfl
theorem agL (hk:Fu k) (Y:Tm->OS S) (rec2:LB->Int->OS S) {r9 r2:LC×Int} {b1 i18:Int} {ks:LT} {o:LB} {x:Br Tm} (hi:ak t.sys i18=some x)
  (hd0:0<=d/\d<4611686018427387904) (hQ: ∀y∈x.kids,∀g,hd y v vb (d+aM t.kind) db g=g (rE (dy vb db v (d+aM t.kind) y))) (hkd: ∀y∈x.kids,0<=y.kind) (hl:x.kids.length<1073741824) (ho:o.length<1073741824):
  ∀ (r p:LT) (m:Nat) (acc:LT),x.kids=p++r->r.length<m->acc.length=p.length->
  mn hd k Y rec2 t b1 r2 ks o r9 v i18 vb d db m acc (p.length:Int)=eE (gT vb db v d t.kind r) (fun l=>rec2 (o++[⟨r9.1,acc++l⟩]) (ag .i64 (i18+1))) fun e=>Y (dw e):=by
 have hmo:=iJ t.kind
 intro r
 induction r with
 |nil=>
  grind [aq,mn,zQ,al,gT,cj,bA]
 |cons y r ih=>
  intro p m acc h hm ha
  obtain ⟨m,rfl,hm'⟩:=aq hm
  obtain ⟨e1,e2,e3,e4⟩:=aK h (by omega)
  have hpl:p.length<x.kids.length:=by grind
  have hym:y∈x.kids:=by grind
  have hy:=hQ y hym
  simp only [mn,zQ,hi,e1,ao,e2,aI,ap hk,IT,aJ,dz (n:=d+aM t.kind) (by omega) (by omega),hy]
  refine aj (xZ (fun e he=>(nw y he).1) (fun z hz=>by grind [qE]) (fun z=>af (aE 1099511627776 acc.length [z].length) fun _=>mn hd k Y rec2 t b1 r2 ks o r9 v i18 vb d db m (acc++[z]) (ag .i64 ((p.length:Int)+1))) Y) ?_
  simp only [gT,bV,cj]
  refine eJ (fun t' ht'=> ?_) fun e _=>rfl
  rw [bA (by grind),e3,ih (p++[y]) m (acc++[t']) e4 hm' (by grind)]
  simp
theorem yE {z:LC×Int} {α:Type} (f:LC->α) (g:Int->α):ac (!(z.2==0)) (g z.2) (f z.1)=eE (eT z) f g:=by
 rw [dx]
 unfold eT
 by_cases h:z.2=0
 ·rw [decide_eq_true h,if_pos h];rfl
 ·rw [decide_eq_false h,if_neg h];rfl
theorem agK (hk:Fu k) (Y:Tm->OS S) {r2:LC×Int} {b1:Int} {ks:LT} (ht:OkT t) (hro:RowsT t) (hdb:0<=db/\db<9223372036854775808) (hd0:0<=d/\d<4611686018427387904)
  (hQ: ∀b∈t.sys,∀y∈b.kids,∀g,hd y v vb (d+aM t.kind) db g=g (rE (dy vb db v (d+aM t.kind) y))):
  ∀ (r p:LB) (m:Nat) (o:LB),t.sys=p++r->r.length<m->o.length=p.length->
  jb hd k Y t b1 r2 ks v vb d db m o (p.length:Int)=eE (g8 vb db v d t.kind r) (fun l=>Y (.mk t.kind b1 t.name r2.1 ks (o++l))) fun e=>Y (dw e):=by
 obtain ⟨o1,o2,o3,o4,o5,o6,o7⟩:=ht.no
 intro r
 induction r with
 |nil=>
  grind [aq,jb,vo,al,g8,cj]
 |cons x r ih=>
  intro p m o h hml ho
  obtain ⟨m,rfl,hm'⟩:=aq hml
  obtain ⟨e1,e2,e3,e4⟩:=aK h (by omega)
  have hx:x∈t.sys:=by grind
  have hpl:p.length<t.sys.length:=by grind
  have hb:=(ht.bi hx).1
  obtain ⟨z,hz,hrow⟩:=TE (S:=S) hk (hro.bi hx).1 (show 0<=d/\d<9223372036854775808 by omega) hdb (fun r9=>ac (!(r9.2==0)) (iC k r9.2 fun r10=>Y (Tm.mk r10.1 r10.2.1 r10.2.2 [] [] []))
   (mn hd k Y (jb hd k Y t b1 r2 ks v vb d db m) t b1 r2 ks o r9 v (p.length:Int) vb d db k [] 0))
  have:=agL (r9:=z) (r2:=r2) (b1:=b1) (ks:=ks) (o:=o) hk Y (jb hd k Y t b1 r2 ks v vb d db m) e2 hd0 (hQ x hx) (fun y hy=>((hro.bi hx).2 y hy).no.2.2) hb.2.2 (by omega) x.kids [] k [] rfl (by omega) rfl
  have this:mn hd k Y (jb hd k Y t b1 r2 ks v vb d db m) t b1 r2 ks o z v (p.length:Int) vb d db k [] 0=_:=this
  have hB:xg vb db v d t.kind x=bE (eR d db x.face) fun f'=>bE (gT vb db v d t.kind x.kids) fun ks'=> .ok (.mk f' ks'):=by cases x;rfl
  simp only [jb,vo,e1,ao,e2,aI,ap hk,hrow,this,g8,hB,bV,cj,eo,e3]
  have hbad:ac (!(z.2==0)) (iC k z.2 fun r10=>Y (Tm.mk r10.1 r10.2.1 r10.2.2 [] [] [])) (eE (gT vb db v d t.kind x.kids) (fun l=>jb hd k Y t b1 r2 ks v vb d db m (o++[Br.mk z.1 l]) (((p++[x]).length:Nat):Int)) fun e=>Y (dw e))
    =ac (!(z.2==0)) (Y (dw z.2)) (eE (gT vb db v d t.kind x.kids) (fun l=>jb hd k Y t b1 r2 ks v vb d db m (o++[Br.mk z.1 l]) (((p++[x]).length:Nat):Int)) fun e=>Y (dw e)):=by
   by_cases h0:z.2=0
   ·rw [h0];rfl
   ·have hze:eT z= .error z.2:=lO h0
    rw [hz] at hze
    rw [nL (Dc hze)];rfl
  rw [hbad,yE (z:=z) (fun f'=>eE (gT vb db v d t.kind x.kids) (fun l=>jb hd k Y t b1 r2 ks v vb d db m (o++[Br.mk f' l]) (((p++[x]).length:Nat):Int)) fun e=>Y (dw e)) (fun e=>Y (dw e)),hz]
  refine eJ (fun f' _=>eJ (fun ks' _=> ?_) fun e _=>rfl) fun e _=>rfl
  grind
theorem agJ (hk:Fu k) (Y:Tm->OS S) {r2:LC×Int} {b1:Int} (ht:OkT t) (hro:RowsT t) (hdb:0<=db/\db<9223372036854775808) (hd0:0<=d/\d<4611686018427387904) (hv0:0<=v/\v<4611686018427387904)
  (hQ: ∀y∈t.kids,∀a b,0<=a/\a<=1->0<=b/\b<=1-> ∀g,hd y (v+a) vb (d+b) db g=g (rE (dy vb db (v+a) (d+b) y))) (hQ': ∀b∈t.sys,∀y∈b.kids,∀g,hd y v vb (d+aM t.kind) db g=g (rE (dy vb db v (d+aM t.kind) y))):
  ∀ (r p:LT) (m:Nat) (acc:LT),t.kids=p++r->r.length<m->acc.length=p.length->
  lr hd k Y t b1 r2 v vb d db m acc (p.length:Int)=eE (g7 vb db v d t.kind p.length r) (fun l=>eE (g8 vb db v d t.kind t.sys) (fun s=>Y (.mk t.kind b1 t.name r2.1 (acc++l) s)) fun e=>Y (dw e)) fun e=>Y (dw e):=by
 obtain ⟨o1,o2,o3,o4,o5,o6,o7⟩:=ht.no
 intro r
 induction r with
 |nil=>
  intro p m acc h hm ha
  obtain ⟨m,rfl,hm'⟩:=aq hm
  have hs:jb hd k Y t b1 r2 acc v vb d db k [] 0=_:=agK hk Y ht hro hdb hd0 hQ' t.sys [] k [] rfl (by omega) rfl
  grind [lr,vn,al,g7,cj]
 |cons y r ih=>
  intro p m acc h hm ha
  obtain ⟨m,rfl,hm'⟩:=aq hm
  obtain ⟨e1,e2,e3,e4⟩:=aK h (by omega)
  have hpl:p.length<t.kids.length:=by grind
  have b1':=vE t.kind p.length
  have b2':=mP t.kind p.length
  have hym:y∈t.kids:=by grind
  have hy:=hQ y hym (fj t.kind p.length) (dR t.kind p.length) b1' b2'
  simp only [lr,vn,e1,ao,e2,aI,ap hk,IS hk,aJ,dz (n:=v+fj t.kind p.length) (by omega) (by omega),dz (n:=d+dR t.kind p.length) (by omega) (by omega),hy]
  refine aj (xZ (fun e he=>(nw y he).1) (fun z hz=>by rw [qE hz];exact (hro.ki hym).no.2.2) (fun z=>af (aE 1099511627776 acc.length [z].length) fun _=>lr hd k Y t b1 r2 v vb d db m (acc++[z]) (ag .i64 ((p.length:Int)+1))) Y) ?_
  simp only [g7,bV,cj]
  refine eJ (fun t' ht'=> ?_) fun e _=>rfl
  rw [bA (by grind),e3,ih (p++[y]) m (acc++[t']) e4 hm' (by grind),show (p++[y]).length=p.length+1 by simp]
  simp
end
theorem IW {vb db:Int} (hvb:0<=vb/\vb<=1000000000) (hdb:0<=db/\db<9223372036854775808) (t:Tm):OkT t->RowsT t-> ∀ {k:Nat} {v d:Int} (Y:Tm->OS S),Fd k (ax t)->VP v d (ax t)->fm k t v vb d db Y=Y (rE (dy vb db v d t)):=by
 induction t using il with
 |h t ih1 ih2=>
  intro ht hro k v d Y hk hv
  obtain ⟨q,rfl,hq,hf⟩:=hk.pos' (fq t)
  obtain ⟨q',hq'⟩: ∃q',q=q'+1:=⟨q-1,by omega⟩
  have hp:=fq t
  unfold VP at hv
  obtain ⟨o1,o2,o3,o4,o5,o6,o7⟩:=ht.no
  have hmo:=iJ t.kind
  have hQ: ∀y∈t.kids,∀a b,0<=a/\a<=1->0<=b/\b<=1-> ∀g:Tm->OS S,fm q y (v+a) vb (d+b) db g=g (rE (dy vb db (v+a) (d+b) y)):=fun y hy a b h1 h2 g=>
   ih1 y hy (ht.ki hy) (hro.ki hy) g (hf _ (eN hy)) (by have:=eN hy;unfold VP;omega)
  have hQ': ∀b∈t.sys,∀y∈b.kids,∀g:Tm->OS S,fm q y v vb (d+aM t.kind) db g=g (rE (dy vb db v (d+aM t.kind) y)):=fun b hb y hy g=>
   ih2 b hb y hy ((ht.bi hb).2 y hy) ((hro.bi hb).2 y hy) g (hf _ (eX hb hy)) (by have:=eX hb hy;unfold VP;omega)
  have h1:=fun r2 b1=>agJ (r2:=r2) (b1:=b1) hq Y ht hro hdb (show 0<=d/\d<4611686018427387904 by omega) (show 0<=v/\v<4611686018427387904 by omega) hQ hQ' t.kids [] q [] rfl (by omega) rfl
  have h1: ∀r2 b1,lr (fm q) q Y t b1 r2 v vb d db q [] 0=_:=h1
  have h0: ∀b1,B6 (fm q) q Y t v vb d db q b1=eE (eR d db t.r) (fun r'=>eE (g7 vb db v d t.kind 0 t.kids) (fun l=>eE (g8 vb db v d t.kind t.sys) (fun s=>Y (.mk t.kind b1 t.name r' l s)) fun e=>Y (dw e)) fun e=>Y (dw e)) fun e=>Y (dw e):=by
   intro b1
   have: ∀j,j=q'+1->B6 (fm q) q Y t v vb d db j b1=vm (fm q) q Y t v vb d db (fun bG r2 b11_4 i14=>lr (fm q) q Y t bG r2 v vb d db q b11_4 i14) b1:=by rintro j rfl;rfl
   rw [this q hq']
   obtain ⟨z,hz,hrow⟩:=TE (S:=S) hq hro.no.1 (show 0<=d/\d<9223372036854775808 by omega) hdb (fun r2=>ac (!(r2.2==0)) (iC q r2.2 fun r3=>Y (Tm.mk r3.1 r3.2.1 r3.2.2 [] [] [])) (lr (fm q) q Y t b1 r2 v vb d db q [] 0))
   simp only [vm,ap hq,hrow]
   rw [h1]
   simp only [eo]
   rw [<-hz]
   by_cases hz0:z.2=0
   ·rw [mC hz0,hz0];rfl
   ·have hze:eT z= .error z.2:=lO hz0
    have hze':=hze
    rw [hz] at hze'
    rw [hze,dx,decide_eq_false hz0,dQ,ao,nL (Dc hze')];rfl
  simp only [fm,JX,ap hq,h0]
  rw [pi _ Y,G_]
  unfold aQ at o2
  by_cases hc:t.kind=1
  ·rw [hc,show ((1:Int)==1)=true from rfl,ao,bS]
   by_cases hn:t.n>=v
   ·rw [if_pos hn,dz (n:=1000000000-vb) (by omega) (by omega),bS]
    by_cases hb:t.n>1000000000-vb
    ·rw [if_pos hb,if_pos (show (1:Int)=1/\t.n>=v/\t.n>1000000000-vb from ⟨rfl,hn,hb⟩),nL (by omega)];rfl
    grind [dz,bV,cj]
   grind [bV,cj]
  ·have hc':(t.kind==1)=false:=by grind
   rw [hc',if_neg (show ¬ (t.kind=1/\t.n>=v/\t.n>1000000000-vb) from fun h=>hc h.1)]
   simp_all [al,bV,cj]
theorem j8 {t:Tm} (h:dn t=0):ax t<=200/\aL t<=20000/\cm false (-1) 24 t=true:=by
 grind [dn]
theorem wS {t:Tm} (h1:ax t<=200) (h2:aL t<=20000) (h3:cm false (-1) 24 t=true):dn t=0:=by
 grind [dn]
theorem Gq (t:Tm):0<=dn t/\dn t<=1000:=by
 grind [dn]
def Fm (t:Tm):Prop:=OkT t/\dn t=0
theorem Fm.ok {t:Tm} (h:Fm t):OkT t:=h.1
theorem Fm.rows {t:Tm} (h:Fm t):RowsT t:=aad t h.1 (j8 h.2).2.2
theorem Fm.dep {t:Tm} (h:Fm t):ax t<=200:=(j8 h.2).1
theorem Fm.siz {t:Tm} (h:Fm t):aL t<=20000:=(j8 h.2).2.1
theorem qD {vb db v d:Int} (hvb:0<=vb/\vb<=1000000000) {t t':Tm} (h:Fm t) (hl:dy vb db v d t= .ok t'):Fm t':=by
 obtain ⟨h1,h2,h3,h4⟩:=Ha hvb.1 hvb.2 t v d t' hl
 obtain ⟨a,b,c⟩:=j8 h.2
 have:=h4 h.1
 exact ⟨this.1,wS (by omega) (by omega) (this.2.2 24 24 (by omega) (by omega) c)⟩
abbrev F3 (k:Nat):Prop:=4294968296<=k
theorem F3.fu (h:F3 k):Fu k:=by omega
theorem F3.fd (h:F3 k) {n:Nat} (hn:n<=1000):Fd k n:=by omega
theorem Fm.fd {t:Tm} (h:Fm t) (hk:F3 k):Fd k (ax t):=hk.fd (by have:=h.dep;omega)
theorem Fm.vp {t:Tm} (h:Fm t) {v d:Int} (hv:0<=v/\v<=4611686018427380000) (hd:0<=d/\d<=4611686018427380000):VP v d (ax t):=by have:=h.dep;unfold VP;omega
theorem mz (x:Except Int Tm) (Y:Tm×Int->OS S):Y (tE x)=eE x (fun t=>Y (t,0)) fun e=>Y (aD,e):=by cases x<;>rfl
theorem af0 (hk:Fu k) (Y:Tm×Int->OS S) {c0 c2:Int} {c1:Tm} {ns:List Int} (hl:ns.length<1000) (hn: ∀x∈ns,0<=x):
  ∀ (r p:List Int) (m:Nat),ns=p++r->r.length<m->qf k Y c0 c1 c2 ns m (p.length:Int)=AM k c0 c1 c2 fun r4=>Pan.elim r4 (fun r4=>Y (r4,0)) fun e5=>Y (aD,e5):=by
 intro r
 induction r with
 |nil=>
  intro p m h hm
  obtain ⟨m,rfl,hm'⟩:=aq hm
  simp only [qf,zj,d2 h,al,ap hk,aJ];rfl
 |cons x r ih=>
  intro p m h hm
  obtain ⟨m,rfl,hm'⟩:=aq hm
  obtain ⟨e1,e2,e3,e4⟩:=aK h (by omega)
  have hx:=hn x (by grind)
  grind [qf,zj,bS]
theorem akJ (hk:F3 k) {t:Tm} (ht:Fm t) {f b:Int} (hf:0<=f/\f<=24) (hb:0<=b/\b<9223372036854775808) (Y:Tm×Int->OS S):AL k t f b Y=Y (tE (dy 0 b 0 f t)):=by
 have hl:=af0 hk.fu Y (c0:=b) (c2:=f) (c1:=t) (ns:=[f,b]) (by simp) (by grind) [f,b] [] k rfl (by grind)
 have hl:qf k Y b t f [f,b] k 0=_:=hl
 simp only [AL,ap hk.fu,aJ,FM,Jt,pk ht.ok (ht.fd hk) (show ax t<1099511627776 by have:=ht.dep;omega),ht.2,hl,AM]
 rw [show ((0:Int)==0)=true from rfl,cF,al,if_neg (by omega),IP (by omega) (by unfold aQ;omega) t ht.ok ht.rows _ (ht.fd hk) (ht.vp (by omega) (by omega)),p5,mz _ Y]
 rfl
theorem akT (hk:F3 k) {t:Tm} (ht:Fm t) {f b:Int} (hf:0<=f/\f<=24) (hb:0<=b/\b<9223372036854775808) (Y:Tm×Int->OS S):A2 k t f b Y=Y (tE (dy 0 b 0 f t)):=by
 simp only [A2,ap hk.fu,aJ,FP,Dl ht.ok (ht.fd hk) (show aL t<1099511627776 by have:=ht.siz;omega),ht.2,bS]
 rw [show ((0:Int)==0)=true from rfl,ao,if_neg (by omega),if_neg (by omega)]
 rw [cF,al,if_neg (by omega),IW (by omega) (by omega) t ht.ok ht.rows _ (ht.fd hk) (ht.vp (by omega) (by omega))]
 simp only [A3]
 cases hx:dy 0 b 0 f t with
 |ok y=>
  rw [show rE (.ok y)=y from rfl,decide_eq_false (by have:=qE hx;have:=ht.rows.no.2.2;omega),al]
  simp only [aJ];rfl
 |error e=>
  have he:=nw t hx
  rw [show rE (.error e)=dw e from rfl,ml he.1,ao,dz (show-9223372036854775808<=0-(dw e).kind by show _<=0-(-e);omega) (by show 0-(-e)<_;omega)]
  show Y (aD,0-(-e))=Y (aD,e)
  simp
def bQ (vb db:Int) (t:Tm):Except Int Tm:=bE (dy vb 0 0 0 t) (dy 0 db 0 0)
theorem mG {vb db:Int} (hvb:0<=vb/\vb<=1000000000) {t t':Tm} (h:Fm t) (hl:bQ vb db t= .ok t'):Fm t':=by
 obtain ⟨a,h1,h2⟩:=bH hl
 exact qD (by omega) (qD hvb h h1) h2
theorem iO {vb db:Int} {t:Tm} {e:Int} (h:bQ vb db t= .error e):0<e/\e<=1000:=by
 rcases dl h with h|⟨a,_,h⟩
 ·exact nw t h
 ·exact nw a h
theorem af1 (hk:Fu k) (Y:Tm×Int->OS S) {c0 c1:Int} {c2:Tm} {ns:List Int} (hl:ns.length<1000) (hn: ∀x∈ns,0<=x):
  ∀ (r p:List Int) (m:Nat),ns=p++r->r.length<m->qh k Y c0 c1 c2 ns m (p.length:Int)=AJ k c0 c1 c2 fun r4=>Pan.elim r4 (fun r4=>Y (r4,0)) fun e5=>Y (aD,e5):=by
 intro r
 induction r with
 |nil=>
  intro p m h hm
  obtain ⟨m,rfl,hm'⟩:=aq hm
  simp only [qh,zk,d2 h,al,ap hk,aJ];rfl
 |cons x r ih=>
  intro p m h hm
  obtain ⟨m,rfl,hm'⟩:=aq hm
  obtain ⟨e1,e2,e3,e4⟩:=aK h (by omega)
  have hx:=hn x (by grind)
  grind [qh,zk,bS]
theorem Tx (hk:F3 k) {t:Tm} (ht:Fm t) {vb db:Int} (hvb:0<=vb/\vb<=1000000) (hdb:0<=db/\db<9223372036854775808) (Y:Tm×Int->OS S):pS k t vb db Y=Y (tE (bQ vb db t)):=by
 have hl:=af1 hk.fu Y (c0:=db) (c1:=vb) (c2:=t) (ns:=[vb,db,1000000-vb]) (by simp) (by grind) [vb,db,1000000-vb] [] k rfl (by grind)
 have hl:qh k Y db vb t [vb,db,1000000-vb] k 0=_:=hl
 simp only [pS,ap hk.fu,aJ,dz (n:=1000000-vb) (by omega) (by omega),AN,Dz,pk ht.ok (ht.fd hk) (show ax t<1099511627776 by have:=ht.dep;omega),ht.2,hl,AJ]
 rw [show ((0:Int)==0)=true from rfl,cF,al,IP (show 0<=vb/\vb<=1000000000 by omega) (show aQ 0 by unfold aQ;omega) t ht.ok ht.rows _ (ht.fd hk) (ht.vp (by omega) (by omega)),p5,mz _ Y]
 unfold bQ
 rw [bV]
 refine eJ (fun y hy=> ?_) fun _ _=>rfl
 have hy':=qD (show 0<=vb/\vb<=1000000000 by omega) ht hy
 rw [IP (show (0:Int)<=0/\(0:Int)<=1000000000 by omega) (show aQ db by unfold aQ;omega) y hy'.ok hy'.rows _ (hy'.fd hk) (hy'.vp (by omega) (by omega)),p5]
 rfl
theorem pm (hk:F3 k) {t:Tm} (ht:Fm t) {vb db:Int} (hvb:0<=vb/\vb<=1000000000) (hdb:0<=db/\db<9223372036854775808) (Y:Tm->OS S):lc k t vb db Y=Y (rE (bQ vb db t)):=by
 have hkd:=ht.rows.no.2.2
 simp only [lc,aJ]
 rw [decide_eq_false (by omega),al,IW hvb (by omega) t ht.ok ht.rows _ (ht.fd hk) (ht.vp (by omega) (by omega))]
 refine aj (xZ (x:=dy vb 0 0 0 t) (fun e he=>(nw t he).1) (fun z hz=>by grind [qE]) (fun r1=>fm k r1 0 0 0 db fun r2=>Y r2) Y) ?_
 rw [pi (bQ vb db t) Y]
 unfold bQ
 rw [bV]
 refine eJ (fun y hy=> ?_) fun _ _=>rfl
 have hy':=qD hvb ht hy
 rw [IW (by omega) hdb y hy'.ok hy'.rows _ (hy'.fd hk) (hy'.vp (by omega) (by omega)),pi _ Y]
def ci (i:Int) (r:LC) (fa:Bool):f8:=fun d f=>if dF (lf f) (i+d) then bE (eT (di r 0 d)) fun s=>eT (if fa then lG f (i+d) s else lH f (i+d) s) else .ok f
theorem FX (f:LC):U32 (lf f):=by
 have:=FY f
 exact ⟨Int.natCast_nonneg _,by show ((jr f:Nat):Int)<_;omega⟩
theorem aiS {f r:LC} {i:Int} (hr:aw r) (h:(lH f i r).2=0):RF (lH f i r).1:=by
 grind [lH,MB,PZ,jC,uf]
theorem Hz (f g:LC):EN (fC f g).2:=tH _
theorem GJ (f g:LC):EN (eO f g).2:=tH _
theorem ahG (f g:LC):EN (iH f g).2:=tH _
theorem PF (f:LC):EN (eZ f).2:=BQ fun h c=>Hz _ _
theorem aiI (i:Int) (r:LC) (c:Cl):EN (g_ i r c).2:=by
 grind [g_,Hz,wM]
theorem aiK (i:Int) (r:LC) (c:Cl) (g:LC):EN (jd i r c g).2:=by
 grind [jd,Hz,PF,wM]
theorem aiH (i:Int) (r h:LC) (c:Cl):EN (gV i r h c).2:=by
 grind [gV,GJ,aiK,aiI]
theorem aiR (f:LC) (i:Int) (r:LC):EN (lH f i r).2:=by
 grind [lH,BQ,aiH,oC]
theorem ahZ (f:LC):EN (jz f).2:=by
 unfold jz
 split
 ·exact tH _
 ·exact oC
theorem ah0 (f:LC):EN (kg f).2:=by
 unfold kg
 split
 ·split
  ·exact tH _
  ·exact PF _
 ·exact oC
theorem aiN {i:Int} {c:Cl} {h:LC} {q:LC×Int} (hq:EN q.2):EN (ik i c h q).2:=by
 grind [ik,GJ,ahG]
theorem aiO (f:LC) (i:Int) (r:LC):EN (lG f i r).2:=by
 grind [lG,BQ,eL,aiN,ahZ,ah0,GJ,oC]
theorem ug {i:Int} {r:LC} {fa:Bool} {d:Int} {f g:LC} (hf:RF f) (h:ci i r fa d f= .ok g):RF g:=by
 unfold ci at h
 split at h
 ·obtain ⟨s,h1,h⟩:=bH h
  obtain ⟨h0,rfl⟩:=uy h1
  have hs:=nu h0
  obtain ⟨h2,rfl⟩:=uy h
  cases fa with
  |true=>exact (aiP hf.2 hs.2 h2).1
  |false=>exact aiS hs.2 h2
 grind
theorem De {i:Int} {r:LC} {fa:Bool} {d:Int} {f:LC} {e:Int} (h:ci i r fa d f= .error e):0<e/\e<=1000:=by
 grind [ci,dl,DD,tL,EN,aiO,aiR]
theorem SW {i:Int} {r:LC} {fa:Bool} {d:Int}:ci i r fa d []= .ok []:=by
 grind [ci,dF,lf,gb,Bh,lP]
def gW (i:Int) (r:LC) (fa:Bool) (d:Int) (f:LC):LC×Int:=if dF (lf f) (i+d) then if (di r 0 d).2=0 then if fa then lG f (i+d) (di r 0 d).1 else lH f (i+d) (di r 0 d).1 else ([],(di r 0 d).2) else (f,0)
theorem rj (i:Int) (r:LC) (fa:Bool) (d:Int) (f:LC):eT (gW i r fa d f)=ci i r fa d f:=by
 grind [gW,ci,mC,bh,lO,rp]
section
variable {i d:Int} {r f:LC}
theorem TT (hk:Fu k) (hf:RF f) (hr:RF r) (hi:0<=i/\i<24) (hd:0<=d/\d<4611686018427387000) (Y:LC×Int->OS S):vM k f d i r Y=Y (gW i r true d f):=by
 have l1:=hf.len;have l2:=hr.len
 simp only [vM,ap hk,dz (n:=i+d) (by omega) (by omega),IL hk hf.2 (show f.length<4294967296 by omega),ul hk (FX f),vL,bA (show 0+f.length<=1099511627776 by omega),yu hk hr.2 (show r.length<1073741824 by omega) (show aQ 0 by unfold aQ;omega) (show aQ d by unfold aQ;omega)]
 unfold gW
 cases dF (lf f) (i+d) with
 |false=>rfl
 |true=>
  rw [cF,al,dx,if_pos rfl]
  by_cases h0:(di r 0 d).2=0
  ·have hs:=nu h0
   rw [decide_eq_true h0,cF,al,akB hk hf.2 hs.2 hf.lt hs.lt,if_pos h0,if_pos rfl]
  grind [ao]
theorem alg (hk:Fu k) (hf:RF f) (hr:RF r) (hi:0<=i/\i<24) (hd:0<=d/\d<4611686018427387000) (Y:LC×Int->OS S):Ap k f d i r Y=Y (gW i r false d f):=by
 have l1:=hf.len;have l2:=hr.len
 simp only [Ap,ap hk,dz (n:=i+d) (by omega) (by omega),IL hk hf.2 (show f.length<4294967296 by omega),ul hk (FX f),vL,bA (show 0+f.length<=1099511627776 by omega),yu hk hr.2 (show r.length<1073741824 by omega) (show aQ 0 by unfold aQ;omega) (show aQ d by unfold aQ;omega)]
 unfold gW
 cases dF (lf f) (i+d) with
 |false=>rfl
 |true=>
  rw [cF,al,dx,if_pos rfl]
  by_cases h0:(di r 0 d).2=0
  ·have hs:=nu h0
   rw [decide_eq_true h0,cF,al,aky hk hf.2 hs.2 hf.lt hs.lt,if_pos h0,if_neg (by decide)]
  grind [ao]
theorem TF (hk:Fu k) {fa:Bool} (hf:RF f) (hr:RF r) (hi:0<=i/\i<24) (hd:0<=d/\d<4611686018427387000) (Y:LC×Int->OS S):wt k f fa i r d Y=Y (gW i r fa d f):=by
 have l1:=hf.len;have l2:=hr.len
 simp only [wt,ap hk,dz (n:=i+d) (by omega) (by omega),TJ hk hf.2 (show f.length<1073741824 by omega),lM hk (FX f),Di hk hr.2 (show r.length<1073741824 by omega) (show aQ 0 by unfold aQ;omega) (show aQ d by unfold aQ;omega)]
 unfold gW
 cases dF (lf f) (i+d) with
 |false=>rfl
 |true=>
  rw [cF,al,dx,if_pos rfl]
  by_cases h0:(di r 0 d).2=0
  ·have hs:=nu h0
   rw [decide_eq_true h0,cF,al,if_pos h0]
   cases fa with
   |true=>rw [ao,ak2 hk hf.2 hs.2 hf.lt hs.lt,if_pos rfl]
   |false=>rw [al,ala hk hf.2 hs.2 hf.lt hs.lt,if_neg (by decide)]
  grind [ao]
end
def mQ (j:Int) (c:Cl):Cl:=⟨si c.pos j,si c.neg j⟩
def cz (j:Int) (f:LC):LC:=(cQ (f.map (mQ j))).1
theorem LS (s j:Int):0<=si s j/\si s j<16777216:=by
 have:=aa1 s.toNat j
 exact ⟨Int.natCast_nonneg _,by show ((mW s.toNat j:Nat):Int)<_;omega⟩
theorem Fk (j:Int) (c:Cl):RC (mQ j c):=⟨LS _ _,LS _ _⟩
theorem vI (j:Int) (f:LC): ∀c∈f.map (mQ j),RC c:=fun c hc=>by
 grind [Fk]
theorem Fo {j:Int} {f:LC} (hf:f.length<=64):cQ (f.map (mQ j))=(cz j f,0):=Prod.ext rfl (NE (vI j f) (by grind))
theorem aaR {j:Int} {f:LC} (hf:f.length<=64):RF (cz j f):=tI (fun c hc=>(vI j f c hc).ok) (by rw [Fo hf])
theorem ahS: ∀ (n:Nat) {l:LC} {c:Cl},(l.filter fun d=>gN c d&& !decide (d=c)).length<=n->(∀d∈l,RC d)->c∈l-> ∃d∈l,d8 l d=true:=by
 have hle: ∀ {a b:Cl},RC a->RC b->(gN a b=true↔(∀j,b.pos.toNat.testBit j=true->a.pos.toNat.testBit j=true)/\ ∀j,b.neg.toNat.testBit j=true->a.neg.toNat.testBit j=true):=by
  intro a b ha hb
  unfold gN g9
  rw [decide_eq_true_eq]
  have hor: ∀ {x y:Int},0<=x->(ij x y=x↔ ∀j,y.toNat.testBit j=true->x.toNat.testBit j=true):=by
   intro x y hx
   unfold ij
   constructor
   ·intro h j hj
    have:(x.toNat|||y.toNat)=x.toNat:=by omega
    grind
   ·intro h
    have:(x.toNat|||y.toNat)=x.toNat:=by
     apply h8
     grind
    omega
  cases a with
  |mk p q=>
   have h1:0<=p:=ha.1.1
   have h2:0<=q:=ha.2.1
   grind
 have hanti: ∀ {a b:Cl},RC a->RC b->gN a b=true->gN b a=true->a=b:=by
  intro a b ha hb h1 h2
  have e1:=(hle ha hb).1 h1
  have e2:=(hle hb ha).1 h2
  have hx: ∀ {x y:Int},0<=x->0<=y->(∀j,y.toNat.testBit j=true->x.toNat.testBit j=true)->(∀j,x.toNat.testBit j=true->y.toNat.testBit j=true)->x=y:=by
   intro x y hx hy a b
   have:x.toNat=y.toNat:=by
    apply h8
    grind
   omega
  cases a;cases b
  have p1:=hx ha.1.1 hb.1.1 e1.1 e2.1
  have p2:=hx ha.2.1 hb.2.1 e1.2 e2.2
  grind
 intro n
 induction n with
 |zero=>
  grind [d8,List.filter_eq_nil_iff]
 |succ n ih=>
  intro l c hn hl hc
  by_cases h:d8 l c=true
  ·grind
  ·unfold d8 at h
   rw [dI] at h
   have: ∃d∈l,¬ ((decide (d=c)|| !gN c d)=true):=Classical.byContradiction fun hh=>h fun d hd=>Classical.byContradiction fun h2=>hh ⟨d,hd,h2⟩
   obtain ⟨d,hd,hd'⟩:=this
   have h1:d≠c:=fun h=>hd' (by grind)
   have h2:gN c d=true:=by
    grind
   refine ih (c:=d) ?_ hl hd
   have hsub:(l.filter fun e=>gN d e&& !decide (e=d)).length<(l.filter fun e=>gN c e&& !decide (e=c)).length:=by
    have hc':=hl c hc;have hdr:=hl d hd
    have himp: ∀e∈l,(gN d e&& !decide (e=d))=true->(gN c e&& !decide (e=c))=true:=by
     grind
    have hle2: ∀ (p q:Cl->Bool) (m:LC),(∀e∈m,p e=true->q e=true)->(m.filter p).length<=(m.filter q).length:=by
     intro p q m
     induction m<;>grind
    have hlt: ∀ (p q:Cl->Bool) (m:LC),(∀e∈m,p e=true->q e=true)->d∈m->p d=false->q d=true->(m.filter p).length<(m.filter q).length:=by
     intro p q m
     induction m with
     |nil=>simp
     |cons e m im=>
      intro hm hdm hp hq
      have hrest: ∀e∈m,p e=true->q e=true:=fun e he=>hm e (by simp [he])
      have hb:=hle2 p q m hrest
      rcases d7.1 hdm with rfl|hdm<;>grind
    exact hlt _ _ l himp hd (by simp) (by grind)
   omega
theorem Le {j:Int} {f:LC} (hf:RF f):(cz j f).length=0↔f.length=0:=by
 have h:=Fo (j:=j) hf.len
 have hm:=(B9 h).1
 constructor
 ·intro h0
  apply Classical.byContradiction
  intro hne
  obtain ⟨c,hc⟩:=List.exists_mem_of_length_pos (l:=f.map (mQ j)) (by grind)
  obtain ⟨d,hd,hn⟩:=ahS _ (dv _) (vI j f) hc
  have:d∈cz j f:=by grind [mem_mins]
  grind
 ·intro h0
  have:=List.length_eq_zero_iff.1 h0
  subst this;rfl
theorem afJ (hk:Fu k) (Y:LC×Int->OS S) {i d:Int} (hi:0<=i/\i<24) (hd:0<=d/\d<4611686018427387000) {f:LC} (hf:aw f) (hlen:f.length<1073741824):
  ∀ (r p:LC) (m:Nat) (o:LC),f=p++r->r.length<m->aw o->o.length=p.length->sK k Y i d f m (p.length:Int) o=Y (cQ (o++r.map (mQ (i+d)))):=by
 intro r
 induction r with
 |nil=>
  intro p m o h hm hok ho
  obtain ⟨m,rfl,hm'⟩:=aq hm
  grind [sK,yS,al,ap,nM]
 |cons x r ih=>
  intro p m o h hm hok ho
  obtain ⟨m,rfl,hm'⟩:=aq hm
  obtain ⟨e1,e2,e3,e4⟩:=aK h (by omega)
  have hx:bR x:=hf x (by grind)
  have hpl:p.length<f.length:=by grind
  simp only [sK,yS,e1,ao,e2,aI,ap hk,dz (n:=i+d) (by omega) (by omega),Tg hk hx.1,Tg hk hx.2,e3]
  rw [bA (by grind)]
  have:=ih (p++[x]) m (o++[mQ (i+d) x]) e4 hm' (jc hok fun c hc=>by simp at hc;subst hc;exact (Fk _ _).ok) (by grind)
  refine aj this ?_
  simp
theorem Tt (hk:Fu k) {i d:Int} (hi:0<=i/\i<24) (hd:0<=d/\d<4611686018427387000) {f:LC} (hf:RF f) (Y:LC×Int->OS S):rI k f d i Y=Y (cz (i+d) f,0):=by
 have l1:=hf.len
 have:=afJ hk Y hi hd hf.2 (by omega) f [] k [] rfl (by omega) (fun c hc=>by cases hc) rfl
 grind [rI,I_,Fo]
theorem afH (hk:Fu k) (Y:LC->OS S) {j:Int} {f:LC} (hf:aw f) (hlen:f.length<1073741824):
  ∀ (r p:LC) (m:Nat) (o:LC),f=p++r->r.length<m->aw o->o.length=p.length->tt k Y f j m o (p.length:Int)=Y (cQ (o++r.map (mQ j))).1:=by
 intro r
 induction r with
 |nil=>
  intro p m o h hm hok ho
  obtain ⟨m,rfl,hm'⟩:=aq hm
  grind [tt,zR,al,ap,rd]
 |cons x r ih=>
  intro p m o h hm hok ho
  obtain ⟨m,rfl,hm'⟩:=aq hm
  obtain ⟨e1,e2,e3,e4⟩:=aK h (by omega)
  have hx:bR x:=hf x (by grind)
  have hpl:p.length<f.length:=by grind
  simp only [tt,zR,e1,ao,e2,aI,ap hk,TK hk hx.1,TK hk hx.2,e3]
  rw [bA (by grind)]
  have:=ih (p++[x]) m (o++[mQ j x]) e4 hm' (jc hok fun c hc=>by simp at hc;subst hc;exact (Fk _ _).ok) (by grind)
  refine aj this ?_
  simp
theorem Ts (hk:Fu k) {j:Int} {f:LC} (hf:RF f) (Y:LC->OS S):ws k f j Y=Y (cz j f):=by
 have l1:=hf.len
 have:=afH hk Y (j:=j) hf.2 (by omega) f [] k [] rfl (by omega) (fun c hc=>by cases hc) rfl
 simp only [ws,JY]
 exact this
theorem DF (fo fa:f8) (d:Int) (t:Tm):b_ fo fa d t=bE (if t.kind=14 then fa d t.r else fo d t.r) fun r'=>bE (dq fo fa d t.kind 0 t.kids) fun ks'=>bE (ck fo fa d t.kind t.sys) fun sys'=> .ok (.mk t.kind t.n t.name r' ks' sys'):=by cases t;rfl
theorem Ku {fo fa:f8} {d:Int} {x y:Tm} (h:b_ fo fa d x= .ok y):y.kind=x.kind:=by
 rw [DF] at h
 obtain ⟨_,_,h⟩:=bH h
 obtain ⟨_,_,h⟩:=bH h
 obtain ⟨_,_,h⟩:=bH h
 injection h with h;subst h;rfl
theorem DE (fo fa:f8) (d kd:Int) (b:Br Tm):jH fo fa d kd b=bE (fa d b.face) fun f'=>if f'.length=0 then .ok [] else bE (dB fo fa d kd b.kids) fun ks'=> .ok [.mk f' ks']:=by cases b;rfl
section
variable {fo fa:f8} (hfo: ∀d f e,fo d f= .error e->0<e/\e<=1000) (hfa: ∀d f e,fa d f= .error e->0<e/\e<=1000)
include hfo hfa
theorem mH (t:Tm): ∀ {d e},b_ fo fa d t= .error e->0<e/\e<=1000:=by
 induction t using mB with
 |h kd n nm r ks sys ih1 ih2=>
  intro d e h
  rw [b_] at h
  rcases dl h with h|⟨_,_,h⟩
  ·grind
  have hkids: ∀ {l:LT} {i:Nat},(∀x∈l,∀ {d e},b_ fo fa d x= .error e->0<e/\e<=1000)->dq fo fa d kd i l= .error e->0<e/\e<=1000:=by
   intro l
   induction l with
   |nil=>grind [dq]
   |cons t l ih=>
    intro i hl h
    rw [dq] at h
    rcases dl h with h|⟨_,_,h⟩
    ·exact hl t (by simp) h
    grind [dl]
  have hmore: ∀ {l:LT},(∀x∈l,∀ {d e},b_ fo fa d x= .error e->0<e/\e<=1000)-> ∀ {e},dB fo fa d kd l= .error e->0<e/\e<=1000:=by
   intro l
   induction l with
   |nil=>grind [dB]
   |cons t l ih=>
    intro hl e h
    rw [dB] at h
    rcases dl h with h|⟨_,_,h⟩
    ·grind
    ·rcases dl h with h|⟨_,_,h⟩
     ·exact ih (fun x hx=>hl x (by simp [hx])) h
     simp_all
  have hsys: ∀ {l:LB},(∀b∈l,∀x∈b.kids,∀ {d e},b_ fo fa d x= .error e->0<e/\e<=1000)->ck fo fa d kd l= .error e->0<e/\e<=1000:=by
   intro l
   induction l<;>grind [ck,dl,DE]
  grind [dl]
theorem UE {kd d:Int}: ∀ {l:LT} {i:Nat} {e:Int},dq fo fa d kd i l= .error e->0<e/\e<=1000:=by
 intro l
 induction l with
 |nil=>grind [dq]
 |cons t l ih=>
  intro i e h
  rw [dq] at h
  rcases dl h with h|⟨_,_,h⟩
  ·exact mH hfo hfa t h
  grind [dl]
theorem UF {kd d:Int}: ∀ {l:LT} {e:Int},dB fo fa d kd l= .error e->0<e/\e<=1000:=by
 intro l
 induction l<;>grind [dB,dl,mH]
end
theorem yB {α β:Type} (x:Except Int Tm) (hx: ∀e,x= .error e->0<e/\e<=1000) (f:Tm->α) (g:Int->α):(fun r:Tm×Int=>ac (!(r.2==0)) (g r.2) (f r.1)) (tE x)=eE x f g:=by
 cases x with
 |ok t=>rfl
 |error e=>
  have:=(hx e rfl).1
  show ac (!(e==0)) (g e) (f aD)=g e
  grind [decide_eq_false,ao]
theorem Co {α β γ:Type} (x:Except Int α) (hx: ∀e,x= .error e->0<e/\e<=1000) (z:α) (f:α->β) (g:Int->β):eE x (fun l=>(fun r:α×Int=>ac (!(r.2==0)) (g r.2) (f r.1)) (l,0)) (fun e=>(fun r:α×Int=>ac (!(r.2==0)) (g r.2) (f r.1)) (z,e))=eE x f g:=by
 cases x with
 |ok t=>rfl
 |error e=>
  have:=(hx e rfl).1
  show ac (!(e==0)) (g e) (f z)=g e
  grind [decide_eq_false,ao]
theorem o_ {G:Int->LC->LC}: ∀d f e,aO G d f= .error e->0<e/\e<=1000:=fun d f e h=>by cases h
theorem mA {i:Int} {r:LC} {fa:Bool}: ∀d f e,ci i r fa d f= .error e->0<e/\e<=1000:=fun d f e h=>De h
section
variable {hd:Tm->Int->Int->LC->(Tm×Int->OS S)->OS S} {i d:Int} {t:Tm} {r:LC}
theorem aiW (hk:Fu k) (hi:0<=i/\i<24) (hr:RF r) (hd0:0<=d/\d<4611686018427386000) (hro:RowsT t) (Y:LC×Int->OS S): ∃z:LC×Int,eT z=(if t.kind=14 then (ci i r true) d t.r else (ci i r false) d t.r)/\Aq k t d i r Y=Y z:=by
 have hr0:=hro.no.1
 simp only [Aq,ap hk,TT hk hr0 hr hi (show 0<=d/\d<4611686018427387000 by omega),alg hk hr0 hr hi (show 0<=d/\d<4611686018427387000 by omega)]
 by_cases h:t.kind=14
 ·rw [h,if_pos rfl,show ((14:Int)==14)=true from rfl,ao]
  grind [rj]
 ·rw [if_neg h,show (t.kind==14)=false from by grind,al]
  grind [rj]
theorem aiT (hk:Fu k) (Y:LT×Int->OS S) (hd0:0<=d/\d<4611686018427386000) (hQ: ∀y∈t.kids,∀b,0<=b/\b<=1-> ∀g,hd y (d+b) i r g=g (tE (b_ (ci i r false) (ci i r true) (d+b) y))) (hl:t.kids.length<1073741824):
  ∀ (r' p:LT) (m:Nat) (acc:LT),t.kids=p++r'->r'.length<m->acc.length=p.length->
  oM hd k Y i r t t.kids d m acc (p.length:Int)=eE (dq (ci i r false) (ci i r true) d t.kind p.length r') (fun l=>Y (acc++l,0)) fun e=>Y ([],e):=by
 intro r'
 induction r' with
 |nil=>
  grind [aq,oM,yW,al,dq,cj]
 |cons y r' ih=>
  intro p m acc h hm ha
  obtain ⟨m,rfl,hm'⟩:=aq hm
  obtain ⟨e1,e2,e3,e4⟩:=aK h (by omega)
  have hpl:p.length<t.kids.length:=by grind
  have b2':=mP t.kind p.length
  have hy:=hQ y (by grind) (dR t.kind p.length) b2'
  simp only [oM,yW,e1,ao,e2,aI,ap hk,vN,uk,aJ,dz (n:=d+dR t.kind p.length) (by omega) (by omega),hy]
  refine aj (yB (β:=Unit) _ (fun e he=>mH mA mA y he) (fun z=>af (aE 1099511627776 acc.length [z].length) fun _=>oM hd k Y i r t t.kids d m (acc++[z]) (ag .i64 ((p.length:Int)+1))) fun e=>Y ([],e)) ?_
  simp only [dq,bV,cj]
  refine eJ (fun t' ht'=> ?_) fun e _=>rfl
  rw [bA (by grind),e3,ih (p++[y]) m (acc++[t']) e4 hm' (by grind),show (p++[y]).length=p.length+1 by simp]
  simp
theorem aiU (hk:Fu k) (Y:LT×Int->OS S) {x:Br Tm} {kd:Int} (hd0:0<=d/\d<4611686018427386000) (hQ: ∀y∈x.kids,∀g,hd y (d+aM kd) i r g=g (tE (b_ (ci i r false) (ci i r true) (d+aM kd) y))) (hl:x.kids.length<1073741824):
  ∀ (r' p:LT) (m:Nat) (acc:LT),x.kids=p++r'->r'.length<m->acc.length=p.length->
  oL hd k Y i r (aM kd) x.kids d m acc (p.length:Int)=eE (dB (ci i r false) (ci i r true) d kd r') (fun l=>Y (acc++l,0)) fun e=>Y ([],e):=by
 have hmo:=iJ kd
 intro r'
 induction r' with
 |nil=>
  grind [aq,oL,yV,al,dB,cj]
 |cons y r' ih=>
  intro p m acc h hm ha
  obtain ⟨m,rfl,hm'⟩:=aq hm
  obtain ⟨e1,e2,e3,e4⟩:=aK h (by omega)
  have hpl:p.length<x.kids.length:=by grind
  have hy:=hQ y (by grind)
  simp only [oL,yV,e1,ao,e2,aI,ap hk,vO,aJ,dz (n:=d+aM kd) (by omega) (by omega),hy]
  refine aj (yB (β:=Unit) _ (fun e he=>mH mA mA y he) (fun z=>af (aE 1099511627776 acc.length [z].length) fun _=>oL hd k Y i r (aM kd) x.kids d m (acc++[z]) (ag .i64 ((p.length:Int)+1))) fun e=>Y ([],e)) ?_
  simp only [dB,bV,cj]
  refine eJ (fun t' ht'=> ?_) fun e _=>rfl
  rw [bA (by grind),e3,ih (p++[y]) m (acc++[t']) e4 hm' (by grind)]
  simp
theorem aiV (hk:Fu k) (Y:Tm×Int->OS S) (hi:0<=i/\i<24) (hr:RF r) (hd0:0<=d/\d<4611686018427386000) {r1:LC×Int} {r2:LT×Int} (ht:OkT t) (hro:RowsT t) (hQ: ∀b∈t.sys,∀y∈b.kids,∀g,hd y (d+aM t.kind) i r g=g (tE (b_ (ci i r false) (ci i r true) (d+aM t.kind) y))):
  ∀ (r' p:LB) (m:Nat) (o:LB),t.sys=p++r'->r'.length<m->o.length<=p.length->
  j_ hd k Y i r t r1 r2 d m (aM t.kind) o (p.length:Int)=eE (ck (ci i r false) (ci i r true) d t.kind r') (fun s=>Y (.mk t.kind t.n t.name r1.1 r2.1 (o++s),0)) fun e=>Y (aD,e):=by
 obtain ⟨o1,o2,o3,o4,o5,o6,o7⟩:=ht.no
 intro r'
 induction r' with
 |nil=>
  grind [aq,j_,yX,al,ck,cj]
 |cons x r' ih=>
  intro p m o h hml ho
  obtain ⟨m,rfl,hm'⟩:=aq hml
  obtain ⟨e1,e2,e3,e4⟩:=aK h (by omega)
  have hx:x∈t.sys:=by grind
  have hpl:p.length<t.sys.length:=by grind
  have hb:=(ht.bi hx).1
  have hr0:=(hro.bi hx).1
  have hM:=fun g:LT×Int->OS S=>aiU (kd:=t.kind) hk g hd0 (hQ x hx) hb.2.2 x.kids [] k [] rfl (by omega) rfl
  have hM: ∀g:LT×Int->OS S,oL hd k g i r (aM t.kind) x.kids d k [] 0=_:=hM
  simp only [j_,yX,e1,ao,e2,aI,ap hk,TT hk hr0 hr hi (show 0<=d/\d<4611686018427387000 by omega),Fy,Jc,hM,e3,eo]
  have hin:=fun f':LC=>Co (β:=OS S) (γ:=Unit) (dB (ci i r false) (ci i r true) d t.kind x.kids) (fun e he=>UF mA mA he) [] (fun l=>af (aE 1099511627776 o.length [Br.mk f' l].length) fun _=>j_ hd k Y i r t r1 r2 d m (aM t.kind) (o++[Br.mk f' l]) (((p++[x]).length:Nat):Int)) fun e=>Y (aD,e)
  refine aj (yE (z:=(gW i r true d x.face)) (fun f'=>ac (((f'.length:Nat):Int)==0) (j_ hd k Y i r t r1 r2 d m (aM t.kind) o (((p++[x]).length:Nat):Int)) (eE (dB (ci i r false) (ci i r true) d t.kind x.kids) (fun l=>(fun r5:LT×Int=>ac (!(r5.2==0)) (Y (aD,r5.2)) (af (aE 1099511627776 o.length [Br.mk f' r5.1].length) fun _=>j_ hd k Y i r t r1 r2 d m (aM t.kind) (o++[Br.mk f' r5.1]) (((p++[x]).length:Nat):Int))) (l,0)) fun e=>(fun r5:LT×Int=>ac (!(r5.2==0)) (Y (aD,r5.2)) (af (aE 1099511627776 o.length [Br.mk f' r5.1].length) fun _=>j_ hd k Y i r t r1 r2 d m (aM t.kind) (o++[Br.mk f' r5.1]) (((p++[x]).length:Nat):Int))) ([],e))) fun e=>Y (aD,e)) ?_
  rw [show eT (gW i r true d x.face)=(ci i r true) d x.face from rj _ _ _ _ _]
  rw [ck,DE,bV,bV]
  refine eJ (fun f' hf'=> ?_) fun e _=>rfl
  rw [tJ,bS]
  by_cases h0:f'.length=0
  ·rw [if_pos h0,if_pos h0,cj,bV,ih (p++[x]) m o e4 hm' (by grind)]
   rfl
  ·rw [if_neg h0,if_neg h0,hin f',bV]
   refine eJ (fun l hl=> ?_) fun e _=>rfl
   rw [cj,bV,bA (by grind),ih (p++[x]) m (o++[Br.mk f' l]) e4 hm' (by grind)]
   grind [cj]
end
theorem aiX {i:Int} {r:LC} (hi:0<=i/\i<24) (hr:RF r) (t:Tm):OkT t->RowsT t-> ∀ {k:Nat} {d:Int} (Y:Tm×Int->OS S),Fd k (ax t)->0<=d->d+ax t<4611686018427386000->g6 k t d i r Y=Y (tE (b_ (ci i r false) (ci i r true) d t)):=by
 induction t using il with
 |h t ih1 ih2=>
  intro ht hro k d Y hk hv hv'
  obtain ⟨q,rfl,hq,hf⟩:=hk.pos' (fq t)
  have hp:=fq t
  have hd0:0<=d/\d<4611686018427386000:=by omega
  obtain ⟨o1,o2,o3,o4,o5,o6,o7⟩:=ht.no
  have hmo:=iJ t.kind
  have hQ: ∀y∈t.kids,∀b,0<=b/\b<=1-> ∀g:Tm×Int->OS S,g6 q y (d+b) i r g=g (tE (b_ (ci i r false) (ci i r true) (d+b) y)):=fun y hy b h2 g=>
   ih1 y hy (ht.ki hy) (hro.ki hy) g (hf _ (eN hy)) (by omega) (by have:=eN hy;omega)
  have hQ': ∀b∈t.sys,∀y∈b.kids,∀g:Tm×Int->OS S,g6 q y (d+aM t.kind) i r g=g (tE (b_ (ci i r false) (ci i r true) (d+aM t.kind) y)):=fun b hb y hy g=>
   ih2 b hb y hy ((ht.bi hb).2 y hy) ((hro.bi hb).2 y hy) g (hf _ (eX hb hy)) (by omega) (by have:=eX hb hy;omega)
  have hK: ∀g:LT×Int->OS S,oM (g6 q) q g i r t t.kids d q [] 0=_:=fun g=>aiT hq g hd0 hQ o6 t.kids [] q [] rfl (by omega) rfl
  have hS:=fun (r1:LC×Int) (r2:LT×Int)=>aiV (r1:=r1) (r2:=r2) hq Y hi hr hd0 ht hro hQ' t.sys [] q [] rfl (by omega) (dv _)
  have hS: ∀ (r1:LC×Int) (r2:LT×Int),j_ (g6 q) q Y i r t r1 r2 d q (aM t.kind) [] 0=_:=hS
  have hcase: ∀ (r1:LC×Int) (r2:LT×Int),ac (t.kind==15) (j_ (g6 q) q Y i r t r1 r2 d q 1 [] 0) (j_ (g6 q) q Y i r t r1 r2 d q 0 [] 0)=eE (ck (ci i r false) (ci i r true) d t.kind t.sys) (fun s=>Y (.mk t.kind t.n t.name r1.1 r2.1 s,0)) fun e=>Y (aD,e):=by
   grind [eM,aM]
  obtain ⟨z,hz,hrow⟩:=aiW hq hi hr hd0 hro (fun r1=>ac (!(r1.2==0)) (Y (aD,r1.2)) (eE (dq (ci i r false) (ci i r true) d t.kind 0 t.kids) (fun l=>(fun r2:LT×Int=>ac (!(r2.2==0)) (Y (aD,r2.2)) (eE (ck (ci i r false) (ci i r true) d t.kind t.sys) (fun s=>Y (.mk t.kind t.n t.name r1.1 r2.1 s,0)) fun e=>Y (aD,e))) (l,0)) fun e=>(fun r2:LT×Int=>ac (!(r2.2==0)) (Y (aD,r2.2)) (eE (ck (ci i r false) (ci i r true) d t.kind t.sys) (fun s=>Y (.mk t.kind t.n t.name r1.1 r2.1 s,0)) fun e=>Y (aD,e))) ([],e)))
  simp only [g6,Je,ap hq,aJ,Fz,Jd,hK,hcase,eo,iV]
  refine aj hrow ?_
  rw [mz _ Y,DF,<-hz]
  refine aj (yE (z:=z) (fun r'=>eE (dq (ci i r false) (ci i r true) d t.kind 0 t.kids) (fun l=>(fun r2:LT×Int=>ac (!(r2.2==0)) (Y (aD,r2.2)) (eE (ck (ci i r false) (ci i r true) d t.kind t.sys) (fun s=>Y (.mk t.kind t.n t.name r' r2.1 s,0)) fun e=>Y (aD,e))) (l,0)) fun e=>(fun r2:LT×Int=>ac (!(r2.2==0)) (Y (aD,r2.2)) (eE (ck (ci i r false) (ci i r true) d t.kind t.sys) (fun s=>Y (.mk t.kind t.n t.name r' r2.1 s,0)) fun e=>Y (aD,e))) ([],e)) fun e=>Y (aD,e)) ?_
  rw [bV]
  refine eJ (fun r' _=> ?_) fun e _=>rfl
  refine aj (Co (β:=OS S) (γ:=Unit) (dq (ci i r false) (ci i r true) d t.kind 0 t.kids) (fun e he=>UE mA mA he) [] (fun l=>eE (ck (ci i r false) (ci i r true) d t.kind t.sys) (fun s=>Y (.mk t.kind t.n t.name r' l s,0)) fun e=>Y (aD,e)) fun e=>Y (aD,e)) ?_
  simp only [bV,cj]
section
variable {hd:Tm->Int->Int->(Tm×Int->OS S)->OS S} {i d:Int} {t:Tm}
theorem aa5 (hk:Fu k) (hi:0<=i/\i<24) (hd0:0<=d/\d<4611686018427386000) (hro:RowsT t) (Y:LC×Int->OS S): ∃z:LC×Int,eT z=(if t.kind=14 then (aO fun d f=>cz (i+d) f) d t.r else (aO fun d f=>cz (i+d) f) d t.r)/\Ar k t d i Y=Y z:=by
 have hr0:=hro.no.1
 simp only [Ar,ap hk,Tt hk hi (show 0<=d/\d<4611686018427387000 by omega) hr0]
 by_cases h:t.kind=14
 ·rw [h,if_pos rfl,show ((14:Int)==14)=true from rfl,ao]
  exact ⟨_,rfl,rfl⟩
 ·rw [if_neg h,show (t.kind==14)=false from by grind,al]
  exact ⟨_,rfl,rfl⟩
theorem aa2 (hk:Fu k) (Y:LT×Int->OS S) (hd0:0<=d/\d<4611686018427386000) (hQ: ∀y∈t.kids,∀b,0<=b/\b<=1-> ∀g,hd y (d+b) i g=g (tE (b_ (aO fun d f=>cz (i+d) f) (aO fun d f=>cz (i+d) f) (d+b) y))) (hl:t.kids.length<1073741824):
  ∀ (r' p:LT) (m:Nat) (acc:LT),t.kids=p++r'->r'.length<m->acc.length=p.length->
  oK hd k Y i t t.kids d m acc (p.length:Int)=eE (dq (aO fun d f=>cz (i+d) f) (aO fun d f=>cz (i+d) f) d t.kind p.length r') (fun l=>Y (acc++l,0)) fun e=>Y ([],e):=by
 intro r'
 induction r' with
 |nil=>
  grind [aq,oK,yU,al,dq,cj]
 |cons y r' ih=>
  intro p m acc h hm ha
  obtain ⟨m,rfl,hm'⟩:=aq hm
  obtain ⟨e1,e2,e3,e4⟩:=aK h (by omega)
  have hpl:p.length<t.kids.length:=by grind
  have b2':=mP t.kind p.length
  have hy:=hQ y (by grind) (dR t.kind p.length) b2'
  simp only [oK,yU,e1,ao,e2,aI,ap hk,vN,uk,aJ,dz (n:=d+dR t.kind p.length) (by omega) (by omega),hy]
  refine aj (yB (β:=Unit) _ (fun e he=>mH o_ o_ y he) (fun z=>af (aE 1099511627776 acc.length [z].length) fun _=>oK hd k Y i t t.kids d m (acc++[z]) (ag .i64 ((p.length:Int)+1))) fun e=>Y ([],e)) ?_
  simp only [dq,bV,cj]
  refine eJ (fun t' ht'=> ?_) fun e _=>rfl
  rw [bA (by grind),e3,ih (p++[y]) m (acc++[t']) e4 hm' (by grind),show (p++[y]).length=p.length+1 by simp]
  simp
theorem aa3 (hk:Fu k) (Y:LT×Int->OS S) {x:Br Tm} {kd:Int} (hd0:0<=d/\d<4611686018427386000) (hQ: ∀y∈x.kids,∀g,hd y (d+aM kd) i g=g (tE (b_ (aO fun d f=>cz (i+d) f) (aO fun d f=>cz (i+d) f) (d+aM kd) y))) (hl:x.kids.length<1073741824):
  ∀ (r' p:LT) (m:Nat) (acc:LT),x.kids=p++r'->r'.length<m->acc.length=p.length->
  oJ hd k Y i (aM kd) x.kids d m acc (p.length:Int)=eE (dB (aO fun d f=>cz (i+d) f) (aO fun d f=>cz (i+d) f) d kd r') (fun l=>Y (acc++l,0)) fun e=>Y ([],e):=by
 have hmo:=iJ kd
 intro r'
 induction r' with
 |nil=>
  grind [aq,oJ,yT,al,dB,cj]
 |cons y r' ih=>
  intro p m acc h hm ha
  obtain ⟨m,rfl,hm'⟩:=aq hm
  obtain ⟨e1,e2,e3,e4⟩:=aK h (by omega)
  have hpl:p.length<x.kids.length:=by grind
  have hy:=hQ y (by grind)
  simp only [oJ,yT,e1,ao,e2,aI,ap hk,vO,aJ,dz (n:=d+aM kd) (by omega) (by omega),hy]
  refine aj (yB (β:=Unit) _ (fun e he=>mH o_ o_ y he) (fun z=>af (aE 1099511627776 acc.length [z].length) fun _=>oJ hd k Y i (aM kd) x.kids d m (acc++[z]) (ag .i64 ((p.length:Int)+1))) fun e=>Y ([],e)) ?_
  simp only [dB,bV,cj]
  refine eJ (fun t' ht'=> ?_) fun e _=>rfl
  rw [bA (by grind),e3,ih (p++[y]) m (acc++[t']) e4 hm' (by grind)]
  simp
theorem aa4 (hk:Fu k) (Y:Tm×Int->OS S) (hi:0<=i/\i<24) (hd0:0<=d/\d<4611686018427386000) {r1:LC×Int} {r2:LT×Int} (ht:OkT t) (hro:RowsT t) (hQ: ∀b∈t.sys,∀y∈b.kids,∀g,hd y (d+aM t.kind) i g=g (tE (b_ (aO fun d f=>cz (i+d) f) (aO fun d f=>cz (i+d) f) (d+aM t.kind) y))):
  ∀ (r' p:LB) (m:Nat) (o:LB),t.sys=p++r'->r'.length<m->o.length<=p.length->
  kc hd k Y i t r1 r2 d m (aM t.kind) o (p.length:Int)=eE (ck (aO fun d f=>cz (i+d) f) (aO fun d f=>cz (i+d) f) d t.kind r') (fun s=>Y (.mk t.kind t.n t.name r1.1 r2.1 (o++s),0)) fun e=>Y (aD,e):=by
 obtain ⟨o1,o2,o3,o4,o5,o6,o7⟩:=ht.no
 intro r'
 induction r' with
 |nil=>
  grind [aq,kc,yY,al,ck,cj]
 |cons x r' ih=>
  intro p m o h hml ho
  obtain ⟨m,rfl,hm'⟩:=aq hml
  obtain ⟨e1,e2,e3,e4⟩:=aK h (by omega)
  have hx:x∈t.sys:=by grind
  have hpl:p.length<t.sys.length:=by grind
  have hb:=(ht.bi hx).1
  have hr0:=(hro.bi hx).1
  have hM:=fun g:LT×Int->OS S=>aa3 (kd:=t.kind) hk g hd0 (hQ x hx) hb.2.2 x.kids [] k [] rfl (by omega) rfl
  have hM: ∀g:LT×Int->OS S,oJ hd k g i (aM t.kind) x.kids d k [] 0=_:=hM
  simp only [kc,yY,e1,ao,e2,aI,ap hk,Tt hk hi (show 0<=d/\d<4611686018427387000 by omega) hr0,Fv,Ja,hM,e3,eo]
  have hin:=fun f':LC=>Co (β:=OS S) (γ:=Unit) (dB (aO fun d f=>cz (i+d) f) (aO fun d f=>cz (i+d) f) d t.kind x.kids) (fun e he=>UF o_ o_ he) [] (fun l=>af (aE 1099511627776 o.length [Br.mk f' l].length) fun _=>kc hd k Y i t r1 r2 d m (aM t.kind) (o++[Br.mk f' l]) (((p++[x]).length:Nat):Int)) fun e=>Y (aD,e)
  refine aj (yE (z:=(cz (i+d) x.face,(0:Int))) (fun f'=>ac (((f'.length:Nat):Int)==0) (kc hd k Y i t r1 r2 d m (aM t.kind) o (((p++[x]).length:Nat):Int)) (eE (dB (aO fun d f=>cz (i+d) f) (aO fun d f=>cz (i+d) f) d t.kind x.kids) (fun l=>(fun r5:LT×Int=>ac (!(r5.2==0)) (Y (aD,r5.2)) (af (aE 1099511627776 o.length [Br.mk f' r5.1].length) fun _=>kc hd k Y i t r1 r2 d m (aM t.kind) (o++[Br.mk f' r5.1]) (((p++[x]).length:Nat):Int))) (l,0)) fun e=>(fun r5:LT×Int=>ac (!(r5.2==0)) (Y (aD,r5.2)) (af (aE 1099511627776 o.length [Br.mk f' r5.1].length) fun _=>kc hd k Y i t r1 r2 d m (aM t.kind) (o++[Br.mk f' r5.1]) (((p++[x]).length:Nat):Int))) ([],e))) fun e=>Y (aD,e)) ?_
  rw [show eT (cz (i+d) x.face,(0:Int))=(aO fun d f=>cz (i+d) f) d x.face from rfl]
  rw [ck,DE,bV,bV]
  refine eJ (fun f' hf'=> ?_) fun e _=>rfl
  rw [tJ,bS]
  by_cases h0:f'.length=0
  ·rw [if_pos h0,if_pos h0,cj,bV,ih (p++[x]) m o e4 hm' (by grind)]
   rfl
  ·rw [if_neg h0,if_neg h0,hin f',bV]
   refine eJ (fun l hl=> ?_) fun e _=>rfl
   rw [cj,bV,bA (by grind),ih (p++[x]) m (o++[Br.mk f' l]) e4 hm' (by grind)]
   grind [cj]
end
theorem aa6 {i:Int} (hi:0<=i/\i<24) (t:Tm):OkT t->RowsT t-> ∀ {k:Nat} {d:Int} (Y:Tm×Int->OS S),Fd k (ax t)->0<=d->d+ax t<4611686018427386000->gP k t d i Y=Y (tE (b_ (aO fun d f=>cz (i+d) f) (aO fun d f=>cz (i+d) f) d t)):=by
 induction t using il with
 |h t ih1 ih2=>
  intro ht hro k d Y hk hv hv'
  obtain ⟨q,rfl,hq,hf⟩:=hk.pos' (fq t)
  have hp:=fq t
  have hd0:0<=d/\d<4611686018427386000:=by omega
  obtain ⟨o1,o2,o3,o4,o5,o6,o7⟩:=ht.no
  have hmo:=iJ t.kind
  have hQ: ∀y∈t.kids,∀b,0<=b/\b<=1-> ∀g:Tm×Int->OS S,gP q y (d+b) i g=g (tE (b_ (aO fun d f=>cz (i+d) f) (aO fun d f=>cz (i+d) f) (d+b) y)):=fun y hy b h2 g=>
   ih1 y hy (ht.ki hy) (hro.ki hy) g (hf _ (eN hy)) (by omega) (by have:=eN hy;omega)
  have hQ': ∀b∈t.sys,∀y∈b.kids,∀g:Tm×Int->OS S,gP q y (d+aM t.kind) i g=g (tE (b_ (aO fun d f=>cz (i+d) f) (aO fun d f=>cz (i+d) f) (d+aM t.kind) y)):=fun b hb y hy g=>
   ih2 b hb y hy ((ht.bi hb).2 y hy) ((hro.bi hb).2 y hy) g (hf _ (eX hb hy)) (by omega) (by have:=eX hb hy;omega)
  have hK: ∀g:LT×Int->OS S,oK (gP q) q g i t t.kids d q [] 0=_:=fun g=>aa2 hq g hd0 hQ o6 t.kids [] q [] rfl (by omega) rfl
  have hS:=fun (r1:LC×Int) (r2:LT×Int)=>aa4 (r1:=r1) (r2:=r2) hq Y hi hd0 ht hro hQ' t.sys [] q [] rfl (by omega) (dv _)
  have hS: ∀ (r1:LC×Int) (r2:LT×Int),kc (gP q) q Y i t r1 r2 d q (aM t.kind) [] 0=_:=hS
  have hcase: ∀ (r1:LC×Int) (r2:LT×Int),ac (t.kind==15) (kc (gP q) q Y i t r1 r2 d q 1 [] 0) (kc (gP q) q Y i t r1 r2 d q 0 [] 0)=eE (ck (aO fun d f=>cz (i+d) f) (aO fun d f=>cz (i+d) f) d t.kind t.sys) (fun s=>Y (.mk t.kind t.n t.name r1.1 r2.1 s,0)) fun e=>Y (aD,e):=by
   grind [eM,aM]
  obtain ⟨z,hz,hrow⟩:=aa5 hq hi hd0 hro (fun r1=>ac (!(r1.2==0)) (Y (aD,r1.2)) (eE (dq (aO fun d f=>cz (i+d) f) (aO fun d f=>cz (i+d) f) d t.kind 0 t.kids) (fun l=>(fun r2:LT×Int=>ac (!(r2.2==0)) (Y (aD,r2.2)) (eE (ck (aO fun d f=>cz (i+d) f) (aO fun d f=>cz (i+d) f) d t.kind t.sys) (fun s=>Y (.mk t.kind t.n t.name r1.1 r2.1 s,0)) fun e=>Y (aD,e))) (l,0)) fun e=>(fun r2:LT×Int=>ac (!(r2.2==0)) (Y (aD,r2.2)) (eE (ck (aO fun d f=>cz (i+d) f) (aO fun d f=>cz (i+d) f) d t.kind t.sys) (fun s=>Y (.mk t.kind t.n t.name r1.1 r2.1 s,0)) fun e=>Y (aD,e))) ([],e)))
  simp only [gP,Jf,ap hq,aJ,Fw,Jb,hK,hcase,eo,iV]
  refine aj hrow ?_
  rw [mz _ Y,DF,<-hz]
  refine aj (yE (z:=z) (fun r'=>eE (dq (aO fun d f=>cz (i+d) f) (aO fun d f=>cz (i+d) f) d t.kind 0 t.kids) (fun l=>(fun r2:LT×Int=>ac (!(r2.2==0)) (Y (aD,r2.2)) (eE (ck (aO fun d f=>cz (i+d) f) (aO fun d f=>cz (i+d) f) d t.kind t.sys) (fun s=>Y (.mk t.kind t.n t.name r' r2.1 s,0)) fun e=>Y (aD,e))) (l,0)) fun e=>(fun r2:LT×Int=>ac (!(r2.2==0)) (Y (aD,r2.2)) (eE (ck (aO fun d f=>cz (i+d) f) (aO fun d f=>cz (i+d) f) d t.kind t.sys) (fun s=>Y (.mk t.kind t.n t.name r' r2.1 s,0)) fun e=>Y (aD,e))) ([],e)) fun e=>Y (aD,e)) ?_
  rw [bV]
  refine eJ (fun r' _=> ?_) fun e _=>rfl
  refine aj (Co (β:=OS S) (γ:=Unit) (dq (aO fun d f=>cz (i+d) f) (aO fun d f=>cz (i+d) f) d t.kind 0 t.kids) (fun e he=>UE o_ o_ he) [] (fun l=>eE (ck (aO fun d f=>cz (i+d) f) (aO fun d f=>cz (i+d) f) d t.kind t.sys) (fun s=>Y (.mk t.kind t.n t.name r' l s,0)) fun e=>Y (aD,e)) fun e=>Y (aD,e)) ?_
  simp only [bV,cj]
def Ai (i:Int):Int->LC->LC:=fun d f=>cz (i+d) f
def eb (i:Int) (r:LC) (fa:Bool):f8:=fi (ci i r fa) (Ai i)
theorem wR (i:Int) (r:LC) (fa:Bool) (d:Int) (f:LC):eb i r fa d f=bE (ci i r fa d f) fun m=> .ok (cz (i+d) m):=rfl
theorem sz {i:Int} {r:LC} {fa:Bool}: ∀d f e,eb i r fa d f= .error e->0<e/\e<=1000:=fun d f e h=>by
 rw [wR] at h
 rcases dl h with h|⟨_,_,h⟩
 ·exact De h
 simp_all
section
variable {hd:Tm->Int->LC->Int->Bool->(Tm->OS S)->OS S} {i d:Int} {r:LC} {t:Tm}
theorem agW (hk:Fu k) (Y:Tm->OS S) (rec1:LB->Int->OS S) {v18:Int} {r3:LC} {ks:LT} {o:LB} {x:Br Tm} (hi:ak t.sys v18=some x)
  (hd0:0<=d/\d<4611686018427386000) (hQ: ∀y∈x.kids,∀g,hd y i r (d+aM t.kind) true g=g (rE (b_ (eb i r false) (eb i r true) (d+aM t.kind) y))) (hkd: ∀y∈x.kids,0<=y.kind) (hl:x.kids.length<1073741824) (ho:o.length<1073741824) {f'':LC}:
  ∀ (r' p:LT) (m:Nat) (acc:LT),x.kids=p++r'->r'.length<m->acc.length=p.length->
  ni hd k Y rec1 t r3 ks o i v18 r d true m f'' acc (p.length:Int)=eE (dB (eb i r false) (eb i r true) d t.kind r') (fun l=>rec1 (o++[Br.mk f'' (acc++l)]) (ag .i64 (v18+1))) fun e=>Y (dw e):=by
 have hmo:=iJ t.kind
 intro r'
 induction r' with
 |nil=>
  grind [aq,ni,zS,al,dB,cj,bA]
 |cons y r' ih=>
  intro p m acc h hm ha
  obtain ⟨m,rfl,hm'⟩:=aq hm
  obtain ⟨e1,e2,e3,e4⟩:=aK h (by omega)
  have hpl:p.length<x.kids.length:=by grind
  have hym:y∈x.kids:=by grind
  have hy:=hQ y hym
  simp only [ni,zS,hi,e1,ao,e2,aI,ap hk,IT,aJ,dz (n:=d+aM t.kind) (by omega) (by omega),hy]
  refine aj (xZ (fun e he=>(mH sz sz y he).1) (fun z hz=>by grind [Ku]) (fun z=>af (aE 1099511627776 acc.length [z].length) fun _=>ni hd k Y rec1 t r3 ks o i v18 r d true m f'' (acc++[z]) (ag .i64 ((p.length:Int)+1))) Y) ?_
  simp only [dB,bV,cj]
  refine eJ (fun t' ht'=> ?_) fun e _=>rfl
  rw [bA (by grind),e3,ih (p++[y]) m (acc++[t']) e4 hm' (by grind)]
  simp
theorem agV (hk:Fu k) (Y:Tm->OS S) (hi:0<=i/\i<24) (hr:RF r) {r3:LC} {ks:LT} (ht:OkT t) (hro:RowsT t) (hd0:0<=d/\d<4611686018427386000)
  (hQ: ∀b∈t.sys,∀y∈b.kids,∀g,hd y i r (d+aM t.kind) true g=g (rE (b_ (eb i r false) (eb i r true) (d+aM t.kind) y))):
  ∀ (r' p:LB) (m:Nat) (o:LB),t.sys=p++r'->r'.length<m->o.length<=p.length->
  lu hd k Y t r3 ks i r d true m o (p.length:Int)=eE (ck (eb i r false) (eb i r true) d t.kind r') (fun l=>Y (.mk t.kind t.n t.name r3 ks (o++l))) fun e=>Y (dw e):=by
 obtain ⟨o1,o2,o3,o4,o5,o6,o7⟩:=ht.no
 intro r'
 induction r' with
 |nil=>
  grind [aq,lu,vr,al,ck,cj]
 |cons x r' ih=>
  intro p m o h hml ho
  obtain ⟨m,rfl,hm'⟩:=aq hml
  obtain ⟨e1,e2,e3,e4⟩:=aK h (by omega)
  have hx:x∈t.sys:=by grind
  have hpl:p.length<t.sys.length:=by grind
  have hb:=(ht.bi hx).1
  have hr0:=(hro.bi hx).1
  have hM:=fun f'':LC=>agW (f'':=f'') (r3:=r3) (ks:=ks) (o:=o) hk Y (lu hd k Y t r3 ks i r d true m) e2 hd0 (hQ x hx) (fun y hy=>((hro.bi hx).2 y hy).no.2.2) hb.2.2 (by omega) x.kids [] k [] rfl (by omega) rfl
  have hM: ∀f'':LC,ni hd k Y (lu hd k Y t r3 ks i r d true m) t r3 ks o i (p.length:Int) r d true k f'' [] 0=_:=hM
  simp only [lu,vr,e1,ao,e2,aI,ap hk,TF hk hr0 hr hi (show 0<=d/\d<4611686018427387000 by omega),dz (n:=i+d) (by omega) (by omega),hM,e3,eo]
  rw [ck,DE,bV,bV,wR,bV,<-rj]
  have hz:=rj i r true d x.face
  by_cases h0:(gW i r true d x.face).2=0
  ·have hrf:RF (gW i r true d x.face).1:=ug hr0 (hz.symm.trans (mC h0))
   rw [dx,decide_eq_true h0,cF,al,mC h0,cj,cj,tJ,bS,Ts hk hrf]
   have hlen:=Le (j:=i+d) hrf
   by_cases hl:(gW i r true d x.face).1.length=0
   ·rw [if_pos hl,if_pos (hlen.2 hl),cj,bV,ih (p++[x]) m o e4 hm' (by grind)]
    rfl
   ·rw [if_neg hl,if_neg (fun h=>hl (hlen.1 h)),bV]
    refine eJ (fun l _=> ?_) fun e _=>rfl
    rw [cj,bV,ih (p++[x]) m (o++[Br.mk (cz (i+d) (gW i r true d x.face).1) l]) e4 hm' (by grind)]
    grind [cj]
  ·have hze:eT (gW i r true d x.face)= .error (gW i r true d x.face).2:=lO h0
   have hen:=De (hz.symm.trans hze)
   rw [dx,decide_eq_false h0,dQ,ao,hze,nL hen];rfl
theorem agU (hk:Fu k) (Y:Tm->OS S) (hi:0<=i/\i<24) (hr:RF r) {r3:LC} (ht:OkT t) (hro:RowsT t) (hd0:0<=d/\d<4611686018427386000)
  (hQ: ∀y∈t.kids,∀b,0<=b/\b<=1-> ∀g,hd y i r (d+b) true g=g (rE (b_ (eb i r false) (eb i r true) (d+b) y))) (hQ': ∀b∈t.sys,∀y∈b.kids,∀g,hd y i r (d+aM t.kind) true g=g (rE (b_ (eb i r false) (eb i r true) (d+aM t.kind) y))):
  ∀ (r' p:LT) (m:Nat) (acc:LT),t.kids=p++r'->r'.length<m->acc.length=p.length->
  oW hd k Y t i r d true m r3 acc (p.length:Int)=eE (dq (eb i r false) (eb i r true) d t.kind p.length r') (fun l=>eE (ck (eb i r false) (eb i r true) d t.kind t.sys) (fun s=>Y (.mk t.kind t.n t.name r3 (acc++l) s)) fun e=>Y (dw e)) fun e=>Y (dw e):=by
 obtain ⟨o1,o2,o3,o4,o5,o6,o7⟩:=ht.no
 intro r'
 induction r' with
 |nil=>
  intro p m acc h hm ha
  obtain ⟨m,rfl,hm'⟩:=aq hm
  have hs:lu hd k Y t r3 acc i r d true k [] 0=_:=agV hk Y hi hr ht hro hd0 hQ' t.sys [] k [] rfl (by omega) (dv _)
  grind [oW,vq,al,dq,cj]
 |cons y r' ih=>
  intro p m acc h hm ha
  obtain ⟨m,rfl,hm'⟩:=aq hm
  obtain ⟨e1,e2,e3,e4⟩:=aK h (by omega)
  have hpl:p.length<t.kids.length:=by grind
  have b2':=mP t.kind p.length
  have hym:y∈t.kids:=by grind
  have hy:=hQ y hym (dR t.kind p.length) b2'
  simp only [oW,vq,e1,ao,e2,aI,ap hk,IS hk,aJ,dz (n:=d+dR t.kind p.length) (by omega) (by omega),hy]
  refine aj (xZ (fun e he=>(mH sz sz y he).1) (fun z hz=>by rw [Ku hz];exact (hro.ki hym).no.2.2) (fun z=>af (aE 1099511627776 acc.length [z].length) fun _=>oW hd k Y t i r d true m r3 (acc++[z]) (ag .i64 ((p.length:Int)+1))) Y) ?_
  simp only [dq,bV,cj]
  refine eJ (fun t' ht'=> ?_) fun e _=>rfl
  rw [bA (by grind),e3,ih (p++[y]) m (acc++[t']) e4 hm' (by grind),show (p++[y]).length=p.length+1 by simp]
  simp
end
theorem akU {i:Int} {r:LC} (hi:0<=i/\i<24) (hr:RF r) (t:Tm):OkT t->RowsT t-> ∀ {k:Nat} {d:Int} (Y:Tm->OS S),Fd k (ax t)->0<=d->d+ax t<4611686018427386000->jZ k t i r d true Y=Y (rE (b_ (eb i r false) (eb i r true) d t)):=by
 induction t using il with
 |h t ih1 ih2=>
  intro ht hro k d Y hk hv hv'
  obtain ⟨q,rfl,hq,hf⟩:=hk.pos' (fq t)
  have hp:=fq t
  have hd0:0<=d/\d<4611686018427386000:=by omega
  obtain ⟨o1,o2,o3,o4,o5,o6,o7⟩:=ht.no
  have hmo:=iJ t.kind
  have hr0:=hro.no.1
  have hQ: ∀y∈t.kids,∀b,0<=b/\b<=1-> ∀g:Tm->OS S,jZ q y i r (d+b) true g=g (rE (b_ (eb i r false) (eb i r true) (d+b) y)):=fun y hy b h2 g=>
   ih1 y hy (ht.ki hy) (hro.ki hy) g (hf _ (eN hy)) (by omega) (by have:=eN hy;omega)
  have hQ': ∀b∈t.sys,∀y∈b.kids,∀g:Tm->OS S,jZ q y i r (d+aM t.kind) true g=g (rE (b_ (eb i r false) (eb i r true) (d+aM t.kind) y)):=fun b hb y hy g=>
   ih2 b hb y hy ((ht.bi hb).2 y hy) ((hro.bi hb).2 y hy) g (hf _ (eX hb hy)) (by omega) (by have:=eX hb hy;omega)
  have h1:=fun r3:LC=>agU (r3:=r3) hq Y hi hr ht hro hd0 hQ hQ' t.kids [] q [] rfl (by omega) rfl
  have h1: ∀r3:LC,oW (jZ q) q Y t i r d true q r3 [] 0=_:=h1
  simp only [jZ,JZ,ap hq,TF hq hr0 hr hi (show 0<=d/\d<4611686018427387000 by omega),dz (n:=i+d) (by omega) (by omega),ao,h1,eo,iV]
  have hfa: ∀fa:Bool,(if t.kind=14 then eb i r true d t.r else eb i r false d t.r)=eb i r (t.kind==14) d t.r:=fun _=>by
   grind
  rw [pi _ Y,DF,hfa true,wR,bV,bV,<-rj]
  have hz:=rj i r (t.kind==14) d t.r
  by_cases h0:(gW i r (t.kind==14) d t.r).2=0
  ·grind [ug,mC,al,cj,Ts,bV]
  ·have hze:eT (gW i r (t.kind==14) d t.r)= .error (gW i r (t.kind==14) d t.r).2:=lO h0
   have hen:=De (hz.symm.trans hze)
   rw [dx,decide_eq_false h0,dQ,ao,hze,nL hen];rfl
def nQ (i:Int) (r:LC) (t:Tm):Except Int Tm:=bE (eT (di r i 1)) fun s=>b_ (eb i s false) (eb i s true) 0 t
theorem al2 {i:Int} {r:LC} {t:Tm} {e:Int} (h:nQ i r t= .error e):0<e/\e<=1000:=by
 rcases dl h with h|⟨s,_,h⟩
 ·grind [DD,tL,EN]
 ·exact mH sz sz t h
theorem al3 {i:Int} {r:LC} {t y:Tm} (h:nQ i r t= .ok y):y.kind=t.kind:=by
 obtain ⟨s,_,h⟩:=bH h
 exact Ku h
theorem akh (hk:F3 k) {t:Tm} (ht:Fm t) {i:Int} (hi:0<=i/\i<24) {r:LC} (hr:RF r) (Y:Tm×Int->OS S):n7 k t i r Y=Y (tE (nQ i r t)):=by
 have l2:=hr.len
 have hdp:=ht.dep
 simp only [n7,ap hk.fu,aJ,FA,pk ht.ok (ht.fd hk) (show ax t<1099511627776 by omega),ht.2,akt hk.fu,um hk.fu hr.2 hr.lt,hr.right,decide_eq_true hi,yu hk.fu hr.2 (show r.length<1073741824 by omega) (show aQ i by unfold aQ;omega) (show aQ 1 by unfold aQ;omega),Fr,Fs,Ft,Fq]
 rw [show ((0:Int)==0)=true from rfl,cF,al,al,al,al]
 rw [mz _ Y]
 unfold nQ
 rw [bV]
 by_cases h0:(di r i 1).2=0
 ·have hs:=nu h0
  rw [dx,decide_eq_true h0,cF,al,mC h0,cj,aiX hi hs t ht.ok ht.rows _ (ht.fd hk) (by omega) (by omega)]
  refine aj (yB (α:=OS S) (β:=Unit) _ (fun e he=>mH mA mA t he) (fun x=>gP k x 0 i fun r6=>Y (r6.1,r6.2)) fun e=>Y (aD,e)) ?_
  have htw:=amJ (fo:=ci i (di r i 1).1 false) (fa:=ci i (di r i 1).1 true) (G:=Ai i) (fun d f g hf h=>ug hf h) (fun d f hf=>Le hf) t 0 ht.rows
  show _=eE (b_ (fi (ci i (di r i 1).1 false) (Ai i)) (fi (ci i (di r i 1).1 true) (Ai i)) 0 t) _ _
  rw [<-htw,bV]
  refine eJ (fun x hx=> ?_) fun e _=>rfl
  have hw:=UH (fun d f g hf h=>ug hf h) (fun d f g hf h=>ug hf h) (fun d=>SW) t 0 x hx
  obtain ⟨w1,w2,w3,w4⟩:=hw
  obtain ⟨hox,hrx⟩:=w4 ht.ok ht.rows
  rw [aa6 hi x hox hrx _ (hk.fd (by omega)) (by omega) (by omega)]
  exact mz _ Y
 ·rw [dx,decide_eq_false h0,dQ,ao,lO h0];rfl
theorem aj3 (hk:F3 k) {t:Tm} (ht:Fm t) {i:Int} (hi:0<=i/\i<24) {r:LC} (hr:RF r) (Y:Tm->OS S):wq k t i r Y=Y (rE (nQ i r t)):=by
 have l2:=hr.len
 have hdp:=ht.dep
 simp only [wq,ap hk.fu,aJ,Di hk.fu hr.2 (show r.length<1073741824 by omega) (show aQ i by unfold aQ;omega) (show aQ 1 by unfold aQ;omega)]
 rw [decide_eq_false (by have:=ht.rows.no.2.2;omega),al,pi _ Y]
 unfold nQ
 rw [bV]
 by_cases h0:(di r i 1).2=0
 ·have hs:=nu h0
  rw [dx,decide_eq_true h0,cF,al,mC h0,cj,akU hi hs t ht.ok ht.rows _ (ht.fd hk) (by omega) (by omega),pi _ Y]
 ·have hze:eT (di r i 1)= .error (di r i 1).2:=lO h0
  have hen:0<(di r i 1).2/\(di r i 1).2<=1000:=by
   grind [tL,EN]
  rw [dx,decide_eq_false h0,dQ,ao,hze,nL hen];rfl
def In (k:Nat) (t:Tm):Prop:=OkT t/\Fd k (ax t)/\aL t<1099511627776
theorem In.dep {t:Tm} (h:In k t):ax t<1099511627776:=by have:=Bg t;have:=h.2.2;omega
theorem Fm.isIn {t:Tm} (h:Fm t) (hk:F3 k):In k t:=⟨h.ok,h.fd hk,by have:=h.siz;omega⟩
def eD:LT->Int
 |[]=>0
 |t::l=>if dn t=0 then eD l else dn t
theorem I4 {l:LT} (hl: ∀t∈l,OkT t) (h:eD l=0): ∀t∈l,Fm t:=by
 induction l with
 |nil=>simp
 |cons x l ih=>
  intro t ht
  unfold eD at h
  split at h
  ·next h0=>
   rcases d7.1 ht with rfl|ht
   ·exact ⟨hl _ (by simp),h0⟩
   grind
  omega
theorem alH (l:LT):0<=eD l/\eD l<=1000:=by
 induction l with
 |nil=>grind [eD]
 |cons x l ih=>
  unfold eD
  split<;>simp_all [Gq]
theorem yw (c e:Int) (Y:Int->OS S):ky k e c Y=Y (if c=0 then e else c):=by
 grind [ky,bS]
theorem afA (hk:Fu k) (Y:Int->OS S) {l:LT} (hl: ∀t∈l,In k t) (hlen:l.length<1000):
  ∀ (r p:LT) (m:Nat) (b:Int),l=p++r->r.length<m->sI k Y l m b (p.length:Int)=Y (if b=0 then eD r else b):=by
 intro r
 induction r with
 |nil=>
  grind [aq,sI,yQ,al,eD]
 |cons x r ih=>
  intro p m b h hm
  obtain ⟨m,rfl,hm'⟩:=aq hm
  obtain ⟨e1,e2,e3,e4⟩:=aK h (by omega)
  have hx:=hl x (by grind)
  simp only [sI,yQ,e1,ao,e2,aI,ap hk,aJ,pk hx.1 hx.2.1 hx.dep,yw,e3,ih (p++[x]) m _ e4 hm',eD]
  grind
theorem akp (hk:F3 k) {l:LT} (hl: ∀t∈l,In k t) (hlen:l.length<1000) (Y:Int->OS S):n5 k l Y=Y (eD l):=by
 simp only [n5,I8]
 have:=afA hk.fu Y hl hlen l [] k 0 rfl (by omega)
 simp_all
theorem ag2 (hk:Fu k) (Y:Int->OS S) {l:LT} (hl: ∀t∈l,In k t) (hlen:l.length<1000):
  ∀ (r p:LT) (m:Nat),l=p++r->r.length<m->tw k Y l m (p.length:Int)=Y (eD r):=by
 intro r
 induction r with
 |nil=>
  grind [aq,tw,zU,al,eD]
 |cons x r ih=>
  intro p m h hm
  obtain ⟨m,rfl,hm'⟩:=aq hm
  obtain ⟨e1,e2,e3,e4⟩:=aK h (by omega)
  have hx:=hl x (by grind)
  simp only [tw,zU,e1,ao,e2,aI,ap hk,aJ,Dl hx.1 hx.2.1 (show aL x<1099511627776 by have:=hx.2.2;omega),e3,ih (p++[x]) m e4 hm',eD,dx]
  grind [al,ao]
theorem akg (hk:F3 k) {l:LT} (hl: ∀t∈l,In k t) (hlen:l.length<1000) (Y:Int->OS S):wy k l Y=Y (eD l):=by
 simp only [wy,J9]
 exact ag2 hk.fu Y hl hlen l [] k rfl (by omega)
def iX (r:LC) (line:Tm):Except Int Tm:=bE (dy 0 2 0 1 line) (nQ 0 r)
theorem yO {r:LC} {t:Tm} {e:Int} (h:iX r t= .error e):0<e/\e<=1000:=by
 rcases dl h with h|⟨s,_,h⟩
 ·exact nw t h
 ·exact al2 h
theorem aam {r:LC} {t y:Tm} (h:iX r t= .ok y):y.kind=t.kind:=by
 obtain ⟨s,h1,h⟩:=bH h
 rw [al3 h,qE h1]
theorem adT {i:Int} {r:LC} {fa:Bool} {d:Int} {f g:LC} (hf:RF f) (h:eb i r fa d f= .ok g):RF g:=by
 rw [wR] at h
 obtain ⟨m,h1,h⟩:=bH h
 injection h with h;subst h
 exact aaR (ug hf h1).len
theorem adS {i:Int} {r:LC} {fa:Bool} (d:Int):eb i r fa d []= .ok []:=by
 rw [wR,SW,bh];rfl
theorem al4 {i:Int} {r:LC} {t y:Tm} (h:nQ i r t= .ok y):Wk t y:=by
 obtain ⟨s,_,h⟩:=bH h
 grind [UH,adT,adS]
theorem aan {r:LC} {t y:Tm} (ht:Fm t) (h:iX r t= .ok y):OkT y/\RowsT y/\ax y<=200/\aL y<=20000:=by
 obtain ⟨s,h1,h⟩:=bH h
 have hs:=qD (by omega) ht h1
 obtain ⟨w1,w2,w3,w4⟩:=al4 h
 have h4:=w4 hs.ok hs.rows
 have:=hs.dep;have:=hs.siz
 grind
section
variable {c:Int}
theorem ako (hc:c≠0) (hk:F3 k) (l:Tm) (r:LC) (Y:Tm×Int->OS S):mR k l r c Y=Y (aD,c):=by
 simp only [mR,ap hk.fu,fR,dx,decide_eq_false hc,dQ,ao];rfl
theorem IX (hc:c≠0) (hk:F3 k) (l:Tm) (a b:Int) (Y:Tm×Int->OS S):iz k l a b c Y=Y (aD,c):=by
 simp only [iz,ap hk.fu,fR,dx,decide_eq_false hc,dQ,ao];rfl
theorem Dg (hc:c≠0) (hk:F3 k) (l:Tm) (Y:Tm×Int×Int->OS S):iy k l c Y=Y (aD,c,c):=by
 simp only [iy,ap hk.fu,fR,dx,decide_eq_false hc,dQ,ao,al];rfl
end
theorem alh (hk:F3 k) {f:LC} (hf:aw f) (hl:f.length<1073741824) (Y:LC×Int->OS S):pQ k f 0 Y=Y (di f 0 1):=by
 simp only [pQ,ap hk.fu,fR,yu hk.fu hf hl (show aQ 0 by unfold aQ;omega) (show aQ 1 by unfold aQ;omega),yw,if_true]
 rfl
theorem TX (hk:F3 k) {t:Tm} (ht:Fm t) {a b:Int} (ha:0<=a/\a<=1000000) (hb:0<=b/\b<9223372036854775808) (Y:Tm×Int->OS S):iz k t a b 0 Y=Y (tE (bQ a b t)):=by
 simp only [iz,ap hk.fu,fR,aJ,Tx hk ht ha hb,yw,if_true]
 rfl
theorem akn (hk:F3 k) {t:Tm} (ht:Fm t) {r:LC} (hr:RF r) (Y:Tm×Int->OS S):mR k t r 0 Y=Y (tE (iX r t)):=by
 simp only [mR,ap hk.fu,fR,aJ,akJ hk ht (show (0:Int)<=1/\(1:Int)<=24 by omega) (show (0:Int)<=2/\(2:Int)<9223372036854775808 by omega),yw,if_true]
 rw [show ((0:Int)==0)=true from rfl,cF,al,mz _ Y]
 unfold iX
 rw [bV]
 cases hx:dy 0 2 0 1 t with
 |error e=>
  have:=nw t hx
  show ac (!(e==0)) (Y (aD,e)) _=_
  rw [dx,decide_eq_false (by omega),dQ,ao];rfl
 |ok y=>
  have hy:=qD (by omega) ht hx
  show ac (!((0:Int)==0)) _ (n7 k y 0 r fun r5=>Y (r5.1,if (0:Int)=0 then r5.2 else 0))=_
  simp_all [al,akh,cj,mz]
theorem akw (hk:F3 k) {t:Tm} (ht:In k t) (Y:Tm×Int×Int->OS S):iy k t 0 Y=Y (if dn t=0 then (t,0,0) else (aD,dn t,dn t)):=by
 simp only [iy,ap hk.fu,fR,aJ,pk ht.1 ht.2.1 ht.dep,yw,if_true]
 rw [show ((0:Int)==0)=true from rfl,ao,dx]
 by_cases h0:dn t=0
 ·grind [al]
 ·rw [decide_eq_false h0,if_neg h0,dQ,ao];rfl
def j5 (x:Except Int Tm):Except Int Tm:=bE x fun t=>if dn t=0 then .ok t else .error (dn t)
theorem Un {z:LC×Int} (hz:EN z.2) {e:Int} (h:eT z= .error e):0<e/\e<=1000:=by
 grind [DD,EN]
theorem aj7 (hk:F3 k) {t:Tm} (ht:Fm t) {r:LC} (hr:RF r) (Y:Tm->OS S):wv k t r Y=Y (rE (iX r t)):=by
 simp only [wv,ap hk.fu,aJ,akT hk ht (show (0:Int)<=1/\(1:Int)<=24 by omega) (show (0:Int)<=2/\(2:Int)<9223372036854775808 by omega)]
 rw [decide_eq_false (by have:=ht.rows.no.2.2;omega),al,pi _ Y]
 unfold iX
 rw [bV]
 cases hx:dy 0 2 0 1 t with
 |error e=>
  have:=nw t hx
  show ac (!(e==0)) (iC k e _) _=Y (dw e)
  rw [dx,decide_eq_false (by omega),dQ,ao,nL this];rfl
 |ok y=>
  have hy:=qD (by omega) ht hx
  show ac (!((0:Int)==0)) _ (wq k y 0 r fun r3=>Y r3)=_
  grind [al,aj3,cj,pi]
theorem Nz (hk:Fu k) (Y:Tm->OS S) {kd:Int} {l:LT} (hlen:l.length<1000):
  ∀ (r p:LT) (m:Nat),l=p++r->r.length<m->tv k Y kd l m (p.length:Int)=Y (match r.find? fun x=>decide (x.kind<0) with|some x=>x|none=> .mk kd 0 av [] l []):=by
 intro r
 induction r with
 |nil=>
  grind [aq,tv,zT,al]
 |cons x r ih=>
  intro p m h hm
  obtain ⟨m,rfl,hm'⟩:=aq hm
  obtain ⟨e1,e2,e3,e4⟩:=aK h (by omega)
  grind [tv,zT,ao,aJ,al]
theorem akk (hk:F3 k) {kd:Int} {x y:Except Int Tm} (hx: ∀e,x= .error e->0<e) (hx': ∀t,x= .ok t->0<=t.kind) (hy: ∀e,y= .error e->0<e) (hy': ∀t,y= .ok t->0<=t.kind) (Y:Tm->OS S):
  md k kd (rE x) (rE y) Y=Y (rE (bE x fun a=>bE y fun b=> .ok (.mk kd 0 av [] [a,b] []))):=by
 simp only [md,ap hk.fu,aJ,wx,DB]
 have:=Nz hk.fu Y (kd:=kd) (l:=[rE x,rE y]) (by simp) [rE x,rE y] [] k rfl (by grind)
 refine aj this ?_
 congr 1
 rw [List.find?_cons,List.find?_cons]
 cases x with
 |error e=>rw [show rE (.error e)=dw e from rfl,ml (hx e rfl)];rfl
 |ok a=>
  rw [show rE (.ok a)=a from rfl,decide_eq_false (by grind),bh]
  cases y with
  |error e=>rw [show rE (.error e)=dw e from rfl,ml (hy e rfl)];rfl
  |ok b=>rw [show rE (.ok b)=b from rfl,decide_eq_false (by grind)];rfl
theorem amp {a b:Int} {t y:Tm} (h:bQ a b t= .ok y):y.kind=t.kind:=by
 obtain ⟨s,h1,h⟩:=bH h
 rw [qE h,qE h1]
theorem Tf (hk:F3 k) {x:Except Int Tm} (hx: ∀e,x= .error e->0<e/\e<=1000) (hx': ∀t,x= .ok t->In k t/\0<=t.kind) (Y:Tm×Int->OS S):sa k (rE x) Y=Y (tE (j5 x)):=by
 simp only [sa,ap hk.fu,aJ]
 unfold j5
 cases x with
 |error e=>
  have he:=hx e rfl
  rw [show rE (.error e)=dw e from rfl,ml he.1,ao,dz (show-9223372036854775808<=0-(dw e).kind by show _<=0-(-e);omega) (by show 0-(-e)<_;omega)]
  show Y (aD,0-(-e))=Y (aD,e)
  simp
 |ok t=>
  obtain ⟨hin,hkd⟩:=hx' t rfl
  rw [show rE (.ok t)=t from rfl,decide_eq_false (by omega),al,Dl hin.1 hin.2.1 (by have:=hin.2.2;omega),bh,dx]
  by_cases h0:dn t=0
  ·rw [decide_eq_true h0,cF,al,if_pos h0];rfl
  ·rw [decide_eq_false h0,dQ,ao,if_neg h0];rfl
end Go.Proofs.YtgajalidbabccaaGreatDoor
namespace Go.Proofs.YtgajalidbabccaaGreatDoor
open Go PI
set_option maxRecDepth 100000

set_option maxRecDepth 20000
variable {S:Type} {k:Nat}
theorem Tq {l:LC} (hl:l.length<1073741824) (Y:LC->OS S):tU l Y=Y l:=by
 grind [tU,bA]
section
variable {hd:Tm->(Tm->OS S)->OS S}
theorem afF (hk:Fu k) (Y:LT->OS S) {l:LT} (hQ: ∀y∈l,∀g,hd y g=g y) (hl:l.length<1073741824):
  ∀ (r p:LT) (m:Nat),l=p++r->r.length<m->tD hd k Y l m p (p.length:Int)=Y l:=by
 intro r
 induction r with
 |nil=>
  grind [aq,tD,z7,al]
 |cons y r ih=>
  intro p m h hm
  obtain ⟨m,rfl,hm'⟩:=aq hm
  obtain ⟨e1,e2,e3,e4⟩:=aK h (by omega)
  grind [tD,z7,ao,aJ,bA]
theorem Tr (hk:Fu k) {l:LT} (hQ: ∀y∈l,∀g,hd y g=g y) (hl:l.length<1073741824) (Y:LT->OS S):wA hd k l Y=Y l:=by
 simp only [wA,Kf]
 exact afF hk Y hQ hl l [] k rfl (by omega)
theorem afG (hk:Fu k) (Y:Tm->OS S) {t:Tm} (ht:OkT t) (hQ: ∀b∈t.sys,∀y∈b.kids,∀g,hd y g=g y) (r1:LC) (r2:LT):
  ∀ (r p:LB) (m:Nat),t.sys=p++r->r.length<m->tC hd k Y t r1 r2 m p (p.length:Int)=Y (.mk t.kind t.n t.name r1 r2 t.sys):=by
 obtain ⟨o1,o2,o3,o4,o5,o6,o7⟩:=ht.no
 intro r
 induction r with
 |nil=>
  grind [aq,tC,z6,al]
 |cons y r ih=>
  intro p m h hm
  obtain ⟨m,rfl,hm'⟩:=aq hm
  obtain ⟨e1,e2,e3,e4⟩:=aK h (by omega)
  have hy:y∈t.sys:=by grind
  have hb:=(ht.bi hy).1
  have hlen:p.length+r.length+1=t.sys.length:=by grind
  simp only [tC,z6,e1,ao,e2,aI,aJ,e3,Tq hb.2.1,ap hk,Tr hk (hQ y hy) hb.2.2]
  rw [bA (by grind)]
  have:=ih (p++[y]) m e4 hm'
  omega
end
theorem Te (t:Tm):OkT t-> ∀ {k:Nat} (Y:Tm->OS S),Fd k (ax t)->fT k t Y=Y t:=by
 induction t using il with
 |h t ih1 ih2=>
  intro ht k Y hk
  obtain ⟨q,rfl,hq,hf⟩:=hk.pos' (fq t)
  obtain ⟨o1,o2,o3,o4,o5,o6,o7⟩:=ht.no
  simp only [fT,Ke,Tq o5,ap hq,Tr hq (fun y hy g=>ih1 y hy (ht.ki hy) g (hf _ (eN hy))) o6]
  have:=afG hq Y ht (fun b hb y hy g=>ih2 b hb y hy ((ht.bi hb).2 y hy) g (hf _ (eX hb hy))) t.r t.kids t.sys [] q rfl (by omega)
  refine aj this ?_
  cases t;rfl
theorem aiB {v d d':Int} (h:24<=d) (h':24<=d') (t:Tm):fE v d t=fE v d' t:=by
 have hb: ∀kd,dS kd d=dS kd d':=fun kd=>by grind [dS,Ca]
 simp_all [fE,Ca]
theorem EX (t:Tm): ∀ {v d d':Int},24<=d->24<=d'->cm false v d t=cm false v d' t:=by
 induction t using il with
 |h t ih1 ih2=>
  intro v d d' h h'
  rw [yM,yM,aiB h h']
  have hK: ∀ (l:LT) (i:Nat),(∀x∈l,x∈t.kids)->dL false v d t.kind i l=dL false v d' t.kind i l:=by
   intro l
   induction l<;>grind [dL,dR]
  grind [yL,aM]
theorem SQ:RF [⟨3,0⟩]:=lL ⟨⟨by decide,by decide⟩,by decide,by decide⟩
theorem ah3:bR ⟨0,1⟩:=⟨⟨by decide,by decide⟩,by decide,by decide⟩
theorem PE:OkT aD:=by
 unfold aD
 rw [OkT,cR,cG]
 exact ⟨⟨by unfold aQ;omega,by unfold aQ;omega,by simp,fun c hc=>(by cases hc),by simp,by simp,by simp⟩,trivial,trivial⟩
theorem o8 (hk:F3 k):In k aD:=⟨PE,hk.fd (by grind [aD,ax,bu,bU]),by grind [aD,aL,aN,aS]⟩
theorem Dq (t:Tm):aL t=1+aN t.kids+aS t.sys:=by cases t;rfl
section
variable {hd:Tm->Int->(Int->OS S)->OS S} {t:Tm}
end
def ee (kd:Int) (l:LT):Tm:= .mk kd 0 av [] l []
def pu (c a b:Int) (t:Tm):Tm×Int:=if c=0 then tE (bQ a b t) else (aD,c)
def tmE (p:Tm×Int):Except Int Tm:=if p.2=0 then .ok p.1 else .error p.2
theorem yG {c a b:Int} {t:Tm} (h:c≠0):pu c a b t=(aD,c):=if_neg h
theorem amq {c a b:Int} {t:Tm} (h:(pu c a b t).2=0):c=0:=by
 grind [yG]
theorem Uv (a b:Int) (t:Tm):pu 0 a b t=tE (bQ a b t):=rfl
theorem TW (hk:F3 k) {c:Int} {t:Tm} (h:c=0->Fm t) {a b:Int} (ha:0<=a/\a<=1000000) (hb:0<=b/\b<9223372036854775808) (Y:Tm×Int->OS S):iz k t a b c Y=Y (pu c a b t):=by
 by_cases hc:c=0
 ·subst hc;exact TX hk (h rfl) ha hb Y
 grind [IX,yG]
theorem akv (hk:F3 k) {t:Tm} {c:Int} (h:c=0->In k t) (Y:Tm×Int->OS S):(iy k t c fun r=>Y (r.1,r.2.1))=Y (tE (j5 (tmE (t,c)))):=by
 by_cases hc:c=0
 ·subst hc
  rw [akw hk (h rfl)]
  show _=Y (tE (j5 (.ok t)))
  unfold j5
  rw [bh]
  by_cases h0:dn t=0
  ·rw [if_pos h0,if_pos h0];rfl
  ·rw [if_neg h0,if_neg h0];rfl
 ·rw [Dg hc hk]
  show _=Y (tE (j5 (if c=0 then _ else _)))
  rw [if_neg hc];rfl
def Fd2 (n m:Nat) (t:Tm):Prop:=OkT t/\cm false (-1) 24 t=true/\ax t<=n/\aL t<=m
theorem Fd2.isIn {n m:Nat} {t:Tm} (h:Fd2 n m t) (hk:F3 k) (hn:n<=1000) (hm:m<=1000000):In k t:=⟨h.1,hk.fd (by have:=h.2.2.1;omega),by have:=h.2.2.2;omega⟩
theorem Fm.f2 {t:Tm} (h:Fm t):Fd2 200 20000 t:=⟨h.1,(j8 h.2).2.2,(j8 h.2).1,(j8 h.2).2.1⟩
theorem Fd2.mono {n m n' m':Nat} {t:Tm} (h:Fd2 n m t) (hn:n<=n') (hm:m<=m'):Fd2 n' m' t:=⟨h.1,h.2.1,by have:=h.2.2.1;omega,by have:=h.2.2.2;omega⟩
theorem Fd2.up {n m:Nat} {t t':Tm} (h:Fd2 n m t) {a b:Int} (ha:0<=a/\a<=1000000000) (hl:bQ a b t= .ok t'):Fd2 n m t':=by
 obtain ⟨u,h1,h2⟩:=bH hl
 obtain ⟨p1,p2,p3,p4⟩:=Ha ha.1 ha.2 t 0 0 u h1
 obtain ⟨q1,q2,q3,q4⟩:=Ha (by omega) (by omega) u 0 0 t' h2
 have w:=p4 h.1
 have w2:=q4 w.1
 have ho:=w.2.2 24 24 (by omega) (by omega) h.2.1
 exact ⟨w2.1,w2.2.2 24 24 (by omega) (by omega) ho,by have:=h.2.2.1;omega,by have:=h.2.2.2;omega⟩
mutual
def Fg (n:Int):Tm->Nat
 | .mk kd m _ _ ks sys=>(if kd=1/\m=n then 1 else 0)+(K9 n kd 0 ks+La n sys)
def K9 (n kd:Int) (i:Nat):LT->Nat
 |[]=>0
 |t::l=>Fg (n+fj kd i) t+K9 n kd (i+1) l
def La (n:Int):LB->Nat
 |[]=>0
 |b::l=>aaO n b+La n l
def aaO (n:Int):Br Tm->Nat
 | .mk _ ks=>K_ n ks
def K_ (n:Int):LT->Nat
 |[]=>0
 |t::l=>Fg n t+K_ n l
end
mutual
def HN (n:Int) (u:Tm) (v d:Int):Tm->Except Int Tm
 | .mk kd m nm r ks sys=>if kd=1/\m=n+v then bQ v d u else bE (PT n u v d kd 0 ks) fun ks'=>bE (PX n u v d kd sys) fun sys'=> .ok (.mk kd (if kd=1/\m>n+v then m-1 else m) nm r ks' sys')
def PT (n:Int) (u:Tm) (v d kd:Int) (i:Nat):LT->Except Int (LT)
 |[]=> .ok []
 |t::l=>bE (HN n u (v+fj kd i) (d+dR kd i) t) fun t'=>bE (PT n u v d kd (i+1) l) fun l'=> .ok (t'::l')
def PX (n:Int) (u:Tm) (v d kd:Int):LB->Except Int (LB)
 |[]=> .ok []
 |b::l=>bE (aiE n u v d kd b) fun b'=>bE (PX n u v d kd l) fun l'=> .ok (b'::l')
def aiE (n:Int) (u:Tm) (v d kd:Int):Br Tm->Except Int (Br Tm)
 | .mk f ks=>bE (PW n u v d kd ks) fun ks'=> .ok (.mk f ks')
def PW (n:Int) (u:Tm) (v d kd:Int):LT->Except Int (LT)
 |[]=> .ok []
 |t::l=>bE (HN n u v (d+aM kd) t) fun t'=>bE (PW n u v d kd l) fun l'=> .ok (t'::l')
end
def aiF (n:Int) (t u:Tm):Except Int Tm:=if aL t+Fg n t*(aL u-1)>20000 then .error 221 else bE (HN n u 0 0 t) fun o=>if ax o>200 then .error 62 else .ok o
section
variable {n v d kd:Int} {u:Tm}
end
def BP {α:Type} (t:Tm) (x:Except Int α):Except Int α:=if dn t=0 then x else .error (dn t)
theorem adR {α:Type} {t:Tm} {x:Except Int α} {e:Int} (hx: ∀e,x= .error e->0<e/\e<=1000) (h:BP t x= .error e):0<e/\e<=1000:=by
 unfold BP at h
 split at h
 ·exact hx e h
 ·rename_i h0
  injection h with h
  have:=Gq t;omega
def uz (a b:Int) (t:Tm):Except Int Tm:=BP t (bQ a b t)
theorem kr {e:Int} (h:e≠0):(e==0)=false:=by simpa using h
theorem aj4 (hk:F3 k) {t:Tm} (ht:In k t) {vb db:Int} (hvb:0<=vb/\vb<=1000000) (hdb:0<=db/\db<9223372036854775808) (Y:Tm×Int->OS S):pS k t vb db Y=Y (tE (uz vb db t)):=by
 unfold uz BP
 by_cases h:dn t=0
 ·rw [if_pos h];exact Tx hk ⟨ht.1,h⟩ hvb hdb Y
 ·rw [if_neg h]
  simp only [pS,ap hk.fu,aJ,AN,Dz,pk ht.1 ht.2.1 ht.dep,kr h,dQ,ao];rfl
end Go.Proofs.YtgajalidbabccaaGreatDoor
namespace Go.Proofs.YtgajalidbabccaaGreatDoor
open Go PI
set_option maxRecDepth 20000

variable {S:Type} {k:Nat}
def fF (l:LT) (x:Except Int Tm):Except Int Tm:=if eD l=0 then j5 x else .error (eD l)
structure Gd (x:Except Int Tm):Prop where
 en: ∀e,x= .error e->0<e/\e<=1000
 kd: ∀t,x= .ok t->0<=t.kind
theorem BT {t:Tm} (h:0<=t.kind):Gd (.ok t):=⟨fun e h=>(by cases h),fun t' h'=>by grind⟩
theorem BU {a b:Int} {t:Tm} (h:Fm t):Gd (bQ a b t):=⟨fun e he=>iO he,fun t' h'=>by rw [amp h'];exact h.rows.no.2.2⟩
theorem Tk (hk:F3 k) {kd:Int} {x y:Except Int Tm} (hx:Gd x) (hy:Gd y) (Y:Tm->OS S):md k kd (rE x) (rE y) Y=Y (rE (bE x fun a=>bE y fun b=> .ok (ee kd [a,b]))):=
 akk hk (fun e h=>(hx.en e h).1) hx.kd (fun e h=>(hy.en e h).1) hy.kd Y
theorem ald (hk:F3 k) {l:LT} {x:Except Int Tm} (hl: ∀t∈l,In k t) (hlen:l.length<1000) {F:(Tm->OS S)->OS S} (hF:eD l=0-> ∀g,F g=g (rE x)) (hx:eD l=0->(∀e,x= .error e->0<e/\e<=1000)/\ ∀t,x= .ok t->In k t/\0<=t.kind) (Y:Tm×Int->OS S):
  (wy k l fun r1=>ac (!(r1==0)) (Y (aD,r1)) (F fun r2=>sa k r2 fun r3=>Y (r3.1,r3.2)))=Y (tE (fF l x)):=by
 rw [akg hk hl hlen,dx]
 unfold fF
 by_cases h0:eD l=0
 ·grind [al,Tf]
 ·rw [decide_eq_false h0,dQ,ao,if_neg h0];rfl
section
variable {hd:Tm->(Tm->OS S)->OS S} {t:Tm}
theorem agy (hk:Fu k) (Y:Tm->OS S) (rec1:LB->Int->OS S) {ks:LT} {acc:LB} {x:Br Tm} {i:Int} (hi:ak t.sys i=some x) (hQ: ∀y∈x.kids,∀g,hd y g=g y) (hl:x.kids.length<1073741824) (hacc:acc.length<1073741824):
  ∀ (r p:LT) (m:Nat),x.kids=p++r->r.length<m->qv hd k Y rec1 t ks acc x i m p (p.length:Int)=rec1 (acc++[x]) (ag .i64 (i+1)):=by
 intro r
 induction r with
 |nil=>
  intro p m h hm
  obtain ⟨m,rfl,hm'⟩:=aq hm
  simp only [qv,zL,hi,aI,d2 h,al]
  rw [bA (by grind)]
  have:p=x.kids:=by grind
  subst this
  rfl
 |cons y r ih=>
  intro p m h hm
  obtain ⟨m,rfl,hm'⟩:=aq hm
  obtain ⟨e1,e2,e3,e4⟩:=aK h (by omega)
  have hlen:p.length+r.length+1=x.kids.length:=by grind
  simp only [qv,zL,hi,e1,ao,e2,aI,aJ,e3,hQ y (by grind)]
  grind [bA]
theorem agx (hk:Fu k) (Y:Tm->OS S) (ht:OkT t) (hQ: ∀b∈t.sys,∀y∈b.kids,∀g,hd y g=g y) {ks:LT}:
  ∀ (r p:LB) (m:Nat),t.sys=p++r->r.length<m->nf hd k Y t ks m p (p.length:Int)=Y (.mk t.kind t.n t.name t.r ks t.sys):=by
 obtain ⟨o1,o2,o3,o4,o5,o6,o7⟩:=ht.no
 intro r
 induction r with
 |nil=>
  grind [aq,nf,vg,al]
 |cons y r ih=>
  intro p m h hm
  obtain ⟨m,rfl,hm'⟩:=aq hm
  obtain ⟨e1,e2,e3,e4⟩:=aK h (by omega)
  have hy:y∈t.sys:=by grind
  have hb:=(ht.bi hy).1
  have hlen:p.length+r.length+1=t.sys.length:=by grind
  simp only [nf,vg,e1,ao,e2,aI]
  rw [bA (by grind)]
  have:=agy (t:=t) hk Y (nf hd k Y t ks m) (ks:=ks) (acc:=p) e2 (hQ y hy) hb.2.2 (by omega) y.kids [] k rfl (by omega)
  grind
theorem agw (hk:Fu k) (Y:Tm->OS S) (ht:OkT t) (hQ: ∀y∈t.kids,∀g,hd y g=g y) (hQ': ∀b∈t.sys,∀y∈b.kids,∀g,hd y g=g y):
  ∀ (r p:LT) (m:Nat),t.kids=p++r->r.length<m->tn hd k Y t m p (p.length:Int)=Y t:=by
 obtain ⟨o1,o2,o3,o4,o5,o6,o7⟩:=ht.no
 intro r
 induction r with
 |nil=>
  intro p m h hm
  obtain ⟨m,rfl,hm'⟩:=aq hm
  simp only [tn,vf,d2 h,al]
  have:=agx hk Y ht hQ' (ks:=p) t.sys [] k rfl (by omega)
  refine aj this ?_
  have hp:p=t.kids:=by grind
  subst hp
  cases t;rfl
 |cons y r ih=>
  intro p m h hm
  obtain ⟨m,rfl,hm'⟩:=aq hm
  obtain ⟨e1,e2,e3,e4⟩:=aK h (by omega)
  grind [tn,vf,ao,aJ,bA]
end
theorem ak5 (t:Tm):OkT t-> ∀ {k:Nat} (Y:Tm->OS S),Fd k (ax t)->ma k t Y=Y t:=by
 induction t using il with
 |h t ih1 ih2=>
  intro ht k Y hk
  obtain ⟨q,rfl,hq,hf⟩:=hk.pos' (fq t)
  obtain ⟨o1,o2,o3,o4,o5,o6,o7⟩:=ht.no
  simp only [ma,JR]
  rw [bA (by grind)]
  exact agw hq Y ht (fun y hy g=>ih1 y hy (ht.ki hy) g (hf _ (eN hy))) (fun b hb y hy g=>ih2 b hb y hy ((ht.bi hb).2 y hy) g (hf _ (eX hb hy))) t.kids [] q rfl (by omega)
def du (sys:LB):Tm:= .mk 15 0 av [] [.mk 3 0 av [] [] [],.mk 3 0 av [] [] []] sys
theorem aln (hk:Fu k) (sys:LB) (Y:Int×Int×BA×LT×LB->OS S):rG k sys Y=Y (15,0,av,[.mk 3 0 av [] [] [],.mk 3 0 av [] [] []],sys):=by
 simp_all [rG,jm,ap]
theorem akd (hk:Fu k) (sys:LB) (Y:Tm->OS S):A4 k 15 sys Y=Y (du sys):=by
 obtain ⟨q,hq⟩: ∃q,k=q+3:=⟨k-3,by omega⟩
 have h2:gS 15=2:=by rfl
 have hj:tu k Y 15 sys k [] 0=Y (du sys):=by
  have: ∀j,j=q+3->tu k Y 15 sys j [] 0=Y (du sys):=by
   rintro j rfl
   simp only [tu,E6,ap hk,TM,h2,show decide ((0:Int)<2)=true from rfl,ao]
   rfl
  grind
 grind [A4,J7]
def aP (b:Br Tm):Tm:=b.kids.headD aD
structure SyF (sys:LB):Prop where
 kid: ∀b∈sys,b.kids=[aP b]/\Fm (aP b)/\aw b.face/\b.face.length<1073741824
 len:sys.length<=20000
 siz:aS sys<=20000
theorem uA {sys:LB} (h:Fm (du sys)):SyF sys:=by
 obtain ⟨h1,h2,h3⟩:=j8 h.2
 have hz:aL (du sys)=3+aS sys:=by rfl
 have hd:bU sys+1<=ax (du sys):=by grind [du,ax]
 unfold du at h3
 rw [cm] at h3
 simp only [aF] at h3
 obtain ⟨_,ho,_,hS⟩:=h3
 have ho:(sys.all (dS 15 24)&&decide (([]:LC).length=0))=true:=by
  grind [fE]
 simp only [aF] at ho
 have hb:=dI.1 ho.1
 rw [yL,dI] at hS
 have hk: ∀b∈sys,b.kids=[aP b]/\Fm (aP b)/\aw b.face/\b.face.length<1073741824:=by
  intro b hb'
  have h1':=hb b hb'
  unfold dS at h1'
  simp only [aF,decide_eq_true_eq] at h1'
  have hl:b.kids.length=1:=by grind [eB]
  have hok:=h.1.br (by exact hb':b∈sys)
  match hb2:b.kids,hl with
  |[x],_=>
   have hx:aP b=x:=by grind [aP]
   have hmem:x∈b.kids:=by grind
   rw [hx]
   refine ⟨rfl,⟨hok.2 x hmem,wS ?_ ?_ ?_⟩,hok.1.1,hok.1.2.1⟩
   ·have:=FV hmem;have:=LQ hb';omega
   ·have:=rg hmem;have:=Dr hb';omega
   ·have:=dI.1 (hS b hb') x hmem
    rw [<-this]
    exact EX x (by omega) (by decide)
 have hlen: ∀l:LB,(∀b∈l,b.kids=[aP b])->l.length<=aS l:=by
  intro l
  induction l<;>grind [aS,uo,aN,uq]
 exact ⟨hk,by grind,by omega⟩
def Lb (line:Tm):LB->Except Int (LB)
 |[]=> .ok []
 |b::r=>bE (iX [⟨1,0⟩,⟨2,0⟩] line) fun u=>bE (Lb line r) fun l=> .ok (.mk b.face [.mk 14 0 av [⟨1,0⟩] [u,aP b] []]::l)
def aaP (line a:Tm) (sys:LB):Except Int Tm:=bE (nQ 0 [⟨0,0⟩] line) fun l1=>bE (Lb line sys) fun l=> .ok (.mk 15 0 av [] [l1,ee 14 [line,a]] l)
theorem IJ (hk:F3 k) {kd n:Int} {nm:BA} {r:LC} {ks:LT} {acc:LB} (hkd:0<=kd) (hacc:acc.length<1073741824) {f:LC} {x:Except Int Tm} (hx:Gd x) (Y:Tm->OS S):
  jp k (.mk kd n nm r ks acc) f (rE x) Y=Y (rE (bE x fun y=> .ok (.mk kd n nm r ks (acc++[.mk f [y]])))):=by
 simp only [jp,aJ]
 rw [show decide ((Tm.mk kd n nm r ks acc).kind<0)=false from decide_eq_false (show ¬kd<0 by omega),al]
 cases x with
 |error e=>rw [show rE (.error e)=dw e from rfl,ml (hx.en e rfl).1,ao];rfl
 |ok y=>
  rw [show rE (.ok y)=y from rfl,decide_eq_false (by have:=hx.kd y rfl;omega),al,bA (n:=([]:LB).length) (m:=(Tm.mk kd n nm r ks acc).sys.length) (by show 0+acc.length<=_;omega),bA (by show acc.length+1<=_;omega)];rfl
def kI:LB->Except Int (LB)
 |[]=> .ok []
 |b::r=>bE (eT (di b.face 0 1)) fun f=>bE (iX [⟨3,0⟩] (aP b)) fun u=>bE (kI r) fun l=> .ok (.mk f [u]::l)
def fU (t a:Tm) (sys:LB):Except Int Tm:=bE (bQ 0 1 t) fun t'=>bE (bQ 0 1 a) fun a'=>bE (kI sys) fun l=>bE (bQ 0 2 a) fun a2=> .ok (.mk 15 0 av [] [t',a'] (l++[.mk [⟨0,1⟩] [a2]]))
theorem adM: ∀ {r:LB} {e:Int},kI r= .error e->0<e/\e<=1000:=by
 intro r
 induction r with
 |nil=>intro e h;cases h
 |cons b r ih=>
  intro e h
  rcases dl h with h|⟨_,_,h⟩<;>grind [dl,Un,tL,yO]
theorem wP {t a:Tm} {sys:LB} {e:Int} (h:fU t a sys= .error e):0<e/\e<=1000:=by
 rcases dl h with h|⟨_,_,h⟩
 ·exact iO h
 rcases dl h with h|⟨_,_,h⟩
 ·exact iO h
 rcases dl h with h|⟨_,_,h⟩
 ·exact adM h
 rcases dl h with h|⟨_,_,h⟩
 ·exact iO h
 simp_all
theorem adN: ∀ {r l:LB},(∀b∈r,b.kids=[aP b]/\Fm (aP b)/\aw b.face/\b.face.length<1073741824)->kI r= .ok l->cG l/\bU l<=201/\aS l<=r.length*20001/\l.length=r.length:=by
 intro r
 induction r with
 |nil=>
  intro l _ h
  injection h with h;grind [cG,bU,aS]
 |cons b r ih=>
  intro l hr h
  obtain ⟨f,h0,h⟩:=bH h
  obtain ⟨u,h1,h⟩:=bH h
  obtain ⟨l',h2,h⟩:=bH h
  injection h with h;subst h
  obtain ⟨b1,b2,b3,b4⟩:=hr b (by simp)
  obtain ⟨i1,i2,i3,i4⟩:=ih (fun b hb=>hr b (by simp [hb])) h2
  obtain ⟨a1,a2,a3,a4⟩:=aan b2 h1
  obtain ⟨g1,rfl⟩:=uy h0
  have hf:=nu g1
  have:=hf.len
  refine ⟨?_, ?_, ?_,by simp [i4]⟩
  ·rw [cG,kY,cR,cR]
   exact ⟨⟨⟨hf.2,by omega,by simp⟩,a1,trivial⟩,i1⟩
  all_goals grind [bU,mf,bu,aS,jD,aN]
theorem ah1 {l l':LB} (h:cG l) (h':cG l'):cG (l++l'):=by
 grind [PK]
theorem aaX (l l':LB):bU (l++l')=max (bU l) (bU l'):=by
 induction l<;>grind [bU]
theorem alz (l l':LB):aS (l++l')=aS l+aS l':=by
 induction l<;>grind [aS]
theorem ah2:aw [⟨0,1⟩]:=fun c hc=>by grind [ah3]
theorem wQ (hk:F3 k) {t a:Tm} {sys:LB} (ht:Fm t) (ha:Fm a) (hs:SyF sys) {x:Tm} (h:fU t a sys= .ok x):In k x/\0<=x.kind:=by
 obtain ⟨t',h1,h⟩:=bH h
 obtain ⟨a',h2,h⟩:=bH h
 obtain ⟨l,h3,h⟩:=bH h
 obtain ⟨a2,h4,h⟩:=bH h
 injection h with h;subst h
 have f1:=mG (by omega) ht h1
 have f2:=mG (by omega) ha h2
 have f4:=mG (by omega) ha h4
 obtain ⟨i1,i2,i3,i4⟩:=adN hs.kid h3
 have:=hs.len;have:=f1.dep;have:=f2.dep;have:=f4.dep;have:=f1.siz;have:=f2.siz;have:=f4.siz
 have hm:sys.length*20001<=20000*20001:=jl _ hs.len
 refine ⟨⟨?_,hk.fd ?_, ?_⟩,(by decide:(0:Int)<=15)⟩
 ·rw [OkT,cR,cR,cR]
  refine ⟨⟨by unfold aQ;omega,by unfold aQ;omega,by simp,fun c hc=>(by cases hc),by simp,by simp,by grind⟩,⟨f1.ok,f2.ok,trivial⟩,ah1 i1 ?_⟩
  rw [cG,cG,kY,cR,cR]
  exact ⟨⟨⟨ah2,by simp,by simp⟩,f4.ok,trivial⟩,trivial⟩
 all_goals grind [ax,bu,aaX,bU,mf,aL,aN,alz,aS,jD]
theorem w9 (hk:F3 k) (Y:Tm×Int->OS S) {a:Tm} {q:Int×Int×BA×LT} {sys:LB} {c:Int} (hc:c≠0) (hsl:sys.length<1073741824):
  ∀ (r p acc:LB) (m:Nat),sys=p++r->0<m->acc.length<1073741824->kL k Y a q sys m c acc (p.length:Int)=Y (aD,c):=by
 intro r p acc m h hm ha
 obtain ⟨m,rfl⟩: ∃j,m=j+1:=⟨m-1,by omega⟩
 have hr: ∀ (b:Br Tm) (f:Unit->OS S),af (aE 1099511627776 acc.length [b].length) f=f ():=fun b f=>bA (by grind) f
 cases r with
 |nil=>grind [kL,rq,al,aJ,ap,IX,Dg]
 |cons x r=>
  obtain ⟨e1,e2,e3,e4⟩:=aK h (by omega)
  grind [kL,rq,ao,fR,aJ,ap,IX,Dg]
theorem afW (hk:F3 k) (Y:Tm×Int->OS S) {a:Tm} (ha:Fm a) {q:Int×Int×BA×LT} {sys:LB} (hsl:sys.length<1073741824) (hs: ∀b∈sys,b.kids=[aP b]/\Fm (aP b)/\aw b.face/\b.face.length<1073741824):
  ∀ (r p acc:LB) (m:Nat),sys=p++r->r.length<m->acc.length+r.length<1073741823->
   kL k Y a q sys m 0 acc (p.length:Int)=eE (bE (kI r) fun l=>bE (bQ 0 2 a) fun a2=> .ok (l++[.mk [⟨0,1⟩] [a2]])) (fun l=>iy k (.mk q.1 q.2.1 q.2.2.1 [] q.2.2.2 (acc++l)) 0 fun z=>Y (z.1,z.2.1)) fun e=>Y (aD,e):=by
 intro r
 induction r with
 |nil=>
  intro p acc m h hm hacc
  obtain ⟨m,rfl,hm'⟩:=aq hm
  have hr: ∀ (b:Br Tm) (f:Unit->OS S),af (aE 1099511627776 acc.length [b].length) f=f ():=fun b f=>bA (by grind) f
  have hup: ∀g:Tm×Int->OS S,iz k a 0 2 0 g=g (tE (bQ 0 2 a)):=fun g=>TX hk ha (by omega) (by omega) g
  simp only [kL,rq,d2 h,al,ap hk.fu,aJ,hup,hr,kI,bh]
  cases hu:bQ 0 2 a with
  |error e=>
   have he:=iO hu
   show iy k _ e _=Y (aD,e)
   grind [Dg]
  |ok a2=>rfl
 |cons x r ih=>
  intro p acc m h hm hacc
  obtain ⟨m,rfl,hm'⟩:=aq hm
  obtain ⟨e1,e2,e3,e4⟩:=aK h (by omega)
  obtain ⟨x1,x2,x3,x4⟩:=hs x (by grind)
  have hg:ak x.kids 0=some (aP x):=by rw [x1];rfl
  have hr: ∀ (b:Br Tm) (f:Unit->OS S),af (aE 1099511627776 acc.length [b].length) f=f ():=fun b f=>bA (by grind) f
  have hrow: ∀g:LC×Int->OS S,pQ k x.face 0 g=g (di x.face 0 1):=fun g=>alh hk x3 x4 g
  simp only [kL,rq,e1,ao,e2,aI,ap hk.fu,fR,dx,show decide ((0:Int)=0)=true from rfl,cF,al,aJ,hrow,hg,hr]
  rw [kI,bV,bV]
  by_cases h1:(di x.face 0 1).2=0
  ·rw [mC h1,cj,h1,akn hk x2 SQ,bV]
   cases h2:iX [⟨3,0⟩] (aP x) with
   |error e=>
    have he:=yO h2
    rw [e3]
    exact w9 hk Y (show e≠0 by omega) hsl r (p++[x]) _ m e4 (by grind) (by grind)
   |ok u=>
    rw [cj,e3]
    refine (ih (p++[x]) (acc++[.mk (di x.face 0 1).1 [u]]) m e4 hm' (by grind)).trans ?_
    rw [bV,bV]
    refine eJ (fun l _=> ?_) fun _ _=>rfl
    grind [bV,cj]
  ·rw [lO h1,ako h1 hk,e3]
   exact w9 hk Y h1 hsl r (p++[x]) _ m e4 (by grind) (by grind)
theorem aj8 (hk:F3 k) {t a:Tm} {sys:LB} (ht:In k t) (ha:In k a) (hs:In k (du sys)) (Y:Tm×Int->OS S):Aj k t a sys Y=Y (tE (fF [t,a,du sys] (fU t a sys))):=by
 have hin: ∀x∈[t,a,du sys],In k x:=fun x hx=>by
  grind
 have hfm:eD [t,a,du sys]=0-> ∀x∈[t,a,du sys],Fm x:=fun h=>I4 (fun x hx=>(hin x hx).1) h
 have hsl:sys.length<1073741824:=hs.1.node.2.2.2.2.2.2
 have hb: ∀g:Int->OS S,n5 k [t,a,.mk 15 0 av [] [.mk 3 0 av [] [] [],.mk 3 0 av [] [] []] sys] g=g (eD [t,a,du sys]):=fun g=>akp hk hin (by simp) g
 simp only [Aj,I7,ap hk.fu,aJ,aln hk.fu,hb,jm,TW hk (fun h=>hfm h t (by simp)) (show (0:Int)<=0/\(0:Int)<=1000000 by omega) (show (0:Int)<=1/\(1:Int)<9223372036854775808 by omega),
  TW hk (fun h=>hfm (amq h) a (by simp)) (show (0:Int)<=0/\(0:Int)<=1000000 by omega) (show (0:Int)<=1/\(1:Int)<9223372036854775808 by omega)]
 unfold fF
 have hfuel:sys.length<k:=by omega
 by_cases h0:eD [t,a,du sys]=0
 ·have fl:=hfm h0 t (by simp)
  have fa:=hfm h0 a (by simp)
  have sy:=uA (hfm h0 (du sys) (by simp))
  have hlen:=sy.len
  rw [h0,if_pos rfl,Uv]
  have hret:Y (tE (j5 (fU t a sys)))=eE (fU t a sys) (fun t=>iy k t 0 fun z=>Y (z.1,z.2.1)) fun e=>Y (aD,e):=by
   unfold j5
   rw [mz _ Y,bV]
   refine eJ (fun t ht=> ?_) fun _ _=>rfl
   rw [<-mz _ Y]
   exact ((akv hk (t:=t) (c:=0) (fun _=>(wQ hk fl fa sy ht).1) Y).trans rfl).symm
  rw [hret]
  unfold fU
  rw [bV]
  cases h1:bQ 0 1 t with
  |error e=>
   have he:=iO h1
   show kL k Y a _ sys k (pu e 0 1 a).2 [] 0=Y (aD,e)
   rw [yG (show e≠0 by omega)]
   exact w9 hk Y (show e≠0 by omega) hsl sys [] [] k rfl (by omega) (by simp)
  |ok t'=>
   rw [cj,bV]
   show kL k Y a (15,0,av,[t',(pu 0 0 1 a).1]) sys k (pu 0 0 1 a).2 [] 0=_
   rw [Uv]
   cases h2:bQ 0 1 a with
   |error e=>
    have he:=iO h2
    exact w9 hk Y (show e≠0 by omega) hsl sys [] [] k rfl (by omega) (by simp)
   |ok a'=>
    rw [cj]
    refine (afW hk Y fa hsl sy.kid sys [] [] k rfl hfuel (by grind)).trans ?_
    rw [bV,bV]
    refine eJ (fun l _=> ?_) fun _ _=>rfl
    rw [bV,bV]
    rfl
 ·rw [if_neg h0,yG h0]
  show kL k Y a _ sys k (pu (eD [t,a,du sys]) 0 1 a).2 [] 0=_
  rw [yG h0]
  exact w9 hk Y h0 hsl sys [] [] k rfl (by omega) (by simp)
theorem KH (hk:F3 k) {e:Int} (he:0<e) (f:LC) (x:Tm) (Y:Tm->OS S):jp k (dw e) f x Y=Y (dw e):=by
 grind [jp,aJ,ml,ao]
theorem G4 (hk:F3 k) (Y:Tm->OS S) {a:Tm} (ha:Fm a) {sys:LB} {e:Int} (he:0<e) (hsl:sys.length<1073741824):
  ∀ (r p:LB) (m:Nat),sys=p++r->0<m->nj k Y a sys m (dw e) (p.length:Int)=Y (dw e):=by
 intro r p m h hm
 obtain ⟨m,rfl⟩: ∃j,m=j+1:=⟨m-1,by omega⟩
 have hb:decide ((dw e).kind>=0)=false:=decide_eq_false (show ¬ (-e>=0) by omega)
 have hup: ∀g:Tm->OS S,lc k a 0 2 g=g (rE (bQ 0 2 a)):=fun g=>pm hk ha (by omega) (by omega) g
 cases r with
 |nil=>grind [nj,ry,al,aJ,ap,KH]
 |cons x r=>
  obtain ⟨e1,e2,e3,e4⟩:=aK h (by omega)
  grind [nj,ry,ao,al,aJ,ap,KH]
theorem agF (hk:F3 k) (Y:Tm->OS S) {a:Tm} (ha:Fm a) {sys:LB} (hsl:sys.length<1073741824) (hs: ∀b∈sys,b.kids=[aP b]/\Fm (aP b)/\aw b.face/\b.face.length<1073741824) {ks:LT}:
  ∀ (r p acc:LB) (m:Nat),sys=p++r->r.length<m->acc.length+r.length<1073741823->
   nj k Y a sys m (.mk 15 0 av [] ks acc) (p.length:Int)=Y (rE (bE (bE (kI r) fun l=>bE (bQ 0 2 a) fun a2=> .ok (l++[.mk [⟨0,1⟩] [a2]])) fun l=> .ok (.mk 15 0 av [] ks (acc++l)))):=by
 have hup: ∀g:Tm->OS S,lc k a 0 2 g=g (rE (bQ 0 2 a)):=fun g=>pm hk ha (by omega) (by omega) g
 intro r
 induction r with
 |nil=>
  intro p acc m h hm hacc
  obtain ⟨m,rfl,hm'⟩:=aq hm
  have hand: ∀g:Tm->OS S,jp k (.mk 15 0 av [] ks acc) [⟨0,1⟩] (rE (bQ 0 2 a)) g=_:=fun g=>IJ hk (by decide) (by omega) (BU ha) g
  simp only [nj,ry,d2 h,al,aJ,ap hk.fu,hup,hand,kI,bh]
  congr 2
  cases bQ 0 2 a with
  |error e=>rfl
  |ok a2=>rfl
 |cons x r ih=>
  intro p acc m h hm hacc
  obtain ⟨m,rfl,hm'⟩:=aq hm
  obtain ⟨e1,e2,e3,e4⟩:=aK h (by omega)
  obtain ⟨x1,x2,x3,x4⟩:=hs x (by grind)
  have hg:ak x.kids 0=some (aP x):=by rw [x1];rfl
  have hkd:decide ((Tm.mk 15 0 av [] ks acc).kind>=0)=true:=rfl
  have hlift: ∀g:LC×Int->OS S,oh k x.face 0 1 g=g (di x.face 0 1):=fun g=>Di hk.fu x3 x4 (by unfold aQ;omega) (by unfold aQ;omega) g
  have hfar: ∀g:Tm->OS S,wv k (aP x) [⟨3,0⟩] g=g (rE (iX [⟨3,0⟩] (aP x))):=fun g=>aj7 hk x2 SQ g
  have ga:Gd (iX [⟨3,0⟩] (aP x)):=⟨fun e h=>yO h,fun t h=>by rw [aam h];exact x2.rows.no.2.2⟩
  have hand: ∀ (f:LC) (g:Tm->OS S),jp k (.mk 15 0 av [] ks acc) f (rE (iX [⟨3,0⟩] (aP x))) g=g (rE (bE (iX [⟨3,0⟩] (aP x)) fun y=> .ok (.mk 15 0 av [] ks (acc++[.mk f [y]])))):=fun f g=>IJ hk (by decide) (by omega) ga g
  simp only [nj,ry,e1,ao,hkd,e2,aI,ap hk.fu,aJ,hlift,hg,hfar,hand,dx]
  rw [kI]
  by_cases h1:(di x.face 0 1).2=0
  ·rw [decide_eq_true h1,cF,al,mC h1,bh]
   cases h2:iX [⟨3,0⟩] (aP x) with
   |error e=>
    grind [yO,rp,rE,G4]
   |ok u=>
    rw [bh,bh,e3]
    refine (ih (p++[x]) (acc++[.mk (di x.face 0 1).1 [u]]) m e4 hm' (by grind)).trans ?_
    congr 2
    cases kI r with
    |error e=>rfl
    |ok l=>
     rw [bh,bh,bh]
     cases bQ 0 2 a with
     |error e=>rfl
     |ok a2=>grind [bh]
  ·rw [decide_eq_false h1,dQ,ao,lO h1,nL (Un (tL _ _ _) (lO h1))];rfl
theorem aj9 (hk:F3 k) {t a:Tm} {sys:LB} (ht:Fm t) (ha:Fm a) (sy:SyF sys) (Y:Tm->OS S):ww k t a sys Y=Y (rE (fU t a sys)):=by
 have h15: ∀g:Tm->OS S,md k 15 (rE (bQ 0 1 t)) (rE (bQ 0 1 a)) g=g (rE (bE (bQ 0 1 t) fun x=>bE (bQ 0 1 a) fun y=> .ok (ee 15 [x,y]))):=fun g=>Tk hk (BU ht) (BU ha) g
 have hsl:=sy.len
 simp only [ww,J8,ap hk.fu,aJ,pm hk ht (show (0:Int)<=0/\(0:Int)<=1000000000 by omega) (show (0:Int)<=1/\(1:Int)<9223372036854775808 by omega),pm hk ha (show (0:Int)<=0/\(0:Int)<=1000000000 by omega) (show (0:Int)<=1/\(1:Int)<9223372036854775808 by omega),h15]
 have hfuel:sys.length<k:=by omega
 unfold fU
 cases h1:bQ 0 1 t with
 |error e=>exact G4 hk Y ha (iO h1).1 (by omega) sys [] k rfl (by omega)
 |ok t'=>
  rw [bh,bh]
  cases h2:bQ 0 1 a with
  |error e=>exact G4 hk Y ha (iO h2).1 (by omega) sys [] k rfl (by omega)
  |ok a'=>
   rw [bh,bh]
   refine (agF hk Y ha (by omega) sy.kid (ks:=[t',a']) sys [] [] k rfl hfuel (by grind)).trans ?_
   congr 2
   cases kI sys with
   |error e=>rfl
   |ok l=>
    rw [bh,bh]
    cases bQ 0 2 a with
    |error e=>rfl
    |ok a2=>rfl
theorem TL (hk:F3 k) {t a:Tm} {sys:LB} (ht:In k t) (ha:In k a) (hs:In k (du sys)) (Y:Tm×Int->OS S):A5 k t a sys Y=Y (tE (fF [t,a,du sys] (fU t a sys))):=by
 have hin: ∀x∈[t,a,du sys],In k x:=fun x hx=>by
  grind
 have hfm:eD [t,a,du sys]=0-> ∀x∈[t,a,du sys],Fm x:=fun h=>I4 (fun x hx=>(hin x hx).1) h
 simp only [A5,ap hk.fu,aJ,akd hk.fu]
 exact ald hk hin (by simp) (F:=ww k t a sys) (fun h g=>aj9 hk (hfm h t (by simp)) (hfm h a (by simp)) (uA (hfm h (du sys) (by simp))) g)
  (fun h=>⟨fun e he=>wP he,fun x hx=>wQ hk (hfm h t (by simp)) (hfm h a (by simp)) (uA (hfm h (du sys) (by simp))) hx⟩) Y
def mM (c:Int) (x:Except Int Tm):Tm×Int:=if c=0 then tE x else (aD,c)
theorem qF (x:Except Int Tm):mM 0 x=tE x:=rfl
theorem xl {c:Int} (h:c≠0) (x:Except Int Tm):mM c x=(aD,c):=if_neg h
theorem IQ (t:Tm) (e c:Int) (Y:Tm×Int->OS S):kA k t e c Y=Y (if c=0 then (if e=0 then (t,0) else (aD,e)) else (aD,c)):=by
 simp only [kA,aJ]
 by_cases hc:c=0
 ·subst hc
  rw [show ((0:Int)==0)=true from rfl,ao,if_pos rfl]
  by_cases he:e=0
  ·subst he;rfl
  ·rw [kr he,dQ,ao,if_neg he];rfl
 ·rw [kr hc,al,if_neg hc,dQ,ao];rfl
theorem afo (x:Except Int Tm) (hx: ∀e,x= .error e->e≠0) (c:Int):(if c=0 then (if (tE x).2=0 then ((tE x).1,(0:Int)) else (aD,(tE x).2)) else (aD,c))=mM c x:=by
 unfold mM
 split
 ·cases x with
  |ok t=>rfl
  |error e=>rw [if_neg (show (tE (.error e)).2≠0 from hx e rfl)];rfl
 ·rfl
theorem Px {f:(Tm×Int->OS S)->OS S} {x:Except Int Tm} (c:Int) (hf:c=0-> ∀g,f g=g (tE x)) (hx: ∀e,x= .error e->e≠0) (Y:Tm×Int->OS S):
  (ac (!(c==0)) (Y (aD,c)) (f fun r=>Y (if c=0 then (if r.2=0 then (r.1,0) else (aD,r.2)) else (aD,c))))=Y (mM c x):=by
 by_cases hc:c=0
 ·subst hc
  rw [show (!((0:Int)==0))=false from rfl,al,hf rfl,<-afo x hx 0]
 ·rw [kr hc,dQ,ao,xl hc]
theorem ahT {x:Except Int Tm} (h: ∀e,x= .error e->0<e/\e<=1000): ∀e,x= .error e->e≠0:=fun e he=>by have:=h e he;omega
theorem amr {a b:Int} {t:Tm}: ∀e,uz a b t= .error e->0<e/\e<=1000:=fun e h=>adR (fun e h=>iO h) h
theorem TD (hk:F3 k) {t:Tm} {a b c:Int} (ht:c=0->In k t) (ha:0<=a/\a<1000) (hb:0<=b/\b<1000) (Y:Tm×Int->OS S):jY k t a b c Y=Y (mM c (uz a b t)):=by
 simp only [jY,ap hk.fu,iA,aJ,IQ]
 exact Px c (fun h g=>aj4 hk (ht h) (vb:=a) (db:=b) (by omega) (by omega) g) (ahT amr) Y
def dM (c:Int) (t:Tm):Tm×Int:=if c=0 then (if dn t=0 then (t,0) else (aD,dn t)) else (aD,c)
def rk (x:Except Int Tm):Tm×Bool×Int:=match x with
 | .ok t=>if dn t=0 then (t,true,0) else (aD,false,dn t)
 | .error e=>(aD,false,e)
theorem akK (hk:F3 k) {t:Tm} {c:Int} (ht:In k t) (Y:Tm×Bool×Int×Int->OS S):pU k t c Y=Y ((dM c t).1,(dM c t).2==0,(dM c t).2,(dM c t).2):=by
 simp only [pU,ap hk.fu,iA,aJ,IQ,pk ht.1 ht.2.1 ht.dep]
 have:OkT (dM c t).1/\Fd k (ax (dM c t).1):=by
  unfold dM
  split
  ·split
   ·exact ⟨ht.1,ht.2.1⟩
   ·exact ⟨(o8 hk).1,(o8 hk).2.1⟩
  ·exact ⟨(o8 hk).1,(o8 hk).2.1⟩
 exact Te (dM c t).1 this.1 _ this.2
theorem aaT {t:Tm} (g:Tm×Bool×Int->OS S):g ((dM 0 t).1,(dM 0 t).2==0,(dM 0 t).2)=g (rk (.ok t)):=by
 unfold dM rk
 simp only [if_true]
 split
 ·rfl
 ·rename_i h;rw [kr h]
theorem Lg {c:Int} (h:c≠0) {t:Tm} (g:Tm×Bool×Int->OS S):g ((dM c t).1,(dM c t).2==0,(dM c t).2)=g (rk (.error c)):=by
 unfold dM rk
 rw [if_neg h,kr h]
end Go.Proofs.YtgajalidbabccaaGreatDoor
namespace Go.Proofs.YtgajalidbabccaaGreatDoor
open Go PI
set_option maxRecDepth 20000
abbrev En:=Nat->Prop
def hp (c:Cl) (j:Nat):Prop:=c.pos.toNat.testBit j=true
def hn (c:Cl) (j:Nat):Prop:=c.neg.toNat.testBit j=true
theorem SJ {c:Cl} (h:RC c) {j:Nat} (hj:hp c j):j<24:=nX (by have:=h.1;omega) hj
theorem SI {c:Cl} (h:RC c) {j:Nat} (hj:hn c j):j<24:=nX (by have:=h.2;omega) hj
def km (P:En) (n:Nat) (A:Prop):En:=fun j=>(j≠n/\P j)\/(j=n/\A)

def RX (fa:Bool) (f:LC):Prop:=RF f/\(fa=true-> ∀c∈f,dJ c=false)
def same (n:Nat) (P P':En):Prop:= ∀j,j≠n->(P j↔P' j)
theorem same.symm {n:Nat} {P P':En} (h:same n P P'):same n P' P:=fun j hj=>(h j hj).symm


abbrev ZZ:=Bool->Int->LC->LC->Prop
abbrev ZY:=Int->LC->LC->Prop
mutual
def pL (pl:Bool):Tm->Prop
 | .mk kd n nm r ks sys=>RX (decide (kd=14)) r/\pK pl ks/\uP pl sys
def pK (pl:Bool):LT->Prop
 |[]=>True
 |t::l=>pL pl t/\pK pl l
def uP (pl:Bool):LB->Prop
 |[]=>True
 |b::l=>KE pl b/\uP pl l
def KE (pl:Bool):Br Tm->Prop
 | .mk f ks=>(RX true f/\(pl=true->f≠[]))/\pK pl ks
end
section
variable {pl:Bool} {c vb db kd:Int} {fo fa:f8} {Ro Ro':ZZ} {Rb Rb':ZY}
end
variable {S:Type} {k:Nat}
def HB (sys:LB):Bool:=sys.any fun b=>(b.face.length:Int)==0
mutual
def qQ:Tm->Bool
 | .mk _ _ _ _ ks sys=> !HB sys&&(qR ks&&Ck sys)
def qR:LT->Bool
 |[]=>true
 |t::l=>qQ t&&qR l
def Ck:LB->Bool
 |[]=>true
 |b::l=>PS b&&Ck l
def PS:Br Tm->Bool
 | .mk _ ks=>qR ks
end
theorem Td {f:LC} (hf:aw f) (h:eQ f=true):RX true f:=by
 have:=(qZ hf).1 h
 exact ⟨this.1,fun _=>this.2⟩
theorem HJ {vars dims kd n nm r ks sys} (hok:OkT (.mk kd n nm r ks sys)) (h:fE vars dims (.mk kd n nm r ks sys)=true):RX (decide (kd=14)) r/\ ∀b∈sys,RX true b.face:=by
 obtain ⟨o1,o2,o3,o4,o5,o6,o7⟩:=hok.node
 unfold fE at h
 simp only [aF,decide_eq_true_eq] at h
 obtain ⟨⟨a1,a2,a3,a4⟩,a5⟩:=h
 have r0:r.length=0->RX (decide (kd=14)) r:=fun h=>by
  have:=List.length_eq_zero_iff.1 h;subst this;exact ⟨uf,fun _ c hc=>by cases hc⟩
 have nosys:eB kd=0-> ∀b∈sys,RX true b.face:=fun h=>by
  grind
 split at a5
 ·rename_i c
  simp only [aF,decide_eq_true_eq] at a5
  exact ⟨r0 a5.1,nosys (by subst c;decide)⟩
 split at a5
 ·rename_i c
  simp only [aF,decide_eq_true_eq] at a5
  exact ⟨r0 a5.1,nosys (by subst c;decide)⟩
 split at a5
 ·rename_i c
  rw [aF] at a5
  exact ⟨⟨(jC o4).1 a5.1,fun h=>by grind⟩,nosys (by rcases c with rfl|rfl|rfl<;>decide)⟩
 split at a5
 ·rename_i c
  rw [aF] at a5
  subst c
  exact ⟨Td o4 a5.1,nosys (by decide)⟩
 ·simp only [aF,decide_eq_true_eq] at a5
  refine ⟨r0 a5.2,fun b hb=> ?_⟩
  have:=dI.1 a5.1 b hb
  unfold dS at this
  simp only [aF] at this
  exact Td (hok.br hb).1.1 this.2.1
theorem aac {bd pl:Bool} (t:Tm): ∀ {vars dims:Int},OkT t->cm bd vars dims t=true->(pl=true->qQ t=true)->pL pl t:=by
 induction t using mB with
 |h kd n nm r ks sys ih1 ih2=>
  intro vars dims hok h hp
  rw [cm,aF,aF,aF] at h
  obtain ⟨_,a,b,c⟩:=h
  obtain ⟨hr,hb⟩:=HJ hok a
  have hok':=hok
  rw [OkT] at hok'
  obtain ⟨_,ok,os⟩:=hok'
  rw [qQ] at hp
  simp only [aF,kn] at hp
  have hk: ∀ {l:LT} {i:Nat},(∀x∈l,∀ {vars dims:Int},OkT x->cm bd vars dims x=true->(pl=true->qQ x=true)->pL pl x)->cR l->dL bd vars dims kd i l=true->(pl=true->qR l=true)->pK pl l:=by
   intro l
   induction l<;>grind [dL,pK,qR,cR]
  have hm: ∀ {l:LT},(∀x∈l,∀ {vars dims:Int},OkT x->cm bd vars dims x=true->(pl=true->qQ x=true)->pL pl x)->cR l->ep bd vars dims kd l=true->(pl=true->qR l=true)->pK pl l:=by
   intro l
   induction l<;>grind [ep,pK,qR,cR]
  have hs: ∀ {l:LB},(∀b∈l,∀x∈b.kids,∀ {vars dims:Int},OkT x->cm bd vars dims x=true->(pl=true->qQ x=true)->pL pl x)->cG l->(∀b∈l,RX true b.face)->er bd vars dims kd l=true->(pl=true->HB l=false/\Ck l=true)->uP pl l:=by
   intro l
   induction l with
   |nil=>grind [uP]
   |cons b l ih=>
    intro h1 h2 h3 h4 h5
    obtain ⟨f,ks'⟩:=b
    rw [cG] at h2
    rw [kY] at h2
    rw [er,nU,aF] at h4
    rw [HB,List.any_cons,Bool.or_eq_false_iff,Ck,PS,aF] at h5
    rw [uP,KE]
    refine ⟨⟨⟨h3 ⟨f,ks'⟩ (by simp),fun e he=> ?_⟩,hm (h1 ⟨f,ks'⟩ (by simp)) h2.1.2 h4.1 fun e=>(h5 e).2.1⟩,ih (fun b hb=>h1 b (by simp [hb])) h2.2 (fun b hb=>h3 b (by simp [hb])) h4.2 fun e=>⟨(h5 e).1.2,(h5 e).2.2⟩⟩
    grind
  grind [pL]
theorem Fm.pl {t:Tm} {pl:Bool} (h:Fm t) (hp:pl=true->qQ t=true):pL pl t:=by
 have:=h.2
 unfold dn at this
 split at this
 ·simp_all
 split at this
 ·simp_all
 split at this
 ·rename_i h3;exact aac t h.1 h3 hp
 omega
theorem aaa {kd d:Int}: ∀ {l:LT} {i:Nat} {x:Tm},24<=d->dL false (-1) d kd i l=true->x∈l->cm false (-1) 24 x=true:=by
 intro l
 induction l with
 |nil=>intro i x _ _ h;cases h
 |cons t l ih=>
  intro i x hd h hx
  rw [dL,aF] at h
  rcases d7.1 hx with rfl|hx
  ·have:=h.1
   rw [UD,EX x (by have:=mP kd i;omega) (Int.le_refl 24)] at this;exact this
  ·exact ih hd h.2 hx
theorem Fm.kid {t x:Tm} (h:Fm t) (hx:x∈t.kids):Fm x:=by
 obtain ⟨h1,h2,h3⟩:=j8 h.2
 have hd:=eN hx
 have hs:aL x<=aL t:=by have:=Dq t;have:=rg hx;omega
 refine ⟨h.1.ki hx,wS (by omega) (by omega) ?_⟩
 obtain ⟨kd,n,nm,r,ks,sys⟩:=t
 rw [cm] at h3
 simp only [Bool.false_and,dQ,hX,aF] at h3
 exact aaa (Int.le_refl 24) h3.2.1 hx
theorem Fm.brk {t x:Tm} {b:Br Tm} (h:Fm t) (hb:b∈t.sys) (hx:x∈b.kids):Fm x:=by
 obtain ⟨h1,h2,h3⟩:=j8 h.2
 have hd:=eX hb hx
 have hs:aL x<=aL t:=by have:=Dq t;have:=Dr hb;have:=rg hx;omega
 refine ⟨(h.1.bi hb).2 x hx,wS (by omega) (by omega) ?_⟩
 obtain ⟨kd,n,nm,r,ks,sys⟩:=t
 rw [cm] at h3
 simp only [Bool.false_and,dQ,hX,aF] at h3
 have:=h3.2.2
 rw [yL,dI] at this
 have:=dI.1 (this b hb) x hx
 rw [EX x (by have:=iJ kd;omega) (Int.le_refl 24)] at this;exact this
theorem Fm.own {t:Tm} (h:Fm t):fE (-1) 24 t=true:=by
 have h3:=(j8 h.2).2.2
 cases t
 rw [cm] at h3
 simp only [Bool.false_and,dQ,hX,aF] at h3
 exact h3.1
theorem Fm.nk {t:Tm} (h:Fm t):gS t.kind=t.kids.length:=by
 have:=h.own
 cases t
 unfold fE at this
 simp only [aF,decide_eq_true_eq] at this
 exact this.1.1
theorem Fm.n0 {t:Tm} (h:Fm t) (hk:t.kind≠1):t.n=0:=by
 have:=h.own
 cases t
 unfold fE at this
 simp only [aF,decide_eq_true_eq] at this
 exact this.1.2.1.resolve_left hk
theorem Fm.kd0 {t:Tm} (h:Fm t):0<=t.kind:=h.rows.no.2.2
theorem Fm.r14 {t:Tm} (h:Fm t) (hk:t.kind=14):RX true t.r:=by
 have:=HJ (kd:=t.kind) (n:=t.n) (nm:=t.name) (r:=t.r) (ks:=t.kids) (sys:=t.sys) (by cases t;exact h.1) (by have:=h.own;cases t;exact this)
 have h1:=this.1
 rw [hk] at h1;exact h1
theorem Fm.face {t:Tm} {b:Br Tm} (h:Fm t) (hb:b∈t.sys):RX true b.face:=by
 have:=HJ (kd:=t.kind) (n:=t.n) (nm:=t.name) (r:=t.r) (ks:=t.kids) (sys:=t.sys) (by cases t;exact h.1) (by have:=h.own;cases t;exact this)
 exact this.2 b hb
theorem ju {α:Type} {l:List α} {n:Nat} {i:Int} (hi:i=n) {x:α} (h:l[n]? =some x):ak l i=some x:=by subst hi;rw [wV];exact h
theorem aki (hk:F3 k) {t:Tm} {x:Except Int Tm} (hx: ∀e,x= .error e->0<e/\e<=1000) (hx': ∀t,x= .ok t->In k t/\0<t.kind) (Y:Tm×Bool×Int->OS S):sb k t (rE x) Y=Y (rk x):=by
 simp only [sb,ap hk.fu,aJ]
 have hkd:(rE x).kind≠0:=by
  cases hh:x with
  |error e=>have:=hx e hh;show-e≠0;omega
  |ok t=>have:=(hx' t hh).2;show t.kind≠0;omega
 rw [kr hkd,al,Tf hk hx fun t h=>⟨(hx' t h).1,by have:=(hx' t h).2;omega⟩]
 cases hh:x with
 |error e=>
  have:=hx e hh
  show Y (aD,e==0,e)=_
  rw [kr (by omega)];rfl
 |ok t=>
  unfold j5 rk
  rw [bh]
  by_cases h:dn t=0
  ·simp only [if_pos h];rfl
  ·simp only [if_neg h]
   show Y (aD,dn t==0,dn t)=_
   rw [kr h]
theorem akj (t:Tm) (Y:Tm×Bool×Int->OS S):sb k t aD Y=Y (aD,false,0):=by
 simp only [sb];rfl
section
variable {hd:Tm->Int->(Int->OS S)->OS S} {t:Tm} {n:Int}
end
section
variable {hd:Tm->Int->(Int->OS S)->OS S} {t:Tm} {n:Int}
end
theorem Fm.r1 {t:Tm} (h:Fm t) (hk:t.kind=1):t.r=[]:=by
 have:=h.own
 obtain ⟨kd,n,nm,r,ks,sys⟩:=t
 have hk:kd=1:=hk
 subst hk
 unfold fE at this
 simp only [aF,decide_eq_true_eq,if_true] at this
 exact List.length_eq_zero_iff.1 this.2.1
section
variable {hd:Tm->Int->Tm->Int->Int->(Pan Int Tm->OS S)->OS S} {t u:Tm} {n v d:Int}
end
section
variable {hd:Tm->(Int->OS S)->OS S} {t:Tm}
end
abbrev F4 (k:Nat):Prop:=4294970296<=k
theorem F4.f3 (h:F4 k):F3 k:=by have:4294970296<=k:=h;unfold F3;omega
theorem Ks {t:Tm} (h:t.kids.length=2): ∃a b,t.kids=[a,b]:=by
 match h':t.kids,h with
 |[a,b],_=>exact ⟨a,b,rfl⟩
theorem ah4 {t:Tm} (h:t.kids.length=1): ∃a,t.kids=[a]:=by
 match h':t.kids,h with
 |[a],_=>exact ⟨a,rfl⟩
theorem Fm.sy {t:Tm} (h:Fm t) (hk:t.kind=15):(∀b∈t.sys,b.kids=[aP b]/\Fm (aP b)/\RX true b.face)/\t.sys.length<=20000:=by
 have ho:=h.own
 refine ⟨fun b hb=> ?_, ?_⟩
 ·have hl:b.kids.length=1:=by
   obtain ⟨kd,n,nm,r,ks,sys⟩:=t
   have hk:kd=15:=hk
   subst hk
   have ho:(_&&(sys.all (dS 15 24)&&_))=true:=ho
   simp only [aF] at ho
   have:=dI.1 ho.2.1 b hb
   unfold dS at this
   simp only [aF,decide_eq_true_eq] at this
   have h1:=this.1
   have:eB 15=1:=rfl
   omega
  obtain ⟨f,ks⟩:=b
  match ks,hl with
  |[a],_=>exact ⟨rfl,h.brk hb (by simp [aP]),h.face hb⟩
 ·have h1:=h.siz
  have h2:=Dq t
  have: ∀ {l:LB},(∀b∈l,b.kids≠[])->l.length<=aS l:=by
   intro l
   induction l with
   |nil=>intro _;simp
   |cons b l ih=>
    intro hl
    have:=ih fun b hb=>hl b (by simp [hb])
    have hb:=hl b (by simp)
    obtain ⟨f,ks⟩:=b
    cases ks with
    |nil=>exact absurd rfl hb
    |cons a ks=>rw [aS,jD,aN,dD];have:=uq a;omega
  have:=this (l:=t.sys) fun b hb=>by
   intro he
   obtain ⟨kd,n,nm,r,ks,sys⟩:=t
   have hk:kd=15:=hk
   subst hk
   have ho:(_&&(sys.all (dS 15 24)&&_))=true:=ho
   simp only [aF] at ho
   have:=dI.1 ho.2.1 b hb
   unfold dS at this
   simp only [aF,decide_eq_true_eq] at this
   have h1:=this.1
   rw [he] at h1
   have:eB 15=1:=rfl
   simp at h1;omega
  omega
def ux {α:Type} (c:Int) (x:Except Int α):Except Int α:=if c=0 then x else .error c
theorem jF {α:Type} (x:Except Int α):ux 0 x=x:=rfl
theorem jG {α:Type} {c:Int} (h:c≠0) (x:Except Int α):ux c x= .error c:=if_neg h
structure Sm (n:Nat) (t:Tm):Prop where
 ok:OkT t
 siz:aL t<=n
 dep:ax t<=300
theorem Fm.sm {t:Tm} (h:Fm t):Sm 20000 t:=⟨h.ok,h.siz,by have:=h.dep;omega⟩
theorem Sm.mono {n m:Nat} {t:Tm} (h:Sm n t) (hnm:n<=m):Sm m t:=⟨h.ok,by have:=h.siz;omega,h.dep⟩
theorem ahW:Sm 20000 aD:=⟨PE,by unfold aD;rw [aL,aN,aS];omega,by unfold aD;rw [ax,bu,bU];omega⟩
theorem Sm.isIn {n:Nat} {t:Tm} (h:Sm n t) (hk:F3 k) (hn:n<1099511627776):In k t:=⟨h.ok,hk.fd (by have:=h.dep;omega),by have:=h.siz;omega⟩
structure Bs' (n:Nat) (l:LB):Prop where
 ok:cG l
 siz:aS l<=l.length*n
 dep:bU l<=301
theorem aaB (n:Nat):Bs' n []:=⟨by rw [cG];trivial,by rw [aS];simp,by rw [bU];omega⟩
theorem yx {kd:Int} (hkd:0<=kd/\kd<=28) {r:LC} (hr:aw r/\r.length<1073741824) {ks:LT} {sys:LB} {n m:Nat} (hks: ∀x∈ks,OkT x/\ax x<=299) (hl:ks.length<1000) (hz:aN ks<=n) (hs:cG sys) (hsl:sys.length<1073741824) (hsd:bU sys<=299) (hsz:aS sys<=m):Sm (n+m+1) (.mk kd 0 av r ks sys):=by
 have hd:bu ks<=299:=by
  have: ∀ {l:LT},(∀x∈l,ax x<=299)->bu l<=299:=by
   intro l
   induction l with
   |nil=>intro _;rw [bu];omega
   |cons t l ih=>intro h;rw [bu];have:=h t (by simp);have:=ih fun x hx=>h x (by simp [hx]);omega
  exact this fun x hx=>(hks x hx).2
 refine ⟨?_, ?_, ?_⟩
 ·rw [OkT]
  exact ⟨⟨by unfold aQ;omega,by unfold aQ;omega,by decide,hr.1,hr.2,by omega,hsl⟩,okK_iff.2 fun x hx=>(hks x hx).1,hs⟩
 ·rw [aL];omega
 ·rw [ax];omega
theorem Gv {t:Tm} {a b:Tm} (h:t.kids=[a,b]):t.kids.getD 0 aD=a/\t.kids.getD 1 aD=b:=by rw [h];exact ⟨rfl,rfl⟩
theorem uj {fa:Bool} {f:LC} (h:RX fa f):aw f/\f.length<1073741824:=⟨h.1.2,by have:=h.1.len;omega⟩
theorem GS {t:Tm} (h:Fm t) {kd:Int} (hk:t.kind=kd) {n:Nat} (hn:gS kd=n):t.kids.length=n:=by
 have:=h.nk
 rw [hk,hn] at this;omega
theorem MJ {t a b:Tm} (h:t.kids=[a,b]):ak t.kids 0=some a/\ak t.kids 1=some b:=by rw [h];exact ⟨rfl,rfl⟩
theorem alr {α:Type} (c:Bool) (a:α):ac c a a=a:=by cases c<;>rfl

section
variable {hd:Tm->Int->Tm->Int->Int->(Tm->OS S)->OS S} {t u:Tm} {n v d:Int}
end

theorem akL (hk:F3 k) {t a:Tm} {sys:LB} {c:Int} (ht:c=0->In k t/\In k a/\In k (du sys)) (hx: ∀e,fF [t,a,du sys] (fU t a sys)= .error e->e≠0) (Y:Tm×Int->OS S):AO k t a sys c Y=Y (mM c (fF [t,a,du sys] (fU t a sys))):=by
 simp only [AO,ap hk.fu,iA,aJ,IQ]
 exact Px c (fun h g=>aj8 hk (ht h).1 (ht h).2.1 (ht h).2.2 g) hx Y

def UB:LT->Except Int (LT)
 |[]=> .ok []
 |y::l=>bE (bQ 0 1 y) fun y'=>bE (UB l) fun l'=> .ok (y'::l')
abbrev BB (kd:Int) (p:Tm) (l:LT) (a:Tm):Tm:= .mk kd 0 av [] (p::l++[a]) []
def Mw (kd:Int) (b:Tm) (mid:LT):LB->Except Int (LB)
 |[]=> .ok []
 |y::l=>bE (UB mid) fun m=>bE (Mw kd b mid l) fun l'=> .ok (.mk y.face [BB kd b m (aP y)]::l')
def lx (t:Tm):Tm:=t.kids.getD (t.kids.length-1) aD
def Cc (t:Tm):LT:=(t.kids.take (t.kids.length-1)).drop 1


end Go.Proofs.YtgajalidbabccaaGreatDoor
namespace Go.Proofs.YtgajalidbabccaaGreatDoor
open Go PI
set_option maxRecDepth 20000
def ahw (Φ:Nat->Prop) (f:LC):Prop:= ∀c∈f,∀j,hp c j\/hn c j->Φ j
theorem ahy {f:LC} (hf:RF f) {d:Int}:eP f d=true↔ahw (fun j=>(j:Int)<d) f:=by
 unfold eP
 rw [decide_eq_true_eq]
 have: ∀i:Nat,i∈dN (jr f)↔i<24/\ ∃c∈f,hp c i\/hn c i:=fun i=>by
  rw [mem_bitsN,Bh]
  unfold lP hp hn
  simp only [aF,List.any_eq_true,Bool.or_eq_true,decide_eq_true_eq]
  exact ⟨fun h=>⟨h.1,h.2.1⟩,fun h=>⟨h.1,h.2,h.1⟩⟩
 constructor
 ·intro h c hc j hj
  exact h j ((this j).2 ⟨hj.elim (SJ (hf.rc hc)) (SI (hf.rc hc)),c,hc,hj⟩)
 ·intro h i hi
  obtain ⟨_,c,hc,hj⟩:=(this i).1 hi
  exact h c hc i hj
section
variable {bd:Bool} {vb db kd:Int}
theorem ahc: ∀ {l l':LT} {v d:Int} {i:Nat},g7 vb db v d kd i l= .ok l'->l'.length=l.length:=by
 intro l
 induction l<;>grind [g7,->bH]
end
section
variable {bd:Bool} {r:LC} {c kd:Int}
end
section
variable {vb db kd:Int}
end
variable {S:Type} {k:Nat}

end Go.Proofs.YtgajalidbabccaaGreatDoor
namespace Go.Proofs.YtgajalidbabccaaGreatDoor
open Go PI
set_option maxRecDepth 20000
theorem amB (V:Int):eH V 0=V:=by unfold eH;split<;>omega
variable {S:Type} {k:Nat}
theorem I3 {l:LT} {x:Except Int Tm} {t:Tm} (h:fF l x= .ok t):eD l=0/\dn t=0/\x= .ok t:=by
 unfold fF at h
 split at h
 case isFalse=>cases h
 rename_i h1
 unfold j5 at h
 obtain ⟨t',h3,h⟩:=bH h
 split at h
 case isFalse=>cases h
 rename_i h4
 injection h with h;subst h
 exact ⟨h1,h4,h3⟩
theorem alB {l:LT} {x:Except Int Tm} {e:Int} (hx: ∀e,x= .error e->e≠0) (h:fF l x= .error e):e≠0:=by
 unfold fF at h
 split at h
 ·unfold j5 at h
  rcases dl h with h|⟨t,_,h⟩
  ·exact hx e h
  ·split at h
   ·cases h
   ·rename_i hne;injection h with h;exact h▸hne
 ·rename_i hne;injection h with h;exact h▸hne
def oD {α:Type} (x:Except Int α):Int:=match x with
 | .ok _=>0
 | .error e=>e
theorem aly {n:Nat}: ∀ {l:LT},(∀x∈l,aL x<=n)->aN l<=l.length*n:=by
 intro l
 induction l with
 |nil=>intro _;rw [aN];simp
 |cons x l ih=>
  intro h
  rw [aN,dD,Nat.succ_mul]
  have:=ih fun y hy=>h y (by simp [hy])
  have:=h x (by simp)
  omega
theorem aaV {n:Nat}: ∀ {l:LT},(∀x∈l,ax x<=n)->bu l<=n:=by
 intro l
 induction l with
 |nil=>intro _;rw [bu];omega
 |cons x l ih=>intro h;rw [bu];have:=ih fun y hy=>h y (by simp [hy]);have:=h x (by simp);omega
theorem DH (hk:F3 k) {x:Tm} (fx:Fm x):In k (du x.sys):=by
 obtain ⟨o1,o2,o3,o4,o5,o6,o7⟩:=fx.ok.no
 have hs:cG x.sys:=by have:=fx.ok;cases x;rw [OkT] at this;exact this.2.2
 have hd:bU x.sys<=299:=by have:=fx.dep;cases x;rw [ax] at this;show bU _<=299;simp only [Tm.sys];omega
 have hz:aS x.sys<=20000:=by have:=fx.siz;cases x;rw [aL] at this;show aS _<=20000;simp only [Tm.sys];omega
 unfold du
 exact (yx (kd:=15) (by omega) (r:=[]) ⟨(fun c hc=>by cases hc),by simp⟩ (n:=10) (fun y hy=>by
  simp at hy
  subst hy
  refine ⟨?_, ?_⟩
  ·rw [OkT,cR,cG];exact ⟨⟨by unfold aQ;omega,by unfold aQ;omega,by decide,(fun c hc=>by cases hc),by simp,by simp,by simp⟩,trivial,trivial⟩
  ·rw [ax,bu,bU];omega) (by simp) (by rw [aN,aN,aN,aL,aN,aS];simp) hs (by omega) hd hz).isIn hk (by omega)
theorem T2 {l:LT} {x:Except Int Tm} {e:Int} (hx: ∀e,x= .error e->0<e/\e<=1000) (h:fF l x= .error e):e≠0:=alB (fun e h=>by have:=hx e h;omega) h
theorem Dv {a b c:Tm} (ha:OkT a) (hb:OkT b) (hc:OkT c) (h:eD [a,b,c]=0):Fm a/\Fm b/\Fm c:=by
 have:=I4 (l:=[a,b,c]) (fun x hx=>by
  simp at hx
  rcases hx with rfl|rfl|rfl
  ·exact ha
  ·exact hb
  ·exact hc) h
 exact ⟨this a (by simp),this b (by simp),this c (by simp)⟩

theorem T1 {l:LT} {x:Except Int Tm} {e:Int} (hx: ∀e,x= .error e->0<e/\e<=1000) (h:fF l x= .error e):0<e/\e<=1000:=by
 unfold fF at h
 have hs:=alH l
 split at h
 ·unfold j5 at h
  rcases dl h with h|⟨t,_,h⟩
  ·exact hx e h
  ·have:=Gq t
   split at h
   ·cases h
   ·rename_i hne;injection h with h;subst h;omega
 ·rename_i hne;injection h with h;subst h;omega
def k1 (b:Br Tm):Tm:=b.kids.getD 1 aD
theorem Fm.gl {t:Tm} (h:Fm t) (hk:t.kind=16):(∀b∈t.sys,b.kids=[aP b,k1 b]/\Fm (aP b)/\Fm (k1 b)/\RX true b.face)/\t.sys.length<=20000/\ ∃a,t.kids=[a]/\Fm a:=by
 have ho:=h.own
 have hall: ∀b∈t.sys,b.kids.length=2:=fun b hb=>by
  obtain ⟨kd,n,nm,r,ks,sys⟩:=t
  have hk:kd=16:=hk
  subst hk
  have ho:(_&&(sys.all (dS 16 24)&&_))=true:=ho
  simp only [aF] at ho
  have:=dI.1 ho.2.1 b hb
  unfold dS at this
  simp only [aF,decide_eq_true_eq] at this
  have h1:=this.1
  have:eB 16=2:=rfl
  omega
 refine ⟨fun b hb=> ?_, ?_, ?_⟩
 ·have hl:=hall b hb
  obtain ⟨f,ks⟩:=b
  match ks,hl with
  |[a,c],_=>exact ⟨rfl,h.brk hb (by simp [aP]),h.brk hb (by simp [k1]),h.face hb⟩
 ·have h1:=h.siz
  have h2:=Dq t
  have: ∀ {l:LB},(∀b∈l,b.kids.length=2)->l.length<=aS l:=by
   intro l
   induction l with
   |nil=>intro _;simp
   |cons b l ih=>
    intro hl
    have:=ih fun b hb=>hl b (by simp [hb])
    have hb:=hl b (by simp)
    obtain ⟨f,ks⟩:=b
    match ks,hb with
    |a::ks,_=>rw [aS,jD,aN,dD];have:=uq a;omega
  have:=this hall
  omega
 ·have hn:=h.nk
  rw [hk] at hn
  have e:gS 16=1:=rfl
  obtain ⟨a,ha⟩:=ah4 (t:=t) (by omega)
  exact ⟨a,ha,h.kid (by rw [ha];simp)⟩
def ca (g:Tm):LB:=g.sys.map fun x=>⟨x.face,[k1 x]⟩
abbrev dp (a:Tm) (es:LB):Tm:= .mk 18 0 av [] [a] es
abbrev gX:Tm:= .mk 3 0 av [] [] []
abbrev nO (u:Tm) (ks:LT):Tm:= .mk u.kind u.n u.name u.r ks u.sys
def gR (es:LB):LB->Except Int (LB)
 |[]=> .ok []
 |x::l=>bE (bQ 0 1 (dp gX es)) fun u=>bE (gR es l) fun l'=> .ok (⟨x.face,[nO u [aP x]]⟩::l')
def gF (b:Tm) (sys:LB):LB->Except Int (LB)
 |[]=> .ok []
 |x::l=>bE (bQ 0 1 (k1 x)) fun f=>bE (fF [aP x,b,du sys] (fU (aP x) b sys)) fun w=>bE (gF b sys l) fun l'=> .ok (⟨x.face,[ee 6 [ee 9 [f],w]]⟩::l')
def kK (b:Tm) (sys:LB) (l:LB):LB:=l.map fun x=>⟨x.face,[.mk 15 0 av [] [aP x,b] sys]⟩
def qI (g b:Tm) (sys l1 l2:LB):Tm:= .mk 17 0 av [] [.mk 15 0 av [] [g.kids.getD 0 aD,dp b (ca g)] (l1++l2)] (kK b sys g.sys)
def ny (t:Tm):Except Int Tm:=
 bE (gR (ca (t.kids.getD 0 aD)) t.sys) fun l1=>bE (gF (t.kids.getD 1 aD) t.sys (t.kids.getD 0 aD).sys) fun l2=> .ok (qI (t.kids.getD 0 aD) (t.kids.getD 1 aD) t.sys l1 l2)
def tN (t:Tm):Tm×Bool×Int:=
 if dn t≠0 then (aD,false,dn t) else
 if t.kind=15/\(t.kids.getD 0 aD).kind=16 then rk (ny t) else (aD,false,0)
theorem MW {es:LB}: ∀ {l:LB} {e:Int},gR es l= .error e->0<e/\e<=1000:=by
 intro l
 induction l with
 |nil=>intro e h;cases h
 |cons x l ih=>
  intro e h
  rw [gR] at h
  rcases dl h with h|⟨_,_,h⟩
  ·exact iO h
  rcases dl h with h|⟨_,_,h⟩
  ·exact ih h
  ·cases h
theorem MX {b:Tm} {sys:LB}: ∀ {l:LB} {e:Int},gF b sys l= .error e->0<e/\e<=1000:=by
 intro l
 induction l with
 |nil=>intro e h;cases h
 |cons x l ih=>
  intro e h
  rw [gF] at h
  rcases dl h with h|⟨_,_,h⟩
  ·exact iO h
  rcases dl h with h|⟨_,_,h⟩
  ·exact T1 (fun e h=>wP h) h
  rcases dl h with h|⟨_,_,h⟩
  ·exact ih h
  ·cases h
theorem ahN {t:Tm} {e:Int} (h:ny t= .error e):0<e/\e<=1000:=by
 unfold ny at h
 rcases dl h with h|⟨_,_,h⟩
 ·exact MW h
 rcases dl h with h|⟨_,_,h⟩
 ·exact MX h
 ·cases h
def jj (n:Nat) (l:LB):Prop:= ∀x∈l,∃t,x.kids=[t]/\Sm n t/\ax t<=299/\aw x.face/\x.face.length<1073741824
theorem vG (n:Nat):jj n []:=fun x hx=>by cases hx
theorem vF {n:Nat} {l:LB} {f:LC} {t:Tm} (hf:aw f/\f.length<1073741824) (ht:Sm n t) (hd:ax t<=299) (h:jj n l):jj n (⟨f,[t]⟩::l):=fun x hx=>by
 rcases d7.1 hx with rfl|hx
 ·exact ⟨t,rfl,ht,hd,hf⟩
 ·exact h x hx
theorem aaA {n:Nat} {a b:LB} (ha:jj n a) (hb:jj n b):jj n (a++b):=fun x hx=>(dk.1 hx).elim (ha x) (hb x)
def FN (x:Tm):Prop:=Fm x\/x=aD
theorem FN.sm {x:Tm} (h:FN x):Sm 20000 x/\ax x<=200:=by
 rcases h with h|rfl
 ·exact ⟨h.sm,h.dep⟩
 ·exact ⟨ahW,by unfold aD;rw [ax,bu,bU];omega⟩
theorem Gp {c:Int} {x:Except Int Tm} (h: ∀t,x= .ok t->Fm t):FN (mM c x).1:=by
 unfold mM
 split
 ·cases x with
  |error e=>exact .inr rfl
  |ok t=>exact .inl (h t rfl)
 ·exact .inr rfl
theorem I2 {u a:Tm} (hu:FN u) (ha:Fm a):Sm 50000 (nO u [a])/\ax (nO u [a])<=299:=by
 obtain ⟨h1,h2⟩:=hu.sm
 obtain ⟨o1,o2,o3,o4,o5,o6,o7⟩:=h1.ok.no
 have hs:cG u.sys:=by have:=h1.ok;cases u;rw [OkT] at this;exact this.2.2
 have hd:bU u.sys+1<=ax u:=by cases u;rw [ax];simp only [Tm.sys];omega
 have hz:aS u.sys+1<=aL u:=by cases u;rw [aL];simp only [Tm.sys];omega
 have:=h1.siz;have:=ha.siz;have:=ha.dep
 refine ⟨⟨?_, ?_, ?_⟩, ?_⟩
 ·rw [OkT,cR,cR];exact ⟨⟨o1,o2,o3,o4,o5,by simp,o7⟩,⟨ha.ok,trivial⟩,hs⟩
 ·rw [aL,aN,aN];omega
 ·rw [ax,bu,bu];omega
 ·rw [ax,bu,bu];omega
theorem Du {kd:Int} (hkd:0<=kd/\kd<=28) {n:Nat} {ks:LT} (h: ∀x∈ks,Sm n x/\ax x<=290) (hl:ks.length<=4):Sm (4*n+1) (ee kd ks)/\ax (ee kd ks)<=291:=by
 have hd:bu ks<=290:=aaV fun x hx=>(h x hx).2
 have hz:aN ks<=4*n:=gf (aly fun x hx=>(h x hx).1.siz) (jl _ hl)
 unfold ee
 refine ⟨(yx (kd:=kd) hkd (r:=[]) ⟨(fun c hc=>by cases hc),by simp⟩ (ks:=ks) (sys:=[]) (n:=4*n) (m:=0) (fun x hx=>⟨(h x hx).1.ok,by have:=(h x hx).2;omega⟩) (by omega) hz (by rw [cG];trivial) (by simp) (by rw [bU];omega) (by rw [aS];omega)).mono (by omega), ?_⟩
 rw [ax,bU];omega
theorem KX {n:Nat} {l:LB} (h:jj n l):Bs' n l/\bU l<=299:=by
 induction l with
 |nil=>exact ⟨aaB _,by rw [bU];omega⟩
 |cons x l ih=>
  obtain ⟨i1,i2⟩:=ih fun x hx=>h x (by simp [hx])
  obtain ⟨t,e,h1,h2,h3,h4⟩:=h x (by simp)
  obtain ⟨f,ks⟩:=x
  have e:ks=[t]:=e
  subst e
  refine ⟨?_, ?_⟩
  ·refine ⟨?_, ?_, ?_⟩
   ·rw [cG,kY,cR,cR];exact ⟨⟨⟨h3,h4,by simp⟩,h1.ok,trivial⟩,i1.ok⟩
   ·rw [aS,jD,aN,aN,dD,Nat.succ_mul];have:=i1.siz;have:=h1.siz;omega
   ·rw [bU,mf,bu,bu];omega
  ·rw [bU,mf,bu,bu];omega
theorem My {g:Tm} (fg:Fm g) (hg:g.kind=16):cG (ca g)/\bU (ca g)<=bU g.sys/\aS (ca g)<=aS g.sys/\(ca g).length=g.sys.length/\er false (-1) 24 18 (ca g)=true/\(ca g).all (dS 18 24)=true:=by
 obtain ⟨hx,hl,_⟩:=fg.gl hg
 unfold ca
 generalize g.sys=l at hx
 clear hl
 induction l with
 |nil=>refine ⟨by rw [List.map_nil,cG];trivial,dv _,dv _,rfl,by rw [List.map_nil,er],rfl⟩
 |cons x l ih=>
  obtain ⟨i1,i2,i3,i4,i5,i6⟩:=ih fun b hb=>hx b (by simp [hb])
  obtain ⟨q1,q2,q3,q4⟩:=hx x (by simp)
  obtain ⟨f,ks⟩:=x
  have q1:ks=[aP ⟨f,ks⟩,k1 ⟨f,ks⟩]:=q1
  have r1:=uj q4
  rw [fG]
  refine ⟨?_, ?_, ?_,by rw [dD,dD,i4], ?_, ?_⟩
  ·rw [cG,kY,cR,cR];exact ⟨⟨⟨r1.1,r1.2,by simp⟩,q3.ok,trivial⟩,i1⟩
  ·rw [bU,bU,mf,mf,bu,bu]
   have:bu ks=max (ax (aP ⟨f,ks⟩)) (max (ax (k1 ⟨f,ks⟩)) 0):=by rw [q1,bu,bu,bu];rfl
   omega
  ·rw [aS,aS,jD,jD,aN,aN]
   have:aN ks=aL (aP ⟨f,ks⟩)+(aL (k1 ⟨f,ks⟩)+0):=by rw [q1,aN,aN,aN];rfl
   omega
  ·rw [er,nU,ep,ep,Bool.and_true,aF]
   exact ⟨(j8 q3.2).2.2,i5⟩
  ·rw [List.all_cons,aF]
   refine ⟨?_,i6⟩
   unfold dS
   rw [aF,aF]
   refine ⟨rfl,RFa.right ⟨q4.1,q4.2 rfl⟩, ?_⟩
   rw [ahy q4.1]
   exact fun c hc j hj=>by
    have:j<24:=hj.elim (SJ (q4.1.rc hc)) (SI (q4.1.rc hc))
    omega
theorem uni_ok:OkT gX/\aL gX=1/\ax gX=1:=by
 refine ⟨?_, ?_, ?_⟩
 ·rw [OkT,cR,cG];exact ⟨⟨by unfold aQ;omega,by unfold aQ;omega,by decide,(fun c hc=>by cases hc),by simp,by simp,by simp⟩,trivial,trivial⟩
 ·rw [aL,aN,aS]
 ·rw [ax,bu,bU];rfl
theorem amm {g a:Tm} (fg:Fm g) (hg:g.kind=16) (fa:Fm a) (hz:aL a+aS g.sys+1<=20000) (hd:ax a+1<=200):Fm (dp a (ca g)):=by
 obtain ⟨e1,e2,e3,e4,e5,e6⟩:=My fg hg
 obtain ⟨_,hl,_⟩:=fg.gl hg
 have hdg:bU g.sys+1<=ax g:=by cases g;rw [ax];simp only [Tm.sys];omega
 have hdd:=fg.dep
 have ho:OkT (dp a (ca g)):=by
  rw [OkT,cR,cR]
  exact ⟨⟨by unfold aQ;omega,by unfold aQ;omega,by decide,(fun c hc=>by cases hc),by simp,by simp,by omega⟩,⟨fa.ok,trivial⟩,e1⟩
 refine ⟨ho,wS ?_ ?_ ?_⟩
 ·rw [ax,bu,bu];omega
 ·rw [aL,aN,aN];omega
 ·rw [cm,e5,dL,dL]
  have e0:fj 18 ((0:Nat):Int)=0:=rfl
  have e7:dR 18 ((0:Nat):Int)=0:=rfl
  rw [e0,e7,amB,Int.add_zero,(j8 fa.2).2.2]
  have:fE (-1) 24 (dp a (ca g))=true:=by
   show (true&&((ca g).all (dS 18 24)&&true))=true
   rw [e6];rfl
  rw [this];rfl
theorem amn:Fm gX:=⟨uni_ok.1,by kernel_rfl⟩
theorem BH {g:Tm} (fg:Fm g) (hg:g.kind=16):Fm (dp gX (ca g)):=by
 obtain ⟨_,_,a,ha,fa⟩:=fg.gl hg
 have hz:=fg.siz
 have h2:aL g=1+(aL a+0)+aS g.sys:=by
  obtain ⟨kd,n,nm,r,ks,sys⟩:=g
  have ha:ks=[a]:=ha
  subst ha
  rw [aL,aN,aN];rfl
 have:=uq a
 exact amm fg hg amn (by rw [uni_ok.2.1];omega) (by rw [uni_ok.2.2];omega)
theorem amA {a:Tm} {es:LB} {u:Tm} (h:bQ 0 1 (dp a es)= .ok u): ∃a' es',u=dp a' es':=by
 obtain ⟨m,h1,h2⟩:=bH h
 have key: ∀ {vb db v d:Int} {x:Tm} {l:LB} {y:Tm},dy vb db v d (dp x l)= .ok y-> ∃x' l',y=dp x' l':=by
  intro vb db v d x l y h
  rw [dy] at h
  split at h
  ·cases h
  obtain ⟨r1,e1,h⟩:=bH h
  obtain ⟨ks1,e2,h⟩:=bH h
  obtain ⟨sys1,e3,h⟩:=bH h
  injection h with h;subst h
  have hr:r1=[]:=List.length_eq_zero_iff.1 (SS e1 rfl)
  have hk:=ahc e2
  obtain ⟨a',ha⟩: ∃a',ks1=[a']:=by
   match ks1,hk with
   |[a'],_=>exact ⟨a',rfl⟩
  subst hr;subst ha
  refine ⟨a',sys1, ?_⟩
  rw [if_neg (by omega)]
 obtain ⟨x',l',rfl⟩:=key h1
 exact key h2
section
variable {g:Tm}
theorem akF (hk:F3 k) (fg:Fm g) (hg:g.kind=16) {x:Br Tm} (hx:x.kids=[aP x]) (c:Int) (Y:Br Tm×Int->OS S):
  AG k x (ca g) c Y=Y (⟨x.face,[nO (mM c (bQ 0 1 (dp gX (ca g)))).1 [aP x]]⟩,(mM c (bQ 0 1 (dp gX (ca g)))).2):=by
 have fe:=BH fg hg
 have hgx:ak x.kids 0=some (aP x):=ju (n:=0) rfl (by rw [hx];rfl)
 have hup:uz 0 1 (dp gX (ca g))=bQ 0 1 (dp gX (ca g)):=if_pos fe.2
 simp only [AG,ap hk.fu,aJ,fS,n9,iZ,h_]
 rw [TD hk (fun _=>fe.isIn hk) (by omega) (by omega),hup,hgx]
 rfl
theorem af2 (hk:F3 k) (fg:Fm g) (hg:g.kind=16) (Y:LB×Int->OS S) {l:LB} (hx: ∀b∈l,b.kids=[aP b]/\Fm (aP b)/\RX true b.face) (hl:l.length<=20000):
  ∀ (r p acc:LB) (m:Nat) (c:Int),l=p++r->r.length<m->acc.length+r.length<=20000->
   ∃l',sY k Y (ca g) l m c (p.length:Int) acc=Y (acc++l',oD (ux c (gR (ca g) r)))/\l'.length=r.length/\jj 50000 l'/\ ∀l'',ux c (gR (ca g) r)= .ok l''->l'=l'':=by
 intro r
 induction r with
 |nil=>
  intro p acc m c h hm ha
  obtain ⟨m,rfl,hm'⟩:=aq hm
  refine ⟨[], ?_,rfl,vG _,fun l'' h=> ?_⟩
  ·simp only [sY,zh,d2 h,al,eU]
   by_cases hc:c=0
   ·subst hc;rfl
   ·rw [jG hc];rfl
  ·by_cases hc:c=0
   ·subst hc;rw [jF,gR] at h;injection h
   ·rw [jG hc] at h;cases h
 |cons x r ih=>
  intro p acc m c h hm ha
  obtain ⟨m,rfl,hm'⟩:=aq hm
  obtain ⟨e1,e2,e3,e4⟩:=aK h (by omega)
  rw [dD] at ha
  simp only [sY,zh,e1,ao,e2,aI,ap hk.fu,e3,akF hk fg hg (hx x (by rw [h];simp)).1]
  rw [bA (by simp;omega)]
  obtain ⟨_,x2,x3⟩:=hx x (by rw [h];simp)
  have hfn:FN (mM c (bQ 0 1 (dp gX (ca g)))).1:=Gp fun t h=>mG (by omega) (BH fg hg) h
  obtain ⟨l',h1,h2,hb,h3⟩:=ih (p++[x]) (acc++[⟨x.face,[nO (mM c (bQ 0 1 (dp gX (ca g)))).1 [aP x]]⟩]) m (mM c (bQ 0 1 (dp gX (ca g)))).2 e4 hm' (by rw [it,List.length_singleton];omega)
  refine ⟨⟨x.face,[nO (mM c (bQ 0 1 (dp gX (ca g)))).1 [aP x]]⟩::l', ?_,by rw [dD,dD,h2],vF (uj x3) (I2 hfn x2).1 (I2 hfn x2).2 hb,fun l'' hl''=> ?_⟩
  ·refine h1.trans ?_
   rw [gZ,List.singleton_append]
   congr 2
   by_cases hc:c=0
   ·subst hc
    rw [qF,jF,gR]
    cases hh:bQ 0 1 (dp gX (ca g)) with
    |error e=>
     have he:=iO hh
     rw [show (tE (.error e)).2=e from rfl,jG (show e≠0 by omega)];rfl
    |ok u=>
     rw [show (tE (.ok u)).2=0 from rfl,jF,bh]
     cases gR (ca g) r<;>rfl
   ·rw [xl hc,jG hc,jG hc]
  ·by_cases hc:c=0
   ·subst hc
    rw [jF,gR] at hl''
    obtain ⟨u,g1,hl''⟩:=bH hl''
    obtain ⟨l2,g2,hl''⟩:=bH hl''
    injection hl'' with hl''
    subst hl''
    rw [qF,g1] at h3
    rw [qF,g1,h3 l2 (by rw [show (tE (.ok u)).2=0 from rfl,jF];exact g2)];rfl
   ·rw [jG hc] at hl'';cases hl''
theorem akG (hk:F3 k) {x:Br Tm} (hx:x.kids=[aP x,k1 x]) (f0:Fm (aP x)) (f1:Fm (k1 x)) {b t:Tm} (fb:Fm b) (ft:Fm t) (c:Int) (Y:Br Tm×Int->OS S):
  AH k x b t c Y=Y (⟨x.face,[ee 6 [ee 9 [(mM c (bQ 0 1 (k1 x))).1],(mM (mM c (bQ 0 1 (k1 x))).2 (fF [aP x,b,du t.sys] (fU (aP x) b t.sys))).1]]⟩,(mM (mM c (bQ 0 1 (k1 x))).2 (fF [aP x,b,du t.sys] (fU (aP x) b t.sys))).2):=by
 have g0:ak x.kids 0=some (aP x):=ju (n:=0) rfl (by rw [hx];rfl)
 have g1:ak x.kids 1=some (k1 x):=ju (n:=1) rfl (by rw [hx];rfl)
 have hup:uz 0 1 (k1 x)=bQ 0 1 (k1 x):=if_pos f1.2
 simp only [AH,ap hk.fu,aJ,fS,rP,h_,g0,g1,aI]
 rw [TD hk (fun _=>f1.isIn hk) (by omega) (by omega),hup,akL hk (fun _=>⟨f0.isIn hk,fb.isIn hk,DH hk ft⟩) (fun e h=>T2 (fun e h=>wP h) h)]
 rfl
theorem af3 (hk:F3 k) {b t:Tm} (fb:Fm b) (ft:Fm t) (Y:LB×Int->OS S) {l:LB} (hx: ∀b∈l,b.kids=[aP b,k1 b]/\Fm (aP b)/\Fm (k1 b)/\RX true b.face) (hl:l.length<=20000):
  ∀ (r p acc:LB) (m:Nat) (c:Int),l=p++r->r.length<m->acc.length+r.length<=20000->
   ∃l',sX k Y b t l m c (p.length:Int) acc=Y (acc++l',oD (ux c (gF b t.sys r)))/\l'.length=r.length/\jj 500000 l'/\ ∀l'',ux c (gF b t.sys r)= .ok l''->l'=l'':=by
 intro r
 induction r with
 |nil=>
  intro p acc m c h hm ha
  obtain ⟨m,rfl,hm'⟩:=aq hm
  refine ⟨[], ?_,rfl,vG _,fun l'' h=> ?_⟩
  ·simp only [sX,zg,d2 h,al,eU]
   by_cases hc:c=0
   ·subst hc;rfl
   ·rw [jG hc];rfl
  ·by_cases hc:c=0
   ·subst hc;rw [jF,gF] at h;injection h
   ·rw [jG hc] at h;cases h
 |cons x r ih=>
  intro p acc m c h hm ha
  obtain ⟨m,rfl,hm'⟩:=aq hm
  obtain ⟨e1,e2,e3,e4⟩:=aK h (by omega)
  rw [dD] at ha
  obtain ⟨x1,x2,x3,x4⟩:=hx x (by rw [h];simp)
  simp only [sX,zg,e1,ao,e2,aI,ap hk.fu,aJ,e3,akG hk x1 x2 x3 fb ft]
  rw [bA (by simp;omega)]
  have fA:FN (mM c (bQ 0 1 (k1 x))).1:=Gp fun t h=>mG (by omega) x3 h
  have fB: ∀c,FN (mM c (fF [aP x,b,du t.sys] (fU (aP x) b t.sys))).1:=fun c=>Gp fun w h=>by
   obtain ⟨so,ff,hfe⟩:=I3 h
   exact ⟨(wQ hk x2 fb (uA (Dv x2.ok fb.ok (DH hk ft).1 so).2.2) hfe).1.1,ff⟩
  have fB:=fB (mM c (bQ 0 1 (k1 x))).2
  generalize hA:mM c (bQ 0 1 (k1 x))=A at fA fB ⊢
  generalize hB:mM A.2 (fF [aP x,b,du t.sys] (fU (aP x) b t.sys))=B at fB ⊢
  have q9:=Du (kd:=9) (by omega) (n:=20000) (ks:=[A.1]) (fun x hx=>by simp at hx;subst hx;exact ⟨fA.sm.1,by have:=fA.sm.2;omega⟩) (by simp)
  have q6:=Du (kd:=6) (by omega) (n:=80001) (ks:=[ee 9 [A.1],B.1]) (fun x hx=>by
   simp at hx
   rcases hx with rfl|rfl
   ·refine ⟨q9.1, ?_⟩
    unfold ee;rw [ax,bu,bu,bU];have:=fA.sm.2;omega
   ·exact ⟨fB.sm.1.mono (by omega),by have:=fB.sm.2;omega⟩) (by simp)
  obtain ⟨l',h1,h2,hb,h3⟩:=ih (p++[x]) (acc++[⟨x.face,[ee 6 [ee 9 [A.1],B.1]]⟩]) m B.2 e4 hm' (by rw [it,List.length_singleton];omega)
  refine ⟨⟨x.face,[ee 6 [ee 9 [A.1],B.1]]⟩::l', ?_,by rw [dD,dD,h2],vF (uj x4) (q6.1.mono (by omega)) (by have:=q6.2;omega) hb,fun l'' hl''=> ?_⟩
  ·refine h1.trans ?_
   rw [gZ,List.singleton_append]
   congr 2
   subst hB;subst hA
   by_cases hc:c=0
   ·subst hc
    rw [qF,jF,gF]
    cases hh:bQ 0 1 (k1 x) with
    |error e=>
     have he:=iO hh
     rw [show (tE (.error e)).2=e from rfl,xl (show e≠0 by omega),jG (show e≠0 by omega)];rfl
    |ok u=>
     rw [show (tE (.ok u)).2=0 from rfl,qF,bh]
     cases hw:fF [aP x,b,du t.sys] (fU (aP x) b t.sys) with
     |error e=>
      have he:=T2 (fun e h=>wP h) hw
      rw [show (tE (.error e)).2=e from rfl,jG he];rfl
     |ok w=>
      rw [show (tE (.ok w)).2=0 from rfl,jF,bh]
      cases gF b t.sys r<;>rfl
   ·rw [xl hc,xl hc,jG hc,jG hc]
  ·by_cases hc:c=0
   ·subst hc
    rw [jF,gF] at hl''
    obtain ⟨u,g1,hl''⟩:=bH hl''
    obtain ⟨w,g2,hl''⟩:=bH hl''
    obtain ⟨l2,g3,hl''⟩:=bH hl''
    injection hl'' with hl''
    subst hl''
    rw [qF,g1] at hA
    subst hA
    rw [show (tE (.ok u)).2=0 from rfl,qF,g2] at hB
    subst hB
    rw [h3 l2 (by rw [show (tE (.ok w)).2=0 from rfl,jF];exact g3)];rfl
   ·rw [jG hc] at hl'';cases hl''
end
theorem afT (hk:F3 k) (Y:LB->OS S) {l:LB} (hx: ∀b∈l,b.kids=[aP b,k1 b]) (hl:l.length<=20000):
  ∀ (r p acc:LB) (m:Nat),l=p++r->r.length<m->acc.length+r.length<=20000->
   sZ k Y l m (p.length:Int) acc=Y (acc++r.map fun x=>⟨x.face,[k1 x]⟩):=by
 intro r
 induction r with
 |nil=>
  intro p acc m h hm ha
  obtain ⟨m,rfl,hm'⟩:=aq hm
  simp only [sZ,zi,d2 h,al,List.map_nil,eU]
 |cons x r ih=>
  intro p acc m h hm ha
  obtain ⟨m,rfl,hm'⟩:=aq hm
  obtain ⟨e1,e2,e3,e4⟩:=aK h (by omega)
  rw [dD] at ha
  have g1:ak x.kids 1=some (k1 x):=ju (n:=1) rfl (by rw [hx x (by rw [h];simp)];rfl)
  simp only [sZ,zi,e1,ao,e2,aI,ap hk.fu,e3,FK,g1,aJ,h_]
  rw [bA (by simp;omega),ih (p++[x]) _ m e4 hm' (by rw [it,List.length_singleton];omega),gZ];rfl
theorem af4 (hk:F3 k) (Y:LB->OS S) {b t:Tm} {l:LB} (hx: ∀b∈l,b.kids=[aP b,k1 b]) (hl:l.length<=20000):
  ∀ (r p acc:LB) (m:Nat),l=p++r->r.length<m->acc.length+r.length<=20000->
   sW k Y t b l m (p.length:Int) acc=Y (acc++kK b t.sys r):=by
 intro r
 induction r with
 |nil=>
  intro p acc m h hm ha
  obtain ⟨m,rfl,hm'⟩:=aq hm
  simp only [sW,zf,d2 h,al,kK,List.map_nil,eU]
 |cons x r ih=>
  intro p acc m h hm ha
  obtain ⟨m,rfl,hm'⟩:=aq hm
  obtain ⟨e1,e2,e3,e4⟩:=aK h (by omega)
  rw [dD] at ha
  have g0:ak x.kids 0=some (aP x):=ju (n:=0) rfl (by rw [hx x (by rw [h];simp)];rfl)
  simp only [sW,zf,e1,ao,e2,aI,ap hk.fu,e3,FE,g0,aJ,h_,iZ]
  rw [bA (by simp;omega),ih (p++[x]) _ m e4 hm' (by rw [it,List.length_singleton];omega),gZ];rfl
theorem alA {t x b:Tm} (ft:Fm t) (fx:Fm x) (fb:Fm b):Sm 60001 (.mk 15 0 av [] [x,b] t.sys)/\ax (.mk 15 0 av [] [x,b] t.sys)<=299:=by
 obtain ⟨o1,o2,o3,o4,o5,o6,o7⟩:=ft.ok.no
 have hs:cG t.sys:=by have:=ft.ok;cases t;rw [OkT] at this;exact this.2.2
 have hd:bU t.sys+1<=ax t:=by cases t;rw [ax];simp only [Tm.sys];omega
 have hz:aS t.sys+1<=aL t:=by cases t;rw [aL];simp only [Tm.sys];omega
 have:=ft.siz;have:=ft.dep;have:=fx.siz;have:=fx.dep;have:=fb.siz;have:=fb.dep
 refine ⟨(yx (kd:=15) (by omega) (r:=[]) ⟨(fun c hc=>by cases hc),by simp⟩ (ks:=[x,b]) (sys:=t.sys) (n:=40000) (m:=20000) (fun y hy=>by
  simp at hy
  rcases hy with rfl|rfl
  ·exact ⟨fx.ok,by omega⟩
  ·exact ⟨fb.ok,by omega⟩) (by simp) (by rw [aN,aN,aN];omega) hs o7 (by omega) (by omega)), ?_⟩
 rw [ax,bu,bu,bu];omega
theorem aej {t b:Tm} (ft:Fm t) (fb:Fm b): ∀ {l:LB},(∀b∈l,Fm (aP b)/\RX true b.face)->jj 60001 (kK b t.sys l):=by
 intro l
 induction l with
 |nil=>intro _;exact vG _
 |cons x l ih=>
  intro h
  obtain ⟨h1,h2⟩:=h x (by simp)
  have q:=alA ft h1 fb
  exact vF (uj h2) q.1 q.2 (ih fun x hx=>h x (by simp [hx]))
theorem Pw (hk:F3 k) {t g b a:Tm} {l1 l2:LB} (ft:Fm t) (fg:Fm g) (hg:g.kind=16) (ha:g.kids.getD 0 aD=a) (fa:Fm a) (fb:Fm b) (h1:jj 50000 l1) (n1:l1.length<=20000) (h2:jj 500000 l2) (n2:l2.length<=20000):In k (qI g b t.sys l1 l2):=by
 obtain ⟨hx,hl,_⟩:=fg.gl hg
 obtain ⟨e1,e2,e3,e4,_,_⟩:=My fg hg
 have hdg:bU g.sys+1<=ax g:=by cases g;rw [ax];simp only [Tm.sys];omega
 have hzg:aS g.sys+1<=aL g:=by cases g;rw [aL];simp only [Tm.sys];omega
 have:=fg.dep;have:=fg.siz
 have bd:=fb.dep;have bz:=fb.siz;have ad:=fa.dep;have az:=fa.siz
 have u1:Sm 40001 (dp b (ca g))/\ax (dp b (ca g))<=202:=by
  refine ⟨yx (kd:=18) (by omega) (r:=[]) ⟨(fun c hc=>by cases hc),by simp⟩ (ks:=[b]) (sys:=ca g) (n:=20000) (m:=20000) (fun y hy=>by simp at hy;subst hy;exact ⟨fb.ok,by omega⟩) (by simp) (by rw [aN,aN];omega) e1 (by omega) (by omega) (by omega), ?_⟩
  rw [ax,bu,bu];omega
 obtain ⟨b1,b2⟩:=KX (n:=500000) (aaA (fun x hx=>by obtain ⟨t,q1,q2,q3⟩:=h1 x hx;exact ⟨t,q1,q2.mono (by omega),q3⟩) h2)
 have hz:aS (l1++l2)<=40000*500000:=gf b1.siz (jl _ (by rw [it];omega))
 have h15:=yx (kd:=15) (by omega) (r:=[]) ⟨(fun c hc=>by cases hc),by simp⟩ (ks:=[a,dp b (ca g)]) (sys:=l1++l2) (n:=60001) (m:=40000*500000) (fun y hy=>by
  simp at hy
  rcases hy with rfl|rfl
  ·exact ⟨fa.ok,by omega⟩
  ·exact ⟨u1.1.ok,by omega⟩) (by simp) (by rw [aN,aN,aN];have:=u1.1.siz;omega) b1.ok (by rw [it];omega) b2 hz
 obtain ⟨c1,c2⟩:=KX (aej ft fb (l:=g.sys) fun x hx'=>⟨(hx x hx').2.1,(hx x hx').2.2.2⟩)
 have hlen:(kK b t.sys g.sys).length=g.sys.length:=by unfold kK;rw [List.length_map]
 have hz3:aS (kK b t.sys g.sys)<=20000*60001:=gf c1.siz (jl _ (by omega))
 unfold qI
 rw [ha]
 have hd15:ax (.mk 15 0 av [] [a,dp b (ca g)] (l1++l2))<=300:=h15.dep
 refine ⟨?_,hk.fd ?_, ?_⟩
 ·rw [OkT,cR,cR]
  exact ⟨⟨by unfold aQ;omega,by unfold aQ;omega,by decide,(fun c hc=>by cases hc),by simp,by simp,by omega⟩,⟨h15.ok,trivial⟩,c1.ok⟩
 ·rw [ax,bu,bu];omega
 ·rw [aL,aN,aN];have:=h15.siz;omega
theorem akE (hk:F3 k) {t:Tm} (ht:In k t) (Y:Tm×Bool×Int->OS S):vV k t Y=Y (tN t):=by
 have hfu:4294968296<=k:=hk
 simp only [vV,ap hk.fu,aJ,pk ht.1 ht.2.1 ht.dep]
 unfold tN
 by_cases h0:dn t=0
 case neg=>rw [kr h0,dQ,ao,if_pos h0];rfl
 rw [h0,show (!((0:Int)==0))=false from rfl,al,if_neg (by simp)]
 have ft:Fm t:=⟨ht.1,h0⟩
 by_cases h15:t.kind=15
 case neg=>rw [beq_false_of_ne h15,dQ,ao,if_neg (fun h=>h15 h.1)];rfl
 rw [h15,show (!((15:Int)==15))=false from rfl,al]
 obtain ⟨g,b,hkd⟩:=Ks (GS ft h15 (n:=2) rfl)
 obtain ⟨g0,g1⟩:=MJ hkd
 obtain ⟨d0,d1⟩:=Gv hkd
 have fg:Fm g:=ft.kid (by rw [hkd];simp)
 have fb:Fm b:=ft.kid (by rw [hkd];simp)
 obtain ⟨sy,syl⟩:=ft.sy h15
 rw [g0,aI,d0]
 by_cases h16:g.kind=16
 case neg=>rw [beq_false_of_ne h16,dQ,ao,if_neg (fun h=>h16 h.2)];rfl
 rw [h16,show (!((16:Int)==16))=false from rfl,al,Te t ht.1 _ ht.2.1,g0,aI,g1,aI,aI,if_pos ⟨rfl,rfl⟩]
 obtain ⟨hx,hl,a,hak,fa⟩:=fg.gl h16
 have ga:ak g.kids 0=some a:=ju (n:=0) rfl (by rw [hak];rfl)
 have had:g.kids.getD 0 aD=a:=by rw [hak];rfl
 have hes: ∀q:LB->OS S,vZ k g q=q (ca g):=fun q=>by
  simp only [vZ,ap hk.fu,FJ,Js]
  exact afT hk q (fun b hb=>(hx b hb).1) hl g.sys [] [] k rfl (by omega) (by simpa using hl)
 rw [hes]
 obtain ⟨l1,i1,i2,i3,i4⟩:=af2 hk fg h16 (fun r8=>FH k g.sys b t r8.2 fun r9=>af (aE 1099511627776 r8.1.length r9.1.length) fun x10=>af (ak g.kids 0) fun x11=>n9 k b (ca g) fun r12=>iZ k 15 (r8.1++r9.1) [x11,(Tm.mk r12.1 r12.2.1 r12.2.2.1 [] r12.2.2.2.1 r12.2.2.2.2)] fun r13=>vY k g.sys t b fun r14=>iZ k 17 r14 [(Tm.mk r13.1 r13.2.1 r13.2.2.1 [] r13.2.2.2.1 r13.2.2.2.2)] fun r15=>pU k (Tm.mk r15.1 r15.2.1 r15.2.2.1 [] r15.2.2.2.1 r15.2.2.2.2) r9.2 fun r16=>Y (r16.1,r16.2.1,r16.2.2.1)) (l:=t.sys) sy syl t.sys [] [] k 0 rfl (by omega) (by simpa using syl)
 refine aj (b:=_) ?_ (i1.trans ?_)
 ·rfl
 rw [eo,jF]
 rw [jF] at i4
 obtain ⟨l2,j1,j2,j3,j4⟩:=af3 hk fb ft (fun r9=>af (aE 1099511627776 l1.length r9.1.length) fun x10=>af (ak g.kids 0) fun x11=>n9 k b (ca g) fun r12=>iZ k 15 (l1++r9.1) [x11,(Tm.mk r12.1 r12.2.1 r12.2.2.1 [] r12.2.2.2.1 r12.2.2.2.2)] fun r13=>vY k g.sys t b fun r14=>iZ k 17 r14 [(Tm.mk r13.1 r13.2.1 r13.2.2.1 [] r13.2.2.2.1 r13.2.2.2.2)] fun r15=>pU k (Tm.mk r15.1 r15.2.1 r15.2.2.1 [] r15.2.2.2.1 r15.2.2.2.2) r9.2 fun r16=>Y (r16.1,r16.2.1,r16.2.2.1)) (l:=g.sys) hx hl g.sys [] [] k (oD (gR (ca g) t.sys)) rfl (by omega) (by simpa using hl)
 refine aj (b:=_) ?_ (j1.trans ?_)
 ·rfl
 rw [eo]
 dsimp only
 rw [bA (by omega),ga,aI]
 simp only [n9,iZ,ap hk.fu,aJ,vY,Jr]
 have hin:=Pw hk ft fg h16 had fa fb i3 (by omega) j3 (by omega)
 have h3:=fun q:LB->OS S=>af4 hk q (b:=b) (t:=t) (fun b hb=>(hx b hb).1) hl g.sys [] [] k rfl (by omega) (by simpa using hl)
 refine (h3 _).trans ?_
 rw [eo]
 rw [show (Tm.mk 17 0 av [] [Tm.mk 15 0 av [] [a,Tm.mk 18 0 av [] [b] (ca g)] (l1++l2)] (kK b t.sys g.sys))=qI g b t.sys l1 l2 from by unfold qI;rw [had],akK hk hin]
 unfold ny
 rw [d0,d1]
 cases q1:gR (ca g) t.sys with
 |error e=>
  have he:=MW q1
  rw [show oD (.error e:Except Int (LB))=e from rfl,jG (show e≠0 by omega),rp]
  exact Lg (show e≠0 by omega) Y
 |ok m1=>
  have:=i4 m1 q1
  subst this
  rw [show oD (.ok l1:Except Int (LB))=0 from rfl,jF,bh]
  rw [q1,show oD (.ok l1:Except Int (LB))=0 from rfl,jF] at j4
  cases q2:gF b t.sys g.sys with
  |error e=>
   have he:=MX q2
   rw [show oD (.error e:Except Int (LB))=e from rfl,rp]
   exact Lg (show e≠0 by omega) Y
  |ok m2=>
   have:=j4 m2 q2
   subst this
   rw [show oD (.ok l2:Except Int (LB))=0 from rfl,bh]
   exact aaT Y
def lD {α β:Type} (F:α->Except Int β):List α->Except Int (List β)
 |[]=> .ok []
 |x::l=>bE (F x) fun b=>bE (lD F l) fun l'=> .ok (b::l')
section
variable {x1 x2:Int} {x3:BA} {x4:LC} {x5:LT} {x6 sys:LB}
end
section
variable {x1 x2:Int} {x3:BA} {x4:LC} {x5:LT} {x6 sys:LB}
end
def parts (kd:Int) (sys:LB):LB:=sys.map fun x=>⟨x.face,[ee kd [aP x]]⟩
section
variable {x1 x2:Int} {x3:BA} {x4:LC} {x5:LT} {x6 sys:LB}
end
section
variable {x1 x2:Int} {x3:BA} {x4:LC} {x5:LT} {x6 sys:LB}
end
section
variable {x1 x2:Int} {x3:BA} {x4:LC} {x5:LT} {x6 sys:LB}
end
theorem F0 {l:LB} {N:Nat} {L:Nat->LB->Int->OS S} {fin:LB->OS S} {bad:Int->OS S} {F:Br Tm->Except Int (Br Tm)}
  (hend: ∀ (m:Nat) (acc:LB),acc.length<=N->L (m+1) acc (l.length:Int)=fin acc)
  (hok: ∀ (m:Nat) (x:Br Tm) (p r acc:LB) (b:Br Tm),l=p++x::r->acc.length<N->F x= .ok b->L (m+1) acc (p.length:Int)=L m (acc++[b]) (((p++[x]).length:Nat):Int))
  (hbad: ∀ (m:Nat) (x:Br Tm) (p r acc:LB) (e:Int),l=p++x::r->acc.length<N->F x= .error e->0<m->L (m+1) acc (p.length:Int)=bad e):
  ∀ (r p acc:LB) (m:Nat),l=p++r->r.length<m->acc.length+r.length<=N->L m acc (p.length:Int)=match lD F r with| .ok l'=>fin (acc++l')| .error e=>bad e:=by
 intro r
 induction r with
 |nil=>
  intro p acc m h hm ha
  obtain ⟨m,rfl,hm'⟩:=aq hm
  rw [eU] at h
  subst h
  rw [hend m acc (by simpa using ha),lD]
  dsimp only
  rw [eU]
 |cons x r ih=>
  intro p acc m h hm ha
  obtain ⟨m,rfl,hm'⟩:=aq hm
  rw [dD] at ha hm'
  rw [lD]
  cases hF:F x with
  |error e=>rw [hbad m x p r acc e h (by omega) hF (by omega),rp]
  |ok b=>
   rw [hok m x p r acc b h (by omega) hF,bh,ih (p++[x]) (acc++[b]) m (by rw [h];simp) hm' (by rw [it,List.length_singleton];omega)]
   cases lD F r with
   |error e=>rfl
   |ok l'=>rw [bh];dsimp only;rw [gZ];rfl
theorem aeg (es:LB): ∀l:LB,gR es l=lD (fun x=>bE (bQ 0 1 (dp gX es)) fun u=> .ok ⟨x.face,[nO u [aP x]]⟩) l:=by
 intro l
 induction l with
 |nil=>rfl
 |cons x l ih=>
  rw [gR,lD,ih]
  cases bQ 0 1 (dp gX es) with
  |error e=>rfl
  |ok u=>rfl
theorem aei (b:Tm) (sys:LB): ∀l:LB,gF b sys l=lD (fun x=>bE (bQ 0 1 (k1 x)) fun f=>bE (fF [aP x,b,du sys] (fU (aP x) b sys)) fun w=> .ok ⟨x.face,[ee 6 [ee 9 [f],w]]⟩) l:=by
 intro l
 induction l with
 |nil=>rfl
 |cons x l ih=>
  rw [gF,lD,ih]
  cases bQ 0 1 (k1 x) with
  |error e=>rfl
  |ok u=>
   rw [bh,bh]
   cases fF [aP x,b,du sys] (fU (aP x) b sys) with
   |error e=>rfl
   |ok w=>rfl

structure ElimP (k:Nat) (t:Tm) (f b line:Tm) (l:LB) (y:Tm):Prop where
 so:eD [(lx t).kids.getD 0 aD,(lx t).kids.getD 1 aD,du (lx t).sys]=0
 fill:fU ((lx t).kids.getD 0 aD) ((lx t).kids.getD 1 aD) (lx t).sys= .ok f
 up:bQ 0 1 (t.kids.getD 0 aD)= .ok b
 plug:aiF 0 b f= .ok line
 brs:Mw t.kind b (Cc t) (lx t).sys= .ok l
 so2:eD [line,BB t.kind (t.kids.getD 0 aD) (Cc t) ((lx t).kids.getD 1 aD),du l]=0
 comp:aaP line (BB t.kind (t.kids.getD 0 aD) (Cc t) ((lx t).kids.getD 1 aD)) l= .ok y
 fy:dn y=0
 ff:Fm f
 fb:Fm b
 fl:Fm line
 fa:Fm (BB t.kind (t.kids.getD 0 aD) (Cc t) ((lx t).kids.getD 1 aD))
 fw:Fm (du l)
 bs:l.map (·.face)=(lx t).sys.map (·.face)
 yin:In k y
theorem TP (hk:F3 k) {kd:Int} {x:Except Int Tm} (hx:Gd x) (Y:Tm->OS S):oj k kd (rE x) Y=Y (rE (bE x fun a=> .ok (ee kd [a]))):=by
 have hfu:4294968296<=k:=hk
 simp only [oj,ap hk.fu,aJ,wx,DB]
 have:=Nz hk.fu Y (kd:=kd) (l:=[rE x]) (by simp) [rE x] [] k rfl (by simp;omega)
 refine aj this ?_
 congr 1
 rw [List.find?_cons]
 cases x with
 |error e=>rw [show rE (.error e)=dw e from rfl,ml (hx.en e rfl).1];rfl
 |ok a=>rw [show rE (.ok a)=a from rfl,decide_eq_false (by have:=hx.kd a rfl;omega)];rfl
theorem IU (hk:F3 k) {kd:Int} {a:Tm} (ha:0<=a.kind) (Y:Tm->OS S):oj k kd a Y=Y (ee kd [a]):=TP hk (x:= .ok a) (BT ha) Y
theorem IV (hk:F3 k) {kd:Int} {a b:Tm} (ha:0<=a.kind) (hb:0<=b.kind) (Y:Tm->OS S):md k kd a b Y=Y (ee kd [a,b]):=Tk hk (x:= .ok a) (y:= .ok b) (BT ha) (BT hb) Y
theorem IR (hk:F3 k) {kd n:Int} {nm:BA} {r:LC} {ks:LT} {acc:LB} (hkd:0<=kd) (hacc:acc.length<1073741824) {f:LC} {y:Tm} (hy:0<=y.kind) (Y:Tm->OS S):
  jp k (.mk kd n nm r ks acc) f y Y=Y (.mk kd n nm r ks (acc++[.mk f [y]])):=IJ hk hkd hacc (x:= .ok y) (BT hy) Y
theorem Dm (hk:F3 k) {a:Tm} (ha:0<=a.kind) (es:LB) (Y:Tm->OS S):sc k a es Y=Y (dp a es):=by
 simp only [sc,ap hk.fu,aJ,IU hk ha]
 rfl
theorem ak7 (hk:F3 k) {t a:Tm} (ht:0<=t.kind) (ha:0<=a.kind) (sys:LB) (Y:Tm->OS S):A9 k t a sys Y=Y (.mk 15 0 av [] [t,a] sys):=by
 simp only [A9,ap hk.fu,aJ,IV hk ht ha]
 rfl
theorem agE (hk:F3 k) (Y:LB->OS S) {g:Tm} (hx: ∀b∈g.sys,b.kids=[aP b,k1 b]) (hl:g.sys.length<=20000):
  ∀ (r p acc:LB) (m:Nat),g.sys=p++r->r.length<m->acc.length+r.length<=20000->
   tx k Y g m acc (p.length:Int)=Y (acc++r.map fun x=>⟨x.face,[k1 x]⟩):=by
 intro r
 induction r with
 |nil=>
  intro p acc m h hm ha
  obtain ⟨m,rfl,hm'⟩:=aq hm
  simp only [tx,zW,d2 h,al,List.map_nil,eU]
 |cons x r ih=>
  intro p acc m h hm ha
  obtain ⟨m,rfl,hm'⟩:=aq hm
  obtain ⟨e1,e2,e3,e4⟩:=aK h (by omega)
  rw [dD] at ha
  have g1:ak x.kids 1=some (k1 x):=ju (n:=1) rfl (by rw [hx x (by rw [h];simp)];rfl)
  simp only [tx,zW,e1,ao,e2,aI,g1,aJ,e3]
  rw [bA (by simp;omega),ih (p++[x]) _ m e4 hm' (by rw [it,List.length_singleton];omega),gZ];rfl
theorem ahD {f:Br Tm->Br Tm}: ∀l:LB,lD (fun x=> .ok (f x)) l= .ok (l.map f):=by
 intro l
 induction l with
 |nil=>rfl
 |cons x l ih=>rw [lD,bh,ih,bh];rfl
section
variable {t g b a:Tm}
theorem alu {es:LB} {u w:Tm} (h:bQ 0 1 (dp gX es)= .ok u):nO u [w]=dp w u.sys:=by
 obtain ⟨a',es',rfl⟩:=amA h
 rfl
theorem agO (hk:F3 k) (Y:Tm->OS S) (fb:Fm b) (hx: ∀b∈g.sys,b.kids=[aP b,k1 b]/\Fm (aP b)) (hl:g.sys.length<=20000) (H:Tm):oY k Y t g b k (ee 17 [H]) 0=Y (.mk 17 0 av [] [H] (kK b t.sys g.sys)):=by
 have hfu:4294968296<=k:=hk
 have key:=F0 (S:=S) (l:=g.sys) (N:=20000) (L:=fun m acc i=>oY k Y t g b m (.mk 17 0 av [] [H] acc) i) (fin:=fun acc=>Y (.mk 17 0 av [] [H] acc)) (bad:=fun e=>Y (dw e)) (F:=fun x=> .ok ⟨x.face,[.mk 15 0 av [] [aP x,b] t.sys]⟩)
  (fun m acc _=>by
   have:=d2 (l:=g.sys) (p:=g.sys) (by simp)
   simp only [oY,zV,this,al,aJ])
  (fun m x p r acc y h hacc hy=>by
   obtain ⟨e1,e2,e3,_⟩:=aK h (by omega)
   obtain ⟨q1,q2⟩:=hx x (by rw [h];simp)
   have hg:ak x.kids 0=some (aP x):=ju (n:=0) rfl (by rw [q1];rfl)
   injection hy with hy;subst hy
   simp only [oY,zV,e1,ao,e2,aI,hg,ap hk.fu,aJ,ak7 hk q2.kd0 fb.kd0,e3]
   rw [show decide ((Tm.mk 17 0 av [] [H] acc).kind>=0)=true from rfl,ao,IR hk (by omega) (by omega) (by show (0:Int)<=15;omega)])
  (fun m x p r acc e h hacc hy hm=>by cases hy)
  g.sys [] [] k rfl (by omega) (by simpa using hl)
 refine key.trans ?_
 rw [ahD];rfl
theorem agN (hk:F3 k) (Y:Tm->OS S) (ft:Fm t) (fb:Fm b) (hx: ∀b∈g.sys,b.kids=[aP b,k1 b]/\Fm (aP b)/\Fm (k1 b)/\RX true b.face) (hl:g.sys.length<=20000) {A:Tm} {l1:LB} (h1:l1.length<=20000):
  nn k Y t g b k (.mk 15 0 av [] [A,dp b (ca g)] l1) 0=Y (rE (bE (gF b t.sys g.sys) fun l2=> .ok (.mk 17 0 av [] [.mk 15 0 av [] [A,dp b (ca g)] (l1++l2)] (kK b t.sys g.sys)))):=by
 have hfu:4294968296<=k:=hk
 have hwx:=DH hk ft
 have hend:=fun acc=>agO (S:=S) (k:=k) (t:=t) (g:=g) (b:=b) hk Y fb (fun b hb=>⟨(hx b hb).1,(hx b hb).2.1⟩) hl (Tm.mk 15 0 av [] [A,dp b (ca g)] acc)
 have key:=F0 (S:=S) (l:=g.sys) (N:=40000) (L:=fun m acc i=>nn k Y t g b m (.mk 15 0 av [] [A,dp b (ca g)] acc) i) (fin:=fun acc=>Y (.mk 17 0 av [] [.mk 15 0 av [] [A,dp b (ca g)] acc] (kK b t.sys g.sys))) (bad:=fun e=>Y (dw e)) (F:=fun x=>bE (bQ 0 1 (k1 x)) fun f=>bE (fF [aP x,b,du t.sys] (fU (aP x) b t.sys)) fun w=> .ok ⟨x.face,[ee 6 [ee 9 [f],w]]⟩)
  (fun m acc hacc=>by
   have:=d2 (l:=g.sys) (p:=g.sys) (by simp)
   simp only [nn,rA,this,al,ap hk.fu,aJ,IU hk (a:=Tm.mk 15 0 av [] [A,dp b (ca g)] acc) (by show (0:Int)<=15;omega)]
   exact hend acc)
  (fun m x p r acc y h hacc hy=>by
   obtain ⟨e1,e2,e3,_⟩:=aK h (by omega)
   obtain ⟨q1,q2,q3,q4⟩:=hx x (by rw [h];simp)
   have hg0:ak x.kids 0=some (aP x):=ju (n:=0) rfl (by rw [q1];rfl)
   have hg1:ak x.kids 1=some (k1 x):=ju (n:=1) rfl (by rw [q1];rfl)
   obtain ⟨f,g1,hy⟩:=bH hy
   obtain ⟨w,g2,hy⟩:=bH hy
   injection hy with hy;subst hy
   have ff:=mG (by omega) q3 g1
   obtain ⟨so,fw,hfe⟩:=I3 g2
   have hwk:=(wQ hk (Dv q2.ok fb.ok hwx.1 so).1 fb (uA (Dv q2.ok fb.ok hwx.1 so).2.2) hfe).2
   simp only [nn,rA,e1,ao,e2,aI,hg0,hg1,ap hk.fu,aJ,e3]
   rw [show decide ((Tm.mk 15 0 av [] [A,dp b (ca g)] acc).kind>=0)=true from rfl,ao,pm hk q3 (by omega) (by omega),g1,show rE (.ok f)=f from rfl]
   simp only [A6,ap hk.fu,aJ,IU hk ff.kd0]
   rw [show decide ((ee 9 [f]).kind<0)=false from rfl,al,TL hk (q2.isIn hk) (fb.isIn hk) hwx,g2,show (tE (.ok w)).2=0 from rfl,show (tE (.ok w)).1=w from rfl,show (!((0:Int)==0))=false from rfl,al,IV hk (by show (0:Int)<=9;omega) hwk,IR hk (by omega) (by omega) (by show (0:Int)<=6;omega)])
  (fun m x p r acc e h hacc hy hm=>by
   obtain ⟨e1,e2,e3,_⟩:=aK h (by omega)
   obtain ⟨q1,q2,q3,q4⟩:=hx x (by rw [h];simp)
   have hg0:ak x.kids 0=some (aP x):=ju (n:=0) rfl (by rw [q1];rfl)
   have hg1:ak x.kids 1=some (k1 x):=ju (n:=1) rfl (by rw [q1];rfl)
   simp only [nn,rA,e1,ao,e2,aI,hg0,hg1,ap hk.fu,aJ,e3]
   rw [show decide ((Tm.mk 15 0 av [] [A,dp b (ca g)] acc).kind>=0)=true from rfl,ao,pm hk q3 (by omega) (by omega)]
   simp only [A6,ap hk.fu,aJ,TP hk (BU q3)]
   rcases dl hy with hy|⟨f,g1,hy⟩
   ·have he:=iO hy
    rw [hy,rp,show rE (.error e)=dw e from rfl,ml he.1,ao]
   rcases dl hy with hy|⟨_,_,hy⟩
   ·have he:=T1 (fun e h=>wP h) hy
    have ff:=mG (by omega) q3 g1
    rw [g1,bh,show rE (.ok (ee 9 [f]))=ee 9 [f] from rfl,show decide ((ee 9 [f]).kind<0)=false from rfl,al,TL hk (q2.isIn hk) (fb.isIn hk) hwx,hy,show (tE (.error e)).2=e from rfl,kr (show e≠0 by omega),dQ,ao,nL he];rfl
   ·cases hy)
  g.sys [] l1 k rfl (by omega) (by omega)
 refine key.trans ?_
 rw [<-aei]
 cases gF b t.sys g.sys with
 |error e=>rfl
 |ok l2=>rfl
theorem agM (hk:F3 k) (Y:Tm->OS S) (ft:Fm t) (fg:Fm g) (hg:g.kind=16) (fb:Fm b) (sy: ∀b∈t.sys,b.kids=[aP b]/\Fm (aP b)/\RX true b.face) (syl:t.sys.length<=20000) {A:Tm} (hA:g.kids.getD 0 aD=A):
  oX k Y t g b (ca g) k (.mk 15 0 av [] [A,dp b (ca g)] []) 0=Y (rE (bE (gR (ca g) t.sys) fun l1=>bE (gF b t.sys g.sys) fun l2=> .ok (qI g b t.sys l1 l2))):=by
 have hfu:4294968296<=k:=hk
 obtain ⟨hx,hl,_⟩:=fg.gl hg
 have fe:=BH fg hg
 have key:=F0 (S:=S) (l:=t.sys) (N:=20000) (L:=fun m acc i=>oX k Y t g b (ca g) m (.mk 15 0 av [] [A,dp b (ca g)] acc) i) (fin:=fun acc=>Y (rE (bE (gF b t.sys g.sys) fun l2=> .ok (.mk 17 0 av [] [.mk 15 0 av [] [A,dp b (ca g)] (acc++l2)] (kK b t.sys g.sys))))) (bad:=fun e=>Y (dw e)) (F:=fun x=>bE (bQ 0 1 (dp gX (ca g))) fun u=> .ok ⟨x.face,[nO u [aP x]]⟩)
  (fun m acc hacc=>by
   have:=d2 (l:=t.sys) (p:=t.sys) (by simp)
   simp only [oX,rz,this,al,aJ]
   exact agN hk Y ft fb hx hl hacc)
  (fun m x p r acc y h hacc hy=>by
   obtain ⟨e1,e2,e3,_⟩:=aK h (by omega)
   obtain ⟨q1,q2,q3⟩:=sy x (by rw [h];simp)
   have hg0:ak x.kids 0=some (aP x):=ju (n:=0) rfl (by rw [q1];rfl)
   obtain ⟨u,g1,hy⟩:=bH hy
   injection hy with hy;subst hy
   have fu:=mG (by omega) fe g1
   simp only [oX,rz,e1,ao,e2,aI,hg0,ap hk.fu,aJ,e3]
   rw [show decide ((Tm.mk 15 0 av [] [A,dp b (ca g)] acc).kind>=0)=true from rfl,ao,Dm hk (by show (0:Int)<=3;omega),pm hk fe (by omega) (by omega),g1,show rE (.ok u)=u from rfl,decide_eq_false (by have:=fu.kd0;omega),al,Dm hk q2.kd0,IR hk (by omega) (by omega) (by show (0:Int)<=18;omega),alu g1])
  (fun m x p r acc e h hacc hy hm=>by
   obtain ⟨e1,e2,e3,_⟩:=aK h (by omega)
   simp only [oX,rz,e1,ao,e2,aI,ap hk.fu,aJ,e3]
   rcases dl hy with hy|⟨_,_,hy⟩
   ·have he:=iO hy
    rw [show decide ((Tm.mk 15 0 av [] [A,dp b (ca g)] acc).kind>=0)=true from rfl,ao,Dm hk (by show (0:Int)<=3;omega),pm hk fe (by omega) (by omega),hy,show rE (.error e)=dw e from rfl,ml he.1,ao]
   ·cases hy)
  t.sys [] [] k rfl (by omega) (by simpa using syl)
 refine key.trans ?_
 rw [<-aeg]
 unfold qI
 rw [hA]
 cases gR (ca g) t.sys with
 |error e=>rfl
 |ok l1=>rfl
theorem ak_ (hk:F3 k) (ft:Fm t) (Y:Tm->OS S):A8 k t Y=Y (if t.kind=15/\(t.kids.getD 0 aD).kind=16 then rE (ny t) else aD):=by
 have hfu:4294968296<=k:=hk
 simp only [A8,J_,ap hk.fu,aJ]
 by_cases h15:t.kind=15
 case neg=>rw [beq_false_of_ne h15,dQ,ao,if_neg (fun h=>h15 h.1)];rfl
 rw [h15,show (!((15:Int)==15))=false from rfl,al]
 obtain ⟨g,b,hkd⟩:=Ks (GS ft h15 (n:=2) rfl)
 obtain ⟨g0,g1⟩:=MJ hkd
 obtain ⟨d0,d1⟩:=Gv hkd
 have fg:Fm g:=ft.kid (by rw [hkd];simp)
 have fb:Fm b:=ft.kid (by rw [hkd];simp)
 obtain ⟨sy,syl⟩:=ft.sy h15
 rw [g0,aI,d0]
 by_cases h16:g.kind=16
 case neg=>rw [beq_false_of_ne h16,dQ,ao,if_neg (fun h=>h16 h.2)];rfl
 rw [h16,show (!((16:Int)==16))=false from rfl,al,aI,g1,aI,if_pos ⟨rfl,rfl⟩]
 obtain ⟨hx,hl,a,hak,fa⟩:=fg.gl h16
 have ga:ak g.kids 0=some a:=ju (n:=0) rfl (by rw [hak];rfl)
 have had:g.kids.getD 0 aD=a:=by rw [hak];rfl
 have hes: ∀q:LB->OS S,A_ k g q=q (ca g):=fun q=>by
  simp only [A_,Ka]
  exact agE hk q (fun b hb=>(hx b hb).1) hl g.sys [] [] k rfl (by omega) (by simpa using hl)
 rw [hes,ga,aI,Dm hk fb.kd0,IV hk fa.kd0 (by show (0:Int)<=18;omega)]
 refine (agM hk Y ft fg h16 fb sy syl had).trans ?_
 unfold ny
 rw [d0,d1]
theorem aef (fg:Fm g) (hg:g.kind=16): ∀ {l l':LB},(∀b∈l,b.kids=[aP b]/\Fm (aP b)/\RX true b.face)->gR (ca g) l= .ok l'->jj 50000 l'/\l'.length=l.length:=by
 intro l
 induction l with
 |nil=>intro l' _ h;rw [gR] at h;injection h with h;subst h;exact ⟨vG _,rfl⟩
 |cons x l ih=>
  intro l' hx h
  rw [gR] at h
  obtain ⟨u,g1,h⟩:=bH h
  obtain ⟨m,g2,h⟩:=bH h
  injection h with h;subst h
  obtain ⟨i1,i2⟩:=ih (fun b hb=>hx b (by simp [hb])) g2
  obtain ⟨q1,q2,q3⟩:=hx x (by simp)
  have:=I2 (u:=u) (.inl (mG (by omega) (BH fg hg) g1)) q2
  exact ⟨vF (uj q3) this.1 this.2 i1,by rw [dD,dD,i2]⟩
theorem aeh (hk:F3 k) (ft:Fm t) (fb:Fm b): ∀ {l l':LB},(∀b∈l,b.kids=[aP b,k1 b]/\Fm (aP b)/\Fm (k1 b)/\RX true b.face)->gF b t.sys l= .ok l'->jj 500000 l'/\l'.length=l.length:=by
 intro l
 induction l with
 |nil=>intro l' _ h;rw [gF] at h;injection h with h;subst h;exact ⟨vG _,rfl⟩
 |cons x l ih=>
  intro l' hx h
  rw [gF] at h
  obtain ⟨f,g1,h⟩:=bH h
  obtain ⟨w,g2,h⟩:=bH h
  obtain ⟨m,g3,h⟩:=bH h
  injection h with h;subst h
  obtain ⟨i1,i2⟩:=ih (fun b hb=>hx b (by simp [hb])) g3
  obtain ⟨q1,q2,q3,q4⟩:=hx x (by simp)
  have ff:=mG (by omega) q3 g1
  obtain ⟨so,fw',hfe⟩:=I3 g2
  have hwx:=DH hk ft
  have fw:Fm w:=⟨(wQ hk q2 fb (uA (Dv q2.ok fb.ok hwx.1 so).2.2) hfe).1.1,fw'⟩
  have q9:=Du (kd:=9) (by omega) (n:=20000) (ks:=[f]) (fun x hx=>by simp at hx;subst hx;exact ⟨ff.sm,by have:=ff.dep;omega⟩) (by simp)
  have q6:=Du (kd:=6) (by omega) (n:=80001) (ks:=[ee 9 [f],w]) (fun x hx=>by
   simp at hx
   rcases hx with rfl|rfl
   ·refine ⟨q9.1, ?_⟩
    unfold ee;rw [ax,bu,bu,bU];have:=ff.dep;omega
   ·exact ⟨fw.sm.mono (by omega),by have:=fw.dep;omega⟩) (by simp)
  exact ⟨vF (uj q4) (q6.1.mono (by omega)) (by have:=q6.2;omega) i1,by rw [dD,dD,i2]⟩
end
theorem Pv (hk:F3 k) {t y:Tm} (ft:Fm t) (h15:t.kind=15) (h16:(t.kids.getD 0 aD).kind=16) (h:ny t= .ok y):In k y/\y.kind=17:=by
 obtain ⟨g,b,hkd⟩:=Ks (GS ft h15 (n:=2) rfl)
 obtain ⟨d0,d1⟩:=Gv hkd
 have fg:Fm g:=ft.kid (by rw [hkd];simp)
 have fb:Fm b:=ft.kid (by rw [hkd];simp)
 obtain ⟨sy,syl⟩:=ft.sy h15
 rw [d0] at h16
 obtain ⟨hx,hl,a,hak,fa⟩:=fg.gl h16
 unfold ny at h
 rw [d0,d1] at h
 obtain ⟨l1,e1,h⟩:=bH h
 obtain ⟨l2,e2,h⟩:=bH h
 injection h with h;subst h
 obtain ⟨b1,n1⟩:=aef fg h16 sy e1
 obtain ⟨b2,n2⟩:=aeh hk ft fb hx e2
 exact ⟨Pw hk ft fg h16 (by rw [hak];rfl) fa fb b1 (by omega) b2 (by omega),rfl⟩
theorem ak9 (hk:F3 k) {t:Tm} (ht:In k t) (Y:Tm×Bool×Int->OS S):A7 k t Y=Y (tN t):=by
 simp only [A7,ap hk.fu,aJ,Dl ht.1 ht.2.1 ht.2.2]
 unfold tN
 by_cases h0:dn t=0
 case neg=>rw [kr h0,dQ,ao,if_pos h0];rfl
 rw [h0,show (!((0:Int)==0))=false from rfl,al,if_neg (by simp)]
 have ft:Fm t:=⟨ht.1,h0⟩
 rw [ak_ hk ft]
 split
 case isTrue hc=>
  rw [aki hk (fun e h=>ahN h) (fun y h=>by
   obtain ⟨h1,h2⟩:=Pv hk ft hc.1 hc.2 h
   exact ⟨h1,by rw [h2];decide⟩)]
 case isFalse hc=>rw [akj]
theorem ahM (hk:F3 k) {t:Tm} (ht:In k t):In k (tN t).1:=by
 unfold tN
 by_cases h0:dn t=0
 case neg=>rw [if_pos h0];exact o8 hk
 rw [if_neg (by simp [h0])]
 have ft:Fm t:=⟨ht.1,h0⟩
 split
 case isTrue hc=>
  cases hh:ny t with
  |error e=>exact o8 hk
  |ok y=>
   obtain ⟨h1,h2⟩:=Pv hk ft hc.1 hc.2 hh
   show In k (if dn y=0 then (y,true,(0:Int)) else (aD,false,dn y)).1
   split
   ·exact h1
   ·exact o8 hk
 case isFalse hc=>exact o8 hk
set_option maxRecDepth 100000
theorem amM {S:Type} (q:Nat) (Y:Bool->OS S):v_ (q+400) Y=Y true:=by kernel_rfl
theorem alo (hk:F3 k) (Y:Bool->OS S):v_ k Y=Y true:=by
 have hk:4294968296<=k:=hk
 obtain ⟨q,rfl⟩: ∃q,k=q+400:=⟨k-400,by omega⟩
 exact amM q Y
theorem aj_ (hk:F3 k) {t:Tm} (ht:In k t) (Y:Bool->OS S):AI k t Y=Y true:=by
 simp only [AI,ap hk.fu,aJ,alo hk,ak5 t ht.1 _ ht.2.1,akE hk ht,ak9 hk ht,FL]
 obtain ⟨w,hw⟩:=ak4 t ht.1 100 (fun r1=>ac (decide (r1>100)) (Y true) (Y true)) ht.2.1
 have hres:=ahM hk ht
 simp only [TS _ hres.1 _ hres.2.1,TS t ht.1 _ ht.2.1,ao,beq_self_eq_true]
 exact hw.trans (alr _ _)
end Go.Proofs.YtgajalidbabccaaGreatDoor
namespace Go.Proofs.YtgajalidbabccaaGreatDoor
open Go PI Go.ChangeShapes Go.WideShapes Go.ChangeAt Go.RowKit
set_option maxRecDepth 100000
set_option maxHeartbeats 4000000
theorem aem {k:Nat} (hk:4296016872<=k) {H:Type} {t:Tm} {d:DataW H} (h:QT t d) (hb:Rows.uptoBulk d<=1048576):In k t:=by
 have h1:=h.1
 have h2:=Bg t
 exact ⟨h.2 (by omega),by unfold Fd;omega,by omega⟩
theorem hrow (q:Nat) {a0 b0:Int} {c0:ByteArray} {d0:List Cl} {e0:List Tm} {f0:List (Br Tm)}:C2 (S:=Out UU) q [.agg (gD ET.T (Tm.mk a0 b0 c0 d0 e0 f0))] [] some=ab q (AI q (Tm.mk a0 b0 c0 d0 e0 f0)) fun r=>some (Out.ret (U:=UU) (.bool r) []):=by kernel_rfl
theorem ag_ {j:Nat} (hF:F3 (j+1)) {t0:Tm} (h0:In (j+1) t0):C2 (S:=Out UU) (j+1) [.agg (gD ET.T t0)] [] some=some (.ret (.bool true) []):=by
 obtain ⟨a0,b0,c0,d0,e0,f0⟩:=t0
 exact (hrow (j+1)).trans ((K0 (by omega) _ _).trans (aj_ hF h0 fun r=>some (Out.ret (U:=UU) (.bool r) [])))
theorem ag9 {k:Nat} (hk:4296016872<=k) {o:Obj} (ho:ai o) {t0:Tm} (h0:In k t0):
  d5 (LL o) 6 [.agg (gD ET.T t0)] [] (.ret (.bool true) []):=by
 have hF:F3 k:=by unfold F3;omega
 obtain ⟨j,rfl⟩: ∃j,k=j+1:=⟨k-1,by omega⟩
 obtain ⟨out,hout,hx⟩:=ama (S:=Out UU) o ho (j+1) [.agg (gD ET.T t0)] [] some (.ret (.bool true) []) (ag_ hF h0)
 injection hx with hx
 exact hx▸hout
theorem ag8 (H:Type) (enc:TypeId×Value->H) (W:World) (base:Nat) (args:Array Value) (ds gs:List (DataW H)) (before:List MemPlace)
  (hval: ∀ (j:Nat) t v,Tryz.f6.params[j]? =some t->args[j]? =some v->Value.okWide Tryz.prog W .any base t v)
  (hW:DataW.Whole enc Tryz.prog Tryz.f6.params.toList Rows.glueMergesSpec.vars false W args.toList ds gs before) (hL:laidMetH Tryz.prog Rows.glueMergesRow.laid W) (hb:Rows.uptoBulkAll (ds++gs)<=1048576):
  Calls Tryz.prog 6 args W fun e W'=> ∃v,e= .returned v/\Rows.glueMergesSpec.post enc Tryz.prog Tryz.f6 false true false false W args v W':=by
 have hW':=hW
 obtain ⟨p,q,hA0,hV,rfl,hfz,hnd⟩:=hW
 have hA:DataW.TrodAll enc Tryz.prog W 0 (fun _=>true) true Tryz.f6.params.toList args.toList ds p:=hA0
 rw [Tryz.params6] at hA hval
 obtain ⟨v0,vs0,d0,ds0,p0,q0,hargs,rfl,rfl,h0,r0⟩:=trodAll_cons hA
 obtain ⟨rfl,rfl,rfl⟩:=trodAll_nil r0
 obtain rfl:args= #[v0]:=by cases args;simp_all
 obtain ⟨rfl,rfl⟩:=trodVars_none hV
 obtain ⟨o,ho,hh⟩:=al1 hL
 simp only [eU,Rows.uptoBulkAll,Nat.add_zero] at hb
 obtain ⟨t0,e0,k0⟩:=aak (o:=o) (g:=gB UU 0 fun _=>0) noN h0
 have hk:(4296016872:Nat)<=4296016872:=dv _
 generalize hkk:(4296016872:Nat)=k at hk
 have hok:=ag9 (k:=k) (by omega) ho (aem (by omega) k0 (by omega))
 refine (aaD hok (ad7 hh rfl rfl fun j p hj=> ?_)).mono ?_
 ·match j,hj with
  |0,hj=>cases hj;exact e0
  |j+1,hj=>simp at hj
 ·rintro e W' ⟨rfl,hkept⟩
  refine ⟨_,rfl,aiG rfl rfl (fun t ht=> ?_) rfl hW' hkept⟩
  rw [Tryz.params6] at ht
  have ht':t=26:=by simpa using ht
  rcases ht' with rfl<;>exact of_decide_eq_true (by kernel_rfl)
noncomputable def G5 (os:Os):World:=
 {World.holding Tryz.prog os ⟨#[],#[],[]⟩ with heap:=(World.holding Tryz.prog os ⟨#[],#[],[]⟩).heap.modify 0 fun
   | .cells _ t frozen=> .cells (Lib.deBruijn32tab.map fun n:Nat=>Value.int .u8 n).toArray t frozen
   |o=>o}
def am4:Value:= .agg #[.int .i64 0,.int .i64 0,.string av,.slice none 0 0,.slice none 0 0,.slice none 0 0]
def zeroArgs:Array Value:= #[am4]
def am2 {H:Type}:DataW H:= .agg [.lit (.int .i64 0),.lit (.int .i64 0),.lit (.string []),.nil,.nil,.nil]
theorem ag5 (os:Os):laidMet Tryz.prog Rows.glueMergesRow.laid ((G5 os).forCall (fun _ _=>0) ⟨#[],zeroArgs,[]⟩).memory:=
 laidMet_of_run' 8 (by kernel_rfl) (by kernel_rfl)
theorem ajG (os:Os) {H:Type} (enc:TypeId×Value->H): ∃places,DataW.whole enc Tryz.prog ((G5 os).forCall (fun _ _=>0) ⟨#[],zeroArgs,[]⟩).memory Tryz.f6.params.toList Rows.glueMergesSpec.vars false zeroArgs.toList 8=some ([am2],[],places):=
 ⟨[],by kernel_rfl⟩
theorem ahr (os:Os) (started:os.Started) (H:Type) (enc:TypeId×Value->H) (F:Stop.Interp):
  ReturnsInHanded {} Tryz.checked os 6 .any ((Rows.OpenSpec.upto Rows.glueMergesSpec).preRow enc Tryz.prog Tryz.f6 Rows.glueMergesUptoRow.domain false Rows.glueMergesUptoRow.laid) (((Rows.OpenSpec.upto Rows.glueMergesSpec).at F).post enc Tryz.prog Tryz.f6 false true false false):=by
 obtain ⟨places,hx⟩:=ajG os enc
 refine returnsInHanded_of_row (C:=Tryz.checked) (s:=Rows.OpenSpec.upto Rows.glueMergesSpec) own started (by kernel_rfl) Tryz.func6
  (witness_row_at (enc:=enc) (C:=Tryz.checked) false (G5 os) zeroArgs rfl (by kernel_rfl) (by kernel_rfl) (by kernel_rfl)
   (OpenSpec.preRow_of_cond 8 hx (by kernel_rfl) (fun k hk=>by cases hk;kernel_rfl) (by kernel_rfl) (ag5 os))) ?_
 intro W base args ds gs before hval hW _ hcond _ hL _ _
 exact ag8 H enc W base args ds gs before hval hW hL (of_decide_eq_true (hcond _ rfl))
theorem alp:Rows.GlueMergesUptoSaid:=
 OpenClaim.holds_of_cond 6 Tryz.f6 rfl rfl rfl rfl rfl rfl rfl ⟨rfl,rfl,rfl,rfl,rfl⟩ rfl rfl rfl rfl rfl (by as_aux_lemma=>kernel_rfl) Tryz.func6 aew
  (of_decide_eq_true (by as_aux_lemma=>kernel_rfl)) (by unfold Func.isWrapper;first|(rw [if_pos (by decide+kernel)];kernel_rfl)|(rw [if_neg (by decide+kernel)];exact ⟨rfl,rfl⟩))
  (fun os started H enc _ F=>by rw [OpenClaim.pre_eq_preRow];exact ahr os started H enc F)
theorem plain (f:FuncId) (fn:Func) (hf:Tryz.pinned.checked.prog.funcNamed "hypercube/hypercubelaw18.GlueMerges" =some f) (hfn:Tryz.pinned.checked.prog.funcs[f]? =some fn):
  true=Tryz.pinned.checked.prog.looks []/\ ∀ (j:Nat) t,fn.params[j]? =some t->Tryz.pinned.checked.prog.wantsStandIn t=false:=by
 obtain rfl:f=6:=Option.some.inj ((show Tryz.prog.funcNamed "hypercube/hypercubelaw18.GlueMerges" =some 6 by kernel_rfl).symm.trans hf)|>.symm
 obtain rfl:fn=Tryz.f6:=(Option.some.inj (Tryz.func6.symm.trans hfn)).symm
 refine ⟨by kernel_rfl,fun j t ht=> ?_⟩
 rw [Tryz.params6] at ht
 have ht':t=26:=by simpa using Array.mem_of_getElem? ht
 rcases ht' with rfl
 ·exact (show Tryz.prog.wantsStandIn 26=false by kernel_rfl)
theorem glueMerges_holds:Rows.GlueMergesUptoCardSaid:=
 Claim7.holds_tied_plain_at .later [] _ _ _ _ alp (fun _ h=>by cases h) (by as_aux_lemma=>kernel_rfl) (fun _ h=>by cases h) glueMergesUpto_row_tie rfl ⟨rfl,rfl⟩ (by as_aux_lemma=>kernel_rfl) rfl plain (by as_aux_lemma=>kernel_rfl)
#print axioms glueMerges_holds
end Go.Proofs.YtgajalidbabccaaGreatDoor
