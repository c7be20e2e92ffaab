/- Part 5 of a proof: the sources, with their names and remarks, lie in wip/. -/
import Derived.Test.YtgajalidbabccaaGreatDoorX4
import Derived.KernelRfl
namespace Go.Proofs.YtgajalidbabccaaGreatDoor
open Go PI
set_option linter.unusedVariables false
set_option linter.unusedSimpArgs false
set_option maxRecDepth 20000
variable {S:Type} {k:Nat}
theorem Hj: ∀ {l:List Tm},(∀x∈l,ai x≤ao x)→ax l≤au l:=by
 intro l
 induction l<;>grind [ax,au]
theorem Wg: ∀ {l:List (Br Tm)},(∀b∈l,∀x∈b.kids,ai x≤ao x)→aM l≤aA l:=by
 intro l
 induction l<;>grind [aM,aA,tj,lA,Hj]
theorem tl (t:Tm):ai t≤ao t:=by
 induction t using eS<;>grind [tk,Ab,Hj,Wg]
section
variable {hd:Tm→(Int→Option S)→Option S} {t:Tm}
end
section
variable {hd:Tm→(Int→Option S)→Option S} {t:Tm}
end
section
variable {hd:Tm→Int→Int→Bool→(Bool→Option S)→Option S} {vars dims:Int} {bd:Bool} {t:Tm}
end
theorem De (d:Int) (l:List Cl) (h:l.length=0):b_ l d=true:=by
 grind [b_,mem_bitsN,yp,mV]
theorem abx (hk:Fu k) (ret:Bool→Option S) {l:List Cl} (hlen:l.length<2147483648):
  ∀ (r p:List Cl) (m:Nat),l=p++r→r.length<m→qh k ret l l m (p.length:Int)=ret true:=by
 intro r
 induction r with
 |nil=>
  grind [av,qh,wy,af]
 |cons x r ih=>
  intro p m h hm
  obtain ⟨m,rfl,hm'⟩:=av hm
  obtain ⟨e1,e2,e3,e4⟩:=aV h (by omega)
  grind [qh,wy,al,af]
theorem EP (hk:Fu k) {l:List Cl} (hlen:l.length<2147483648) (ret:Bool→Option S):pk k l l ret=ret true:=by
 simp only [pk,FZ,beq_self_eq_true,Bool.not_true,af]
 exact abx hk ret hlen l [] k rfl (by omega)
section
variable {hd:Tm→Tm→(Bool→Option S)→Option S}
theorem abj (hk:Fu k) (ret:Bool→Option S) {l:List Tm} (hlen:l.length<2147483648) (hQ: ∀y∈l,∀g,hd y y g=g true):
  ∀ (r p:List Tm) (m:Nat),l=p++r→r.length<m→qj hd k ret l l m (p.length:Int)=ret true:=by
 intro r
 induction r with
 |nil=>
  grind [av,qj,wB,af]
 |cons x r ih=>
  intro p m h hm
  obtain ⟨m,rfl,hm'⟩:=av hm
  obtain ⟨e1,e2,e3,e4⟩:=aV h (by omega)
  grind [qj,wB,al,aJ,af]
theorem NV (hk:Fu k) (ret:Bool→Option S) {l:List Tm} (hlen:l.length<2147483648) (hQ: ∀y∈l,∀g,hd y y g=g true):s_ hd k l l ret=ret true:=by
 simp only [s_,F5,beq_self_eq_true,Bool.not_true,af]
 exact abj hk ret hlen hQ l [] k rfl (by omega)
theorem abv (hk:Fu k) (ret:Bool→Option S) {t:Tm} (ht:OkT t) (hQ: ∀b∈t.sys,∀y∈b.kids,∀g,hd y y g=g true):
  ∀ (r p:List (Br Tm)) (m:Nat),t.sys=p++r→r.length<m→qi hd k ret t t m (p.length:Int)=ret true:=by
 obtain ⟨o1,o2,o3,o4,o5,o6,o7⟩:=ht.no
 intro r
 induction r with
 |nil=>
  grind [av,qi,wA,af]
 |cons x r ih=>
  intro p m h hm
  obtain ⟨m,rfl,hm'⟩:=av hm
  obtain ⟨e1,e2,e3,e4⟩:=aV h (by omega)
  have hx:x∈t.sys:=by grind
  have hb:=(ht.bi hx).1
  simp only [qi,wA,e1,al,e2,Option.bind_some,ap hk,EP hk (show x.face.length<2147483648 by omega),NV hk _ (show x.kids.length<2147483648 by omega) (hQ x hx),e3,ih (p++[x]) m e4 hm',Bool.not_true,af]
end
theorem NY (t:Tm):OkT t→ ∀ {k:Nat} (ret:Bool→Option S),Fd k (ai t)→cZ k t t ret=ret true:=by
 induction t using eS with
 |h t ih1 ih2=>
  intro ht k ret hk
  obtain ⟨q,rfl,hq,hf⟩:=hk.pos' (dW t)
  obtain ⟨o1,o2,o3,o4,o5,o6,o7⟩:=ht.no
  have hQ: ∀y∈t.kids,∀g:Bool→Option S,cZ q y y g=g true:=fun y hy g=>ih1 y hy (ht.ki hy) g (hf _ (dv hy))
  have hQ': ∀b∈t.sys,∀y∈b.kids,∀g:Bool→Option S,cZ q y y g=g true:=fun b hb y hy g=>ih2 b hb y hy ((ht.bi hb).2 y hy) g (hf _ (dJ hb hy))
  have:=abv hq ret ht hQ' t.sys [] q rfl (by omega)
  grind [cZ,GQ,F1,af,ap,EP,NV]
section
variable {hd:Tm→Int→(Int→Option S)→Option S} {t:Tm}
end
end Go.Proofs.YtgajalidbabccaaGreatDoor
namespace Go.Proofs.YtgajalidbabccaaGreatDoor
open Go PI
set_option linter.unusedVariables false
set_option linter.unusedSimpArgs false
set_option maxRecDepth 20000
variable {S:Type} {k:Nat}
def pE {α:Type}:Except Int α→Pan Int α
 | .ok a=> .ok a
 | .error e=> .pan e
def eE {α β:Type} (x:Except Int α) (f:α→β) (g:Int→β):β:=match x with
 | .ok a=>f a
 | .error e=>g e
theorem iQ {α β:Type} (x:Except Int α) (f:α→β) (g:Int→β):Pan.elim (pE x) f g=eE x f g:=by cases x<;>rfl
theorem bq {α β γ:Type} (x:Except Int α) (f:α→Except Int β) (u:β→γ) (w:Int→γ):eE (bE x f) u w=eE x (fun a=>eE (f a) u w) w:=by cases x<;>rfl
theorem bM {α β:Type} (a:α) (f:α→β) (g:Int→β):eE (.ok a) f g=f a:=rfl
theorem M5 {α:Type} (x:Except Int α) (ret:Pan Int α→Option S):ret (pE x)=eE x (fun a=>ret (.ok a)) fun e=>ret (.pan e):=by cases x<;>rfl
def ar:Tm:= .mk 0 0 ByteArray.empty [] [] []
def tE:Except Int Tm→Tm×Int
 | .ok t=>(t,0)
 | .error e=>(ar,e)
theorem cJ {α β:Type} {x:Except Int α} {f f':α→β} {g g':Int→β} (h: ∀a,x= .ok a→f a=f' a) (h': ∀e,x= .error e→g e=g' e):eE x f g=eE x f' g':=by
 cases x with
 |ok a=>exact h a rfl
 |error e=>exact h' e rfl
theorem NW (hk:Fu k) {a b d:Int} {f:List Cl} (hf:aE f) (hl:f.length<1073741824) (hd:aK d) (hb:aK b) (ret:Pan Int (List Cl)→Option S):sY k a b f d ret=ret (pE (cL d b f)):=by
 simp only [sY,Pu,ap hk,rf hk hf hl hd hb,c_,cM,bL (show 0+f.length≤1099511627776 by omega)]
 unfold cL
 by_cases h0:b=0
 ·rw [if_pos h0,if_pos (.inl h0)];rfl
 ·rw [if_neg h0]
  by_cases h1:d≥24
  ·rw [if_pos h1,if_pos (.inr h1)];rfl
  ·rw [if_neg h1,if_neg (show ¬ (b=0∨d≥24) by omega)]
   by_cases h2:(bA f d b).2=0
   ·rw [decide_eq_true h2,rq h2];rfl
   ·rw [decide_eq_false h2,vg h2];rfl
section
variable {hd:Int→Int→Tm→Int→Int→(Pan Int Tm→Option S)→Option S} {vb db v d:Int} {t:Tm}
theorem abi (hk:Fu k) (ret:Pan Int Tm→Option S) (rec2:List (Br Tm)→Int→Int→Option S) {r12 r2:List Cl} {b1 v90:Int} {ks:List Tm} {o:List (Br Tm)} {x:Br Tm} {more:Int} (hm:more=aH t.kind)
  (hd0:0≤d∧d<4611686018427387904) (hQ: ∀y∈x.kids,∀g,hd vb db y v (d+more) g=g (pE (bh vb db v (d+more) y))) (hl:x.kids.length<1073741824) (ho:o.length<1073741824):
  ∀ (r p:List Tm) (m:Nat) (acc:List Tm),x.kids=p++r→r.length<m→acc.length=p.length→
  mq hd k ret rec2 r12 vb db t b1 r2 ks o x more v d v90 m acc (p.length:Int)=eE (c6 vb db v d t.kind r) (fun l=>rec2 (o++[⟨r12,acc++l⟩]) more (IntKind.wrap .i64 (v90+1))) fun e=>ret (.pan e):=by
 subst hm
 have hmo:=eA t.kind
 intro r
 induction r with
 |nil=>
  grind [av,mq,wq,af,c6,bM,bL]
 |cons y r ih=>
  intro p m acc h hm ha
  obtain ⟨m,rfl,hm'⟩:=av hm
  obtain ⟨e1,e2,e3,e4⟩:=aV h (by omega)
  have hpl:p.length<x.kids.length:=by grind
  have hy:=hQ y (by grind)
  simp only [mq,wq,e1,al,e2,Option.bind_some,aJ,bJ (n:=d+aH t.kind) (by omega) (by omega),hy,iQ,c6,bq,bM]
  refine cJ (fun t' ht'=> ?_) fun e _=>rfl
  rw [bL (by grind),e3,ih (p++[y]) m (acc++[t']) e4 hm' (by grind)]
  simp
theorem abh (hk:Fu k) (ret:Pan Int Tm→Option S) {r2:List Cl} {b1:Int} {ks:List Tm} {more:Int} (hm:more=aH t.kind) (ht:OkT t) (hdb:aK db) (hd0:0≤d∧d<4611686018427387904)
  (hQ: ∀b∈t.sys,∀y∈b.kids,∀g,hd vb db y v (d+more) g=g (pE (bh vb db v (d+more) y))):
  ∀ (r p:List (Br Tm)) (m:Nat) (o:List (Br Tm)),t.sys=p++r→r.length<m→o.length=p.length→
  iX hd k ret vb db t b1 r2 ks v d m o more (p.length:Int)=eE (cF vb db v d t.kind r) (fun l=>ret (.ok (.mk t.kind b1 t.name r2 ks (o++l)))) fun e=>ret (.pan e):=by
 obtain ⟨o1,o2,o3,o4,o5,o6,o7⟩:=ht.no
 intro r
 induction r with
 |nil=>
  grind [av,iX,rP,af,cF,bM]
 |cons x r ih=>
  intro p m o h hml ho
  obtain ⟨m,rfl,hm'⟩:=av hml
  obtain ⟨e1,e2,e3,e4⟩:=aV h (by omega)
  have hx:x∈t.sys:=by grind
  have hpl:p.length<t.sys.length:=by grind
  have hb:=(ht.bi hx).1
  have hrow:=NW (S:=S) hk (a:=vb) hb.1 hb.2.1 (show aK d by unfold aK;omega) hdb
  have:=fun r12=>abi hk ret (iX hd k ret vb db t b1 r2 ks v d m) (r12:=r12) (r2:=r2) (b1:=b1) (v90:=(p.length:Int)) (ks:=ks) (o:=o) hm hd0 (hQ x hx) hb.2.2 (by omega) x.kids [] k [] rfl (by omega) rfl
  have this: ∀r12,mq hd k ret (iX hd k ret vb db t b1 r2 ks v d m) r12 vb db t b1 r2 ks o x more v d (p.length:Int) k [] 0=_:=this
  have hB:lk vb db v d t.kind x=bE (cL d db x.face) fun f'=>bE (c6 vb db v d t.kind x.kids) fun ks'=> .ok (.mk f' ks'):=by cases x;rfl
  simp only [iX,rP,e1,al,e2,Option.bind_some,ap hk,hrow,iQ,this,cF,hB,bq,bM,List.nil_append,e3]
  refine cJ (fun f' _=>cJ (fun ks' _=> ?_) fun e _=>rfl) fun e _=>rfl
  rw [ih (p++[x]) m (o++[Br.mk f' ks']) e4 hm' (by grind)]
  simp
theorem abg (hk:Fu k) (ret:Pan Int Tm→Option S) {r2:List Cl} {b1:Int} (ht:OkT t) (hdb:aK db) (hd0:0≤d∧d<4611686018427387904) (hv0:0≤v∧v<4611686018427387904)
  (hQ: ∀y∈t.kids,∀a b,0≤a∧a≤1→0≤b∧b≤1→ ∀g,hd vb db y (v+a) (d+b) g=g (pE (bh vb db (v+a) (d+b) y))) (hQ': ∀b∈t.sys,∀y∈b.kids,∀g,hd vb db y v (d+aH t.kind) g=g (pE (bh vb db v (d+aH t.kind) y))):
  ∀ (r p:List Tm) (m:Nat) (acc:List Tm),t.kids=p++r→r.length<m→acc.length=p.length→
  lb hd k ret vb db t b1 r2 v d m acc (p.length:Int)=eE (c5 vb db v d t.kind p.length r) (fun l=>eE (cF vb db v d t.kind t.sys) (fun s=>ret (.ok (.mk t.kind b1 t.name r2 (acc++l) s))) fun e=>ret (.pan e)) fun e=>ret (.pan e):=by
 obtain ⟨o1,o2,o3,o4,o5,o6,o7⟩:=ht.no
 intro r
 induction r with
 |nil=>
  intro p m acc h hm ha
  obtain ⟨m,rfl,hm'⟩:=av hm
  have hs:iX hd k ret vb db t b1 r2 acc v d k [] (aH t.kind) 0=_:=abh hk ret rfl ht hdb hd0 hQ' t.sys [] k [] rfl (by omega) rfl
  grind [lb,rO,c5,bM,gr,aH]
 |cons y r ih=>
  intro p m acc h hm ha
  obtain ⟨m,rfl,hm'⟩:=av hm
  obtain ⟨e1,e2,e3,e4⟩:=aV h (by omega)
  have hpl:p.length<t.kids.length:=by grind
  have b1':=kJ t.kind p.length
  have b2':=eo t.kind p.length
  have hy:=hQ y (by grind) (be t.kind p.length) (aR t.kind p.length) b1' b2'
  simp only [lb,rO,e1,al,e2,Option.bind_some,ap hk,js,aJ,bJ (n:=v+be t.kind p.length) (by omega) (by omega),bJ (n:=d+aR t.kind p.length) (by omega) (by omega),hy,iQ,c5,bq,bM]
  refine cJ (fun t' ht'=> ?_) fun e _=>rfl
  rw [bL (by grind),e3,ih (p++[y]) m (acc++[t']) e4 hm' (by grind),show (p++[y]).length=p.length+1 by simp]
  simp
end
theorem ab4 (vb db v d:Int) (t:Tm):bh vb db v d t=if t.kind=1∧t.n≥v∧t.n>1000000000-vb then .error 100 else bE (cL d db t.r) fun r'=>bE (c5 vb db v d t.kind 0 t.kids) fun ks'=>bE (cF vb db v d t.kind t.sys) fun sys'=> .ok (.mk t.kind (if t.kind=1∧t.n≥v then t.n+vb else t.n) t.name r' ks' sys'):=by cases t;rfl
theorem RowsT.no {t:Tm} (h:RowsT t):RF t.r∧(t.kind=1→t.r=[])∧0≤t.kind:=by cases t;rw [RowsT] at h;exact h.1
theorem RowsT.ki {t x:Tm} (h:RowsT t) (hx:x∈t.kids):RowsT x:=by cases t;rw [RowsT] at h;exact rowsK_iff.1 h.2.1 x hx
theorem RowsT.bi {t:Tm} {b:Br Tm} (h:RowsT t) (hb:b∈t.sys):RF b.face∧ ∀x∈b.kids,RowsT x:=by cases t;rw [RowsT] at h;exact rowsS_iff.1 h.2.2 b hb
def VP (v d:Int) (n:Nat):Prop:=0≤v∧v+n<4611686018427387904∧0≤d∧d+n<4611686018427387904
theorem Aa {vb db:Int} (hvb:0≤vb∧vb≤1000000000) (hdb:aK db) (t:Tm):OkT t→RowsT t→ ∀ {k:Nat} {v d:Int} (ret:Pan Int Tm→Option S),Fd k (ai t)→VP v d (ai t)→dt k vb db t v d ret=ret (pE (bh vb db v d t)):=by
 induction t using eS with
 |h t ih1 ih2=>
  intro ht hro k v d ret hk hv
  obtain ⟨q,rfl,hq,hf⟩:=hk.pos' (dW t)
  obtain ⟨q',hq'⟩: ∃q',q=q'+1:=⟨q-1,by omega⟩
  have hp:=dW t
  unfold VP at hv
  obtain ⟨o1,o2,o3,o4,o5,o6,o7⟩:=ht.no
  have hmo:=eA t.kind
  have hQ: ∀y∈t.kids,∀a b,0≤a∧a≤1→0≤b∧b≤1→ ∀g:Pan Int Tm→Option S,dt q vb db y (v+a) (d+b) g=g (pE (bh vb db (v+a) (d+b) y)):=fun y hy a b h1 h2 g=>
   ih1 y hy (ht.ki hy) (hro.ki hy) g (hf _ (dv hy)) (by have:=dv hy;unfold VP;omega)
  have hQ': ∀b∈t.sys,∀y∈b.kids,∀g:Pan Int Tm→Option S,dt q vb db y v (d+aH t.kind) g=g (pE (bh vb db v (d+aH t.kind) y)):=fun b hb y hy g=>
   ih2 b hb y hy ((ht.bi hb).2 y hy) ((hro.bi hb).2 y hy) g (hf _ (dJ hb hy)) (by have:=dJ hb hy;unfold VP;omega)
  have h1:=fun r2 b1=>abg (r2:=r2) (b1:=b1) hq ret ht hdb (show 0≤d∧d<4611686018427387904 by omega) (show 0≤v∧v<4611686018427387904 by omega) hQ hQ' t.kids [] q [] rfl (by omega) rfl
  have h0: ∀r2 b1,tH (dt q) q ret vb db t r2 v d q b1=lb (dt q) q ret vb db t b1 r2 v d q [] 0:=by
   intro r2 b1
   have: ∀j,j=q'+1→tH (dt q) q ret vb db t r2 v d j b1=lb (dt q) q ret vb db t b1 r2 v d q [] 0:=by rintro j rfl;rfl
   grind
  have h2: ∀r2 b1,tH (dt q) q ret vb db t r2 v d q b1=_:=fun r2 b1=>(h0 r2 b1).trans (h1 r2 b1)
  have hrow:=NW (S:=S) hq (a:=vb) o4 o5 (show aK d by unfold aK;omega) hdb
  simp only [dt,FU,ap hq,hrow,iQ,h2,List.length_nil,List.nil_append]
  rw [M5 _ ret,ab4]
  unfold aK at o2
  by_cases hc:t.kind=1
  ·have hr:=hro.no.2.1 hc
   rw [hr,Es,bM,hc,show ((1:Int)==1)=true from rfl,al,cM]
   by_cases hn:t.n≥v
   ·rw [if_pos hn,bJ (n:=1000000000-vb) (by omega) (by omega),cM]
    by_cases hb:t.n>1000000000-vb
    ·rw [if_pos hb,if_pos (show (1:Int)=1∧t.n≥v∧t.n>1000000000-vb from ⟨rfl,hn,hb⟩)];rfl
    grind [bq,bJ,bM]
   grind [bq,bM]
  ·have hc':(t.kind==1)=false:=by grind
   rw [hc',if_neg (show ¬ (t.kind=1∧t.n≥v∧t.n>1000000000-vb) from fun h=>hc h.1)]
   simp_all [af,bq,bM]
section
variable {hd:Tm→Int→Int→Int→Int→(Tm→Option S)→Option S} {vb db v d:Int} {t:Tm}
theorem Aq {z:List Cl×Int} {α:Type} (f:List Cl→α) (g:Int→α):ab (!(z.2==0)) (g z.2) (f z.1)=eE (d5 z) f g:=by
 rw [c_]
 unfold d5
 by_cases h:z.2=0
 ·rw [decide_eq_true h,if_pos h];rfl
 ·rw [decide_eq_false h,if_neg h];rfl
end
end Go.Proofs.YtgajalidbabccaaGreatDoor
namespace Go.Proofs.YtgajalidbabccaaGreatDoor
open Go PI
set_option linter.unusedVariables false
set_option linter.unusedSimpArgs false
set_option maxRecDepth 20000
variable {S:Type} {k:Nat}
theorem ew {t:Tm} (h:bQ t=0):ai t≤200∧ao t≤20000∧ay false (-1) 24 t=true:=by
 grind [bQ]
theorem md {t:Tm} (h1:ai t≤200) (h2:ao t≤20000) (h3:ay false (-1) 24 t=true):bQ t=0:=by
 grind [bQ]
theorem Cz (t:Tm):0≤bQ t∧bQ t≤1000:=by
 grind [bQ]
def Fm (t:Tm):Prop:=OkT t∧bQ t=0
theorem Fm.ok {t:Tm} (h:Fm t):OkT t:=h.1
theorem Fm.rows {t:Tm} (h:Fm t):RowsT t:=UX t h.1 (ew h.2).2.2
theorem Fm.dep {t:Tm} (h:Fm t):ai t≤200:=(ew h.2).1
theorem Fm.siz {t:Tm} (h:Fm t):ao t≤20000:=(ew h.2).2.1
theorem ja {vb db v d:Int} (hvb:0≤vb∧vb≤1000000000) {t t':Tm} (h:Fm t) (hl:bh vb db v d t= .ok t'):Fm t':=by
 obtain ⟨h1,h2,h3,h4⟩:=tM hvb.1 hvb.2 t v d t' hl
 obtain ⟨a,b,c⟩:=ew h.2
 have:=h4 h.1
 exact ⟨this.1,md (by omega) (by omega) (this.2.2 24 24 (by omega) (by omega) c)⟩
abbrev F3 (k:Nat):Prop:=4294968296≤k
theorem F3.fu (h:F3 k):Fu k:=by omega
theorem F3.fd (h:F3 k) {n:Nat} (hn:n≤1000):Fd k n:=by omega
theorem Fm.fd {t:Tm} (h:Fm t) (hk:F3 k):Fd k (ai t):=hk.fd (by have:=h.dep;omega)
theorem Fm.vp {t:Tm} (h:Fm t) {v d:Int} (hv:0≤v∧v≤4611686018427380000) (hd:0≤d∧d≤4611686018427380000):VP v d (ai t):=by have:=h.dep;unfold VP;omega
theorem gW (x:Except Int Tm) (ret:Tm×Int→Option S):ret (tE x)=eE x (fun t=>ret (t,0)) fun e=>ret (ar,e):=by cases x<;>rfl
theorem aa7 (hk:Fu k) (ret:Tm×Int→Option S) {c0 c2:Int} {c1:Tm} {ns:List Int} (hl:ns.length<1000) (hn: ∀x∈ns,0≤x):
  ∀ (r p:List Int) (m:Nat),ns=p++r→r.length<m→nO k ret c0 c1 c2 ns m (p.length:Int)=xW k c0 c1 c2 fun r4=>Pan.elim r4 (fun r4=>ret (r4,0)) fun e5=>ret (ar,e5):=by
 intro r
 induction r with
 |nil=>
  intro p m h hm
  obtain ⟨m,rfl,hm'⟩:=av hm
  simp only [nO,wj,cD h,af,ap hk,aJ];rfl
 |cons x r ih=>
  intro p m h hm
  obtain ⟨m,rfl,hm'⟩:=av hm
  obtain ⟨e1,e2,e3,e4⟩:=aV h (by omega)
  have hx:=hn x (by grind)
  grind [nO,wj,cM]
theorem NU (hk:F3 k) {t:Tm} (ht:Fm t) {f b:Int} (hf:0≤f∧f≤24) (hb:0≤b∧b<9223372036854775808) (ret:Tm×Int→Option S):lU k t f b ret=ret (tE (bh 0 b 0 f t)):=by
 have hl:=aa7 hk.fu ret (c0:=b) (c2:=f) (c1:=t) (ns:=[f,b]) (by simp) (by grind) [f,b] [] k rfl (by grind)
 have hl:nO k ret b t f [f,b] k 0=_:=hl
 simp only [lU,FS,ap hk.fu,aJ,xY,Ai,fX ht.ok (ht.fd hk) (show ai t<1099511627776 by have:=ht.dep;omega),ht.2,hl,xW,Ps]
 rw [show ((0:Int)==0)=true from rfl,Bool.not_true,af,if_neg (by omega),Aa (by omega) (by unfold aK;omega) t ht.ok ht.rows _ (ht.fd hk) (ht.vp (by omega) (by omega)),iQ,gW _ ret]
 rfl
def aD (vb db:Int) (t:Tm):Except Int Tm:=bE (bh vb 0 0 0 t) (bh 0 db 0 0)
theorem dA {vb db:Int} (hvb:0≤vb∧vb≤1000000000) {t t':Tm} (h:Fm t) (hl:aD vb db t= .ok t'):Fm t':=by
 obtain ⟨a,h1,h2⟩:=ae hl
 exact ja (by omega) (ja hvb h h1) h2
theorem bV {vb db:Int} {t:Tm} {e:Int} (h:aD vb db t= .error e):0<e∧e≤1000:=by
 rcases aW h with h|⟨a,_,h⟩
 ·exact n8 t h
 ·exact n8 a h
theorem aa8 (hk:Fu k) (ret:Tm×Int→Option S) {c0 c1:Int} {c2:Tm} {ns:List Int} (hl:ns.length<1000) (hn: ∀x∈ns,0≤x):
  ∀ (r p:List Int) (m:Nat),ns=p++r→r.length<m→nQ k ret c0 c1 c2 ns m (p.length:Int)=xV k c0 c1 c2 fun r4=>Pan.elim r4 (fun r4=>ret (r4,0)) fun e5=>ret (ar,e5):=by
 intro r
 induction r with
 |nil=>
  intro p m h hm
  obtain ⟨m,rfl,hm'⟩:=av hm
  simp only [nQ,wm,cD h,af,ap hk,aJ];rfl
 |cons x r ih=>
  intro p m h hm
  obtain ⟨m,rfl,hm'⟩:=av hm
  obtain ⟨e1,e2,e3,e4⟩:=aV h (by omega)
  have hx:=hn x (by grind)
  grind [nQ,wm,cM]
theorem EM (hk:F3 k) {t:Tm} (ht:Fm t) {vb db:Int} (hvb:0≤vb∧vb≤1000000) (hdb:0≤db∧db<9223372036854775808) (ret:Tm×Int→Option S):lS k t vb db ret=ret (tE (aD vb db t)):=by
 have hl:=aa8 hk.fu ret (c0:=db) (c1:=vb) (c2:=t) (ns:=[vb,db,1000000-vb]) (by simp) (by grind) [vb,db,1000000-vb] [] k rfl (by grind)
 have hl:nQ k ret db vb t [vb,db,1000000-vb] k 0=_:=hl
 simp only [lS,FR,ap hk.fu,aJ,bJ (n:=1000000-vb) (by omega) (by omega),x_,Ak,fX ht.ok (ht.fd hk) (show ai t<1099511627776 by have:=ht.dep;omega),ht.2,hl,xV,Pr]
 rw [show ((0:Int)==0)=true from rfl,Bool.not_true,af,Aa (show 0≤vb∧vb≤1000000000 by omega) (show aK 0 by unfold aK;omega) t ht.ok ht.rows _ (ht.fd hk) (ht.vp (by omega) (by omega)),iQ,gW _ ret]
 unfold aD
 rw [bq]
 refine cJ (fun y hy=> ?_) fun _ _=>rfl
 have hy':=ja (show 0≤vb∧vb≤1000000000 by omega) ht hy
 rw [Aa (show (0:Int)≤0∧(0:Int)≤1000000000 by omega) (show aK db by unfold aK;omega) y hy'.ok hy'.rows _ (hy'.fd hk) (hy'.vp (by omega) (by omega)),iQ]
 rfl
end Go.Proofs.YtgajalidbabccaaGreatDoor
namespace Go.Proofs.YtgajalidbabccaaGreatDoor
open Go PI
set_option linter.unusedVariables false
set_option linter.unusedSimpArgs false
set_option maxRecDepth 20000
variable {S:Type} {k:Nat}
def a_ (i:Int) (r:List Cl) (fa:Bool):d6:=fun d f=>if eN (jM f) (i+d) then bE (d5 (bA r 0 d)) fun s=>d5 (if fa then io f (i+d) s else iq f (i+d) s) else .ok f
theorem Hm (f:List Cl):U32 (jM f):=by
 have:=Hn f
 exact ⟨Int.natCast_nonneg _,by show ((jN f:Nat):Int)<_;omega⟩
theorem KN {f r:List Cl} {i:Int} (hr:aE r) (h:(iq f i r).2=0):RF (iq f i r).1:=by
 grind [iq,H5,KK,jr,uM]
theorem Dz (f g:List Cl):EN (e_ f g).2:=qz _
theorem CQ (f g:List Cl):EN (fS f g).2:=qz _
theorem acq (f g:List Cl):EN (lm f g).2:=qz _
theorem Ko (f:List Cl):EN (dZ f).2:=yM fun h c=>Dz _ _
theorem adF (i:Int) (r:List Cl) (c:Cl):EN (gm i r c).2:=by
 grind [gm,Dz,tq]
theorem adH (i:Int) (r:List Cl) (c:Cl) (g:List Cl):EN (jj i r c g).2:=by
 grind [jj,Dz,Ko,tq]
theorem adE (i:Int) (r h:List Cl) (c:Cl):EN (j_ i r h c).2:=by
 grind [j_,CQ,adH,adF]
theorem adM (f:List Cl) (i:Int) (r:List Cl):EN (iq f i r).2:=by
 grind [iq,yM,adE,mb]
theorem acG (f:List Cl):EN (jg f).2:=by
 unfold jg
 split
 ·exact qz _
 ·exact mb
theorem acH (f:List Cl):EN (j6 f).2:=by
 unfold j6
 split
 ·split
  ·exact qz _
  ·exact Ko _
 ·exact mb
theorem adK {i:Int} {c:Cl} {h:List Cl} {q:List Cl×Int} (hq:EN q.2):EN (gS i c h q).2:=by
 grind [gS,CQ,acq]
theorem adL (f:List Cl) (i:Int) (r:List Cl):EN (io f i r).2:=by
 grind [io,yM,fc,adK,acG,acH,CQ,mb]
theorem uO {i:Int} {r:List Cl} {fa:Bool} {d:Int} {f g:List Cl} (hf:RF f) (h:a_ i r fa d f= .ok g):RF g:=by
 unfold a_ at h
 split at h
 ·obtain ⟨s,h1,h⟩:=ae h
  obtain ⟨h0,rfl⟩:=iz h1
  have hs:=i_ h0
  obtain ⟨h2,rfl⟩:=iz h
  cases fa with
  |true=>exact (KM hf.2 hs.2 h2).1
  |false=>exact KN hs.2 h2
 grind
theorem Nc {i:Int} {r:List Cl} {fa:Bool} {d:Int} {f:List Cl} {e:Int} (h:a_ i r fa d f= .error e):0<e∧e≤1000:=by
 grind [a_,aW,Ap,tL,EN,adL,adM]
theorem Nd {i:Int} {r:List Cl} {fa:Bool} {d:Int}:a_ i r fa d []= .ok []:=by
 grind [a_,eN,jM,Int.toNat_natCast,yp,mV]
def mI (i:Int) (r:List Cl) (fa:Bool) (d:Int) (f:List Cl):List Cl×Int:=if eN (jM f) (i+d) then if (bA r 0 d).2=0 then if fa then io f (i+d) (bA r 0 d).1 else iq f (i+d) (bA r 0 d).1 else ([],(bA r 0 d).2) else (f,0)
theorem Gp (i:Int) (r:List Cl) (fa:Bool) (d:Int) (f:List Cl):d5 (mI i r fa d f)=a_ i r fa d f:=by
 grind [mI,a_,rq,aN,vg,d7]
section
variable {i d:Int} {r f:List Cl}
theorem NZ (hk:Fu k) (hf:RF f) (hr:RF r) (hi:0≤i∧i<24) (hd:0≤d∧d<4611686018427387000) (ret:List Cl×Int→Option S):sP k f d i r ret=ret (mI i r true d f):=by
 have l1:=hf.len;have l2:=hr.len
 simp only [sP,OM,ap hk,bJ (n:=i+d) (by omega) (by omega),EI hk hf.2 (show f.length<4294967296 by omega),rd hk (Hm f),sO,Fh,bL (show 0+f.length≤1099511627776 by omega),rf hk hr.2 (show r.length<1073741824 by omega) (show aK 0 by unfold aK;omega) (show aK d by unfold aK;omega)]
 unfold mI
 cases eN (jM f) (i+d) with
 |false=>rfl
 |true=>
  rw [Bool.not_true,af,c_,if_pos rfl]
  by_cases h0:(bA r 0 d).2=0
  ·have hs:=i_ h0
   rw [decide_eq_true h0,Bool.not_true,af,afp hk hf.2 hs.2 hf.lt hs.lt,if_pos h0,if_pos rfl]
  grind [al]
theorem afU (hk:Fu k) (hf:RF f) (hr:RF r) (hi:0≤i∧i<24) (hd:0≤d∧d<4611686018427387000) (ret:List Cl×Int→Option S):xl k f d i r ret=ret (mI i r false d f):=by
 have l1:=hf.len;have l2:=hr.len
 simp only [xl,OL,ap hk,bJ (n:=i+d) (by omega) (by omega),EI hk hf.2 (show f.length<4294967296 by omega),rd hk (Hm f),sO,Fh,bL (show 0+f.length≤1099511627776 by omega),rf hk hr.2 (show r.length<1073741824 by omega) (show aK 0 by unfold aK;omega) (show aK d by unfold aK;omega)]
 unfold mI
 cases eN (jM f) (i+d) with
 |false=>rfl
 |true=>
  rw [Bool.not_true,af,c_,if_pos rfl]
  by_cases h0:(bA r 0 d).2=0
  ·have hs:=i_ h0
   rw [decide_eq_true h0,Bool.not_true,af,afm hk hf.2 hs.2 hf.lt hs.lt,if_pos h0,if_neg (by decide)]
  grind [al]
end
def iN (j:Int) (c:Cl):Cl:=⟨l8 c.pos j,l8 c.neg j⟩
def bn (j:Int) (f:List Cl):List Cl:=(bX (f.map (iN j))).1
theorem Hp (s j:Int):0≤l8 s j∧l8 s j<16777216:=by
 have:=Wi s.toNat j
 exact ⟨Int.natCast_nonneg _,by show ((l7 s.toNat j:Nat):Int)<_;omega⟩
theorem G_ (j:Int) (c:Cl):RC (iN j c):=⟨Hp _ _,Hp _ _⟩
theorem sI (j:Int) (f:List Cl): ∀c∈f.map (iN j),RC c:=fun c hc=>by
 grind [G_]
theorem w8 {j:Int} {f:List Cl} (hf:f.length≤64):bX (f.map (iN j))=(bn j f,0):=Prod.ext rfl (IU (sI j f) (by grind))
theorem BJ {j:Int} {f:List Cl} (hf:f.length≤64):RF (bn j f):=qA (fun c hc=>(sI j f c hc).ok) (by rw [w8 hf])
theorem acx: ∀ (n:Nat) {l:List Cl} {c:Cl},(l.filter fun d=>eG c d&& !decide (d=c)).length≤n→(∀d∈l,RC d)→c∈l→ ∃d∈l,cS l d=true:=by
 have hle: ∀ {a b:Cl},RC a→RC b→(eG a b=true↔(∀j,b.pos.toNat.testBit j=true→a.pos.toNat.testBit j=true)∧ ∀j,b.neg.toNat.testBit j=true→a.neg.toNat.testBit j=true):=by
  intro a b ha hb
  unfold eG eZ
  rw [decide_eq_true_eq]
  have hor: ∀ {x y:Int},0≤x→(jh x y=x↔ ∀j,y.toNat.testBit j=true→x.toNat.testBit j=true):=by
   intro x y hx
   unfold jh
   constructor
   ·intro h j hj
    have:(x.toNat|||y.toNat)=x.toNat:=by omega
    grind
   ·intro h
    have:(x.toNat|||y.toNat)=x.toNat:=by
     apply Nat.eq_of_testBit_eq
     grind
    omega
  cases a with
  |mk p q=>
   have h1:0≤p:=ha.1.1
   have h2:0≤q:=ha.2.1
   grind
 have hanti: ∀ {a b:Cl},RC a→RC b→eG a b=true→eG b a=true→a=b:=by
  intro a b ha hb h1 h2
  have e1:=(hle ha hb).1 h1
  have e2:=(hle hb ha).1 h2
  have hx: ∀ {x y:Int},0≤x→0≤y→(∀j,y.toNat.testBit j=true→x.toNat.testBit j=true)→(∀j,x.toNat.testBit j=true→y.toNat.testBit j=true)→x=y:=by
   intro x y hx hy a b
   have:x.toNat=y.toNat:=by
    apply Nat.eq_of_testBit_eq
    grind
   omega
  cases a;cases b
  have p1:=hx ha.1.1 hb.1.1 e1.1 e2.1
  have p2:=hx ha.2.1 hb.2.1 e1.2 e2.2
  grind
 intro n
 induction n with
 |zero=>
  grind [cS,List.filter_eq_nil_iff]
 |succ n ih=>
  intro l c hn hl hc
  by_cases h:cS l c=true
  ·grind
  ·unfold cS at h
   rw [List.all_eq_true] at h
   have: ∃d∈l,¬ ((decide (d=c)|| !eG c d)=true):=Classical.byContradiction fun hh=>h fun d hd=>Classical.byContradiction fun h2=>hh ⟨d,hd,h2⟩
   obtain ⟨d,hd,hd'⟩:=this
   have h1:d≠c:=fun h=>hd' (by grind)
   have h2:eG c d=true:=by
    grind
   refine ih (c:=d) ?_ hl hd
   have hsub:(l.filter fun e=>eG d e&& !decide (e=d)).length<(l.filter fun e=>eG c e&& !decide (e=c)).length:=by
    have hc':=hl c hc;have hdr:=hl d hd
    have himp: ∀e∈l,(eG d e&& !decide (e=d))=true→(eG c e&& !decide (e=c))=true:=by
     grind
    have hle2: ∀ (p q:Cl→Bool) (m:List Cl),(∀e∈m,p e=true→q e=true)→(m.filter p).length≤(m.filter q).length:=by
     intro p q m
     induction m<;>grind
    have hlt: ∀ (p q:Cl→Bool) (m:List Cl),(∀e∈m,p e=true→q e=true)→d∈m→p d=false→q d=true→(m.filter p).length<(m.filter q).length:=by
     intro p q m
     induction m with
     |nil=>simp
     |cons e m im=>
      intro hm hdm hp hq
      have hrest: ∀e∈m,p e=true→q e=true:=fun e he=>hm e (by simp [he])
      have hb:=hle2 p q m hrest
      rcases List.mem_cons.1 hdm with rfl|hdm<;>grind
    exact hlt _ _ l himp hd (by simp) (by grind)
   omega
theorem Wa {j:Int} {f:List Cl} (hf:RF f):(bn j f).length=0↔f.length=0:=by
 have h:=w8 (j:=j) hf.len
 have hm:=(tK h).1
 constructor
 ·intro h0
  apply Classical.byContradiction
  intro hne
  obtain ⟨c,hc⟩:=List.exists_mem_of_length_pos (l:=f.map (iN j)) (by grind)
  obtain ⟨d,hd,hn⟩:=acx _ (Nat.le_refl _) (sI j f) hc
  have:d∈bn j f:=by grind [mem_mins]
  grind
 ·intro h0
  have:=List.length_eq_zero_iff.1 h0
  subst this;rfl
theorem aaP (hk:Fu k) (ret:List Cl×Int→Option S) {i d:Int} (hi:0≤i∧i<24) (hd:0≤d∧d<4611686018427387000) {f:List Cl} (hf:aE f) (hlen:f.length<1073741824):
  ∀ (r p:List Cl) (m:Nat) (o:List Cl),f=p++r→r.length<m→aE o→o.length=p.length→pL k ret i d f m (p.length:Int) o=ret (bX (o++r.map (iN (i+d)))):=by
 intro r
 induction r with
 |nil=>
  intro p m o h hm hok ho
  obtain ⟨m,rfl,hm'⟩:=av hm
  grind [pL,vE,af,ap,lz]
 |cons x r ih=>
  intro p m o h hm hok ho
  obtain ⟨m,rfl,hm'⟩:=av hm
  obtain ⟨e1,e2,e3,e4⟩:=aV h (by omega)
  have hx:bS x:=hf x (by grind)
  have hpl:p.length<f.length:=by grind
  simp only [pL,vE,e1,al,e2,Option.bind_some,ap hk,bJ (n:=i+d) (by omega) (by omega),Nz hk hx.1,Nz hk hx.2,e3]
  rw [bL (by grind)]
  have:=ih (p++[x]) m (o++[iN (i+d) x]) e4 hm' (j7 hok fun c hc=>by simp at hc;subst hc;exact (G_ _ _).ok) (by grind)
  refine Eq.trans this ?_
  simp
theorem NM (hk:Fu k) {i d:Int} (hi:0≤i∧i<24) (hd:0≤d∧d<4611686018427387000) {f:List Cl} (hf:RF f) (ret:List Cl×Int→Option S):oY k f d i ret=ret (bn (i+d) f,0):=by
 have l1:=hf.len
 have:=aaP hk ret hi hd hf.2 (by omega) f [] k [] rfl (by omega) (fun c hc=>by cases hc) rfl
 grind [oY,Fg,w8]
end Go.Proofs.YtgajalidbabccaaGreatDoor
namespace Go.Proofs.YtgajalidbabccaaGreatDoor
open Go PI
set_option linter.unusedVariables false
set_option linter.unusedSimpArgs false
set_option maxRecDepth 20000
variable {S:Type} {k:Nat}
theorem Qv (fo fa:d6) (d:Int) (t:Tm):bj fo fa d t=bE (if t.kind=14 then fa d t.r else fo d t.r) fun r'=>bE (bU fo fa d t.kind 0 t.kids) fun ks'=>bE (bm fo fa d t.kind t.sys) fun sys'=> .ok (.mk t.kind t.n t.name r' ks' sys'):=by cases t;rfl
theorem Gw (fo fa:d6) (d kd:Int) (b:Br Tm):fH fo fa d kd b=bE (fa d b.face) fun f'=>if f'.length=0 then .ok [] else bE (bZ fo fa d kd b.kids) fun ks'=> .ok [.mk f' ks']:=by cases b;rfl
section
variable {fo fa:d6} (hfo: ∀d f e,fo d f= .error e→0<e∧e≤1000) (hfa: ∀d f e,fa d f= .error e→0<e∧e≤1000)
include hfo hfa
theorem mW (t:Tm): ∀ {d e},bj fo fa d t= .error e→0<e∧e≤1000:=by
 induction t using dr with
 |h kd n nm r ks sys ih1 ih2=>
  intro d e h
  rw [bj] at h
  rcases aW h with h|⟨_,_,h⟩
  ·grind
  have hkids: ∀ {l:List Tm} {i:Nat},(∀x∈l,∀ {d e},bj fo fa d x= .error e→0<e∧e≤1000)→bU fo fa d kd i l= .error e→0<e∧e≤1000:=by
   intro l
   induction l with
   |nil=>grind [bU]
   |cons t l ih=>
    intro i hl h
    rw [bU] at h
    rcases aW h with h|⟨_,_,h⟩
    ·exact hl t (by simp) h
    grind [aW]
  have hmore: ∀ {l:List Tm},(∀x∈l,∀ {d e},bj fo fa d x= .error e→0<e∧e≤1000)→ ∀ {e},bZ fo fa d kd l= .error e→0<e∧e≤1000:=by
   intro l
   induction l with
   |nil=>grind [bZ]
   |cons t l ih=>
    intro hl e h
    rw [bZ] at h
    rcases aW h with h|⟨_,_,h⟩
    ·grind
    ·rcases aW h with h|⟨_,_,h⟩
     ·exact ih (fun x hx=>hl x (by simp [hx])) h
     simp_all
  have hsys: ∀ {l:List (Br Tm)},(∀b∈l,∀x∈b.kids,∀ {d e},bj fo fa d x= .error e→0<e∧e≤1000)→bm fo fa d kd l= .error e→0<e∧e≤1000:=by
   intro l
   induction l<;>grind [bm,aW,Gw]
  grind [aW]
theorem Qs {kd d:Int}: ∀ {l:List Tm} {i:Nat} {e:Int},bU fo fa d kd i l= .error e→0<e∧e≤1000:=by
 intro l
 induction l with
 |nil=>grind [bU]
 |cons t l ih=>
  intro i e h
  rw [bU] at h
  rcases aW h with h|⟨_,_,h⟩
  ·exact mW hfo hfa t h
  grind [aW]
theorem Qt {kd d:Int}: ∀ {l:List Tm} {e:Int},bZ fo fa d kd l= .error e→0<e∧e≤1000:=by
 intro l
 induction l<;>grind [bZ,aW,mW]
end
theorem vd {α β:Type} (x:Except Int Tm) (hx: ∀e,x= .error e→0<e∧e≤1000) (f:Tm→α) (g:Int→α):(fun r:Tm×Int=>ab (!(r.2==0)) (g r.2) (f r.1)) (tE x)=eE x f g:=by
 cases x with
 |ok t=>rfl
 |error e=>
  have:=(hx e rfl).1
  show ab (!(e==0)) (g e) (f ar)=g e
  grind [decide_eq_false,al]
theorem zq {α β γ:Type} (x:Except Int α) (hx: ∀e,x= .error e→0<e∧e≤1000) (z:α) (f:α→β) (g:Int→β):eE x (fun l=>(fun r:α×Int=>ab (!(r.2==0)) (g r.2) (f r.1)) (l,0)) (fun e=>(fun r:α×Int=>ab (!(r.2==0)) (g r.2) (f r.1)) (z,e))=eE x f g:=by
 cases x with
 |ok t=>rfl
 |error e=>
  have:=(hx e rfl).1
  show ab (!(e==0)) (g e) (f z)=g e
  grind [decide_eq_false,al]
theorem mw {G:Int→List Cl→List Cl}: ∀d f e,aO G d f= .error e→0<e∧e≤1000:=fun d f e h=>by cases h
theorem kh {i:Int} {r:List Cl} {fa:Bool}: ∀d f e,a_ i r fa d f= .error e→0<e∧e≤1000:=fun d f e h=>Nc h
section
variable {hd:Tm→Int→Int→List Cl→(Tm×Int→Option S)→Option S} {i d:Int} {t:Tm} {r:List Cl}
theorem adR (hk:Fu k) (hi:0≤i∧i<24) (hr:RF r) (hd0:0≤d∧d<4611686018427386000) (hro:RowsT t) (ret:List Cl×Int→Option S): ∃z:List Cl×Int,d5 z=(if t.kind=14 then (a_ i r true) d t.r else (a_ i r false) d t.r)∧xm k t d i r ret=ret z:=by
 have hr0:=hro.no.1
 simp only [xm,OP,ap hk,NZ hk hr0 hr hi (show 0≤d∧d<4611686018427387000 by omega),afU hk hr0 hr hi (show 0≤d∧d<4611686018427387000 by omega)]
 by_cases h:t.kind=14
 ·rw [h,if_pos rfl,show ((14:Int)==14)=true from rfl,al]
  grind [Gp]
 ·rw [if_neg h,show (t.kind==14)=false from by grind,af]
  grind [Gp]
theorem adO (hk:Fu k) (ret:List Tm×Int→Option S) (hd0:0≤d∧d<4611686018427386000) (hQ: ∀y∈t.kids,∀b,0≤b∧b≤1→ ∀g,hd y (d+b) i r g=g (tE (bj (a_ i r false) (a_ i r true) (d+b) y))) (hl:t.kids.length<1073741824):
  ∀ (r' p:List Tm) (m:Nat) (acc:List Tm),t.kids=p++r'→r'.length<m→acc.length=p.length→
  mm hd k ret i r t t.kids d m acc (p.length:Int)=eE (bU (a_ i r false) (a_ i r true) d t.kind p.length r') (fun l=>ret (acc++l,0)) fun e=>ret ([],e):=by
 intro r'
 induction r' with
 |nil=>
  grind [av,mm,vI,af,bU,bM]
 |cons y r' ih=>
  intro p m acc h hm ha
  obtain ⟨m,rfl,hm'⟩:=av hm
  obtain ⟨e1,e2,e3,e4⟩:=aV h (by omega)
  have hpl:p.length<t.kids.length:=by grind
  have b2':=eo t.kind p.length
  have hy:=hQ y (by grind) (aR t.kind p.length) b2'
  simp only [mm,vI,e1,al,e2,Option.bind_some,ap hk,sQ,Fo,js,aJ,bJ (n:=d+aR t.kind p.length) (by omega) (by omega),hy]
  refine Eq.trans (vd (β:=Unit) _ (fun e he=>mW kh kh y he) (fun z=>Option.bind (aX 1099511627776 acc.length [z].length) fun _=>mm hd k ret i r t t.kids d m (acc++[z]) (IntKind.wrap .i64 ((p.length:Int)+1))) fun e=>ret ([],e)) ?_
  simp only [bU,bq,bM]
  refine cJ (fun t' ht'=> ?_) fun e _=>rfl
  rw [bL (by grind),e3,ih (p++[y]) m (acc++[t']) e4 hm' (by grind),show (p++[y]).length=p.length+1 by simp]
  simp
theorem adP (hk:Fu k) (ret:List Tm×Int→Option S) {x:Br Tm} {kd:Int} (hd0:0≤d∧d<4611686018427386000) (hQ: ∀y∈x.kids,∀g,hd y (d+aH kd) i r g=g (tE (bj (a_ i r false) (a_ i r true) (d+aH kd) y))) (hl:x.kids.length<1073741824):
  ∀ (r' p:List Tm) (m:Nat) (acc:List Tm),x.kids=p++r'→r'.length<m→acc.length=p.length→
  ml hd k ret i r (aH kd) x.kids d m acc (p.length:Int)=eE (bZ (a_ i r false) (a_ i r true) d kd r') (fun l=>ret (acc++l,0)) fun e=>ret ([],e):=by
 have hmo:=eA kd
 intro r'
 induction r' with
 |nil=>
  grind [av,ml,vH,af,bZ,bM]
 |cons y r' ih=>
  intro p m acc h hm ha
  obtain ⟨m,rfl,hm'⟩:=av hm
  obtain ⟨e1,e2,e3,e4⟩:=aV h (by omega)
  have hpl:p.length<x.kids.length:=by grind
  have hy:=hQ y (by grind)
  simp only [ml,vH,e1,al,e2,Option.bind_some,ap hk,sR,Fp,aJ,bJ (n:=d+aH kd) (by omega) (by omega),hy]
  refine Eq.trans (vd (β:=Unit) _ (fun e he=>mW kh kh y he) (fun z=>Option.bind (aX 1099511627776 acc.length [z].length) fun _=>ml hd k ret i r (aH kd) x.kids d m (acc++[z]) (IntKind.wrap .i64 ((p.length:Int)+1))) fun e=>ret ([],e)) ?_
  simp only [bZ,bq,bM]
  refine cJ (fun t' ht'=> ?_) fun e _=>rfl
  rw [bL (by grind),e3,ih (p++[y]) m (acc++[t']) e4 hm' (by grind)]
  simp
theorem adQ (hk:Fu k) (ret:Tm×Int→Option S) (hi:0≤i∧i<24) (hr:RF r) (hd0:0≤d∧d<4611686018427386000) {r1:List Cl×Int} {r2:List Tm×Int} (ht:OkT t) (hro:RowsT t) (hQ: ∀b∈t.sys,∀y∈b.kids,∀g,hd y (d+aH t.kind) i r g=g (tE (bj (a_ i r false) (a_ i r true) (d+aH t.kind) y))):
  ∀ (r' p:List (Br Tm)) (m:Nat) (o:List (Br Tm)),t.sys=p++r'→r'.length<m→o.length≤p.length→
  gO hd k ret i r t r1 r2 d m (aH t.kind) o (p.length:Int)=eE (bm (a_ i r false) (a_ i r true) d t.kind r') (fun s=>ret (.mk t.kind t.n t.name r1.1 r2.1 (o++s),0)) fun e=>ret (ar,e):=by
 obtain ⟨o1,o2,o3,o4,o5,o6,o7⟩:=ht.no
 intro r'
 induction r' with
 |nil=>
  grind [av,gO,vJ,af,bm,bM]
 |cons x r' ih=>
  intro p m o h hml ho
  obtain ⟨m,rfl,hm'⟩:=av hml
  obtain ⟨e1,e2,e3,e4⟩:=aV h (by omega)
  have hx:x∈t.sys:=by grind
  have hpl:p.length<t.sys.length:=by grind
  have hb:=(ht.bi hx).1
  have hr0:=(hro.bi hx).1
  have hM:=fun g:List Tm×Int→Option S=>adP (kd:=t.kind) hk g hd0 (hQ x hx) hb.2.2 x.kids [] k [] rfl (by omega) rfl
  have hM: ∀g:List Tm×Int→Option S,ml hd k g i r (aH t.kind) x.kids d k [] 0=_:=hM
  simp only [gO,vJ,e1,al,e2,Option.bind_some,ap hk,NZ hk hr0 hr hi (show 0≤d∧d<4611686018427387000 by omega),BT,Fk,hM,e3,List.nil_append]
  have hin:=fun f':List Cl=>zq (β:=Option S) (γ:=Unit) (bZ (a_ i r false) (a_ i r true) d t.kind x.kids) (fun e he=>Qt kh kh he) [] (fun l=>Option.bind (aX 1099511627776 o.length [Br.mk f' l].length) fun _=>gO hd k ret i r t r1 r2 d m (aH t.kind) (o++[Br.mk f' l]) (((p++[x]).length:Nat):Int)) fun e=>ret (ar,e)
  refine Eq.trans (Aq (z:=(mI i r true d x.face)) (fun f'=>ab (((f'.length:Nat):Int)==0) (gO hd k ret i r t r1 r2 d m (aH t.kind) o (((p++[x]).length:Nat):Int)) (eE (bZ (a_ i r false) (a_ i r true) d t.kind x.kids) (fun l=>(fun r5:List Tm×Int=>ab (!(r5.2==0)) (ret (ar,r5.2)) (Option.bind (aX 1099511627776 o.length [Br.mk f' r5.1].length) fun _=>gO hd k ret i r t r1 r2 d m (aH t.kind) (o++[Br.mk f' r5.1]) (((p++[x]).length:Nat):Int))) (l,0)) fun e=>(fun r5:List Tm×Int=>ab (!(r5.2==0)) (ret (ar,r5.2)) (Option.bind (aX 1099511627776 o.length [Br.mk f' r5.1].length) fun _=>gO hd k ret i r t r1 r2 d m (aH t.kind) (o++[Br.mk f' r5.1]) (((p++[x]).length:Nat):Int))) ([],e))) fun e=>ret (ar,e)) ?_
  rw [show d5 (mI i r true d x.face)=(a_ i r true) d x.face from Gp _ _ _ _ _]
  rw [bm,Gw,bq,bq]
  refine cJ (fun f' hf'=> ?_) fun e _=>rfl
  rw [yZ,cM]
  by_cases h0:f'.length=0
  ·rw [if_pos h0,if_pos h0,bM,bq,ih (p++[x]) m o e4 hm' (by grind)]
   rfl
  ·rw [if_neg h0,if_neg h0,hin f',bq]
   refine cJ (fun l hl=> ?_) fun e _=>rfl
   rw [bM,bq,bL (by grind),ih (p++[x]) m (o++[Br.mk f' l]) e4 hm' (by grind)]
   grind [bM]
end
theorem adS {i:Int} {r:List Cl} (hi:0≤i∧i<24) (hr:RF r) (t:Tm):OkT t→RowsT t→ ∀ {k:Nat} {d:Int} (ret:Tm×Int→Option S),Fd k (ai t)→0≤d→d+ai t<4611686018427386000→er k t d i r ret=ret (tE (bj (a_ i r false) (a_ i r true) d t)):=by
 induction t using eS with
 |h t ih1 ih2=>
  intro ht hro k d ret hk hv hv'
  obtain ⟨q,rfl,hq,hf⟩:=hk.pos' (dW t)
  have hp:=dW t
  have hd0:0≤d∧d<4611686018427386000:=by omega
  obtain ⟨o1,o2,o3,o4,o5,o6,o7⟩:=ht.no
  have hmo:=eA t.kind
  have hQ: ∀y∈t.kids,∀b,0≤b∧b≤1→ ∀g:Tm×Int→Option S,er q y (d+b) i r g=g (tE (bj (a_ i r false) (a_ i r true) (d+b) y)):=fun y hy b h2 g=>
   ih1 y hy (ht.ki hy) (hro.ki hy) g (hf _ (dv hy)) (by omega) (by have:=dv hy;omega)
  have hQ': ∀b∈t.sys,∀y∈b.kids,∀g:Tm×Int→Option S,er q y (d+aH t.kind) i r g=g (tE (bj (a_ i r false) (a_ i r true) (d+aH t.kind) y)):=fun b hb y hy g=>
   ih2 b hb y hy ((ht.bi hb).2 y hy) ((hro.bi hb).2 y hy) g (hf _ (dJ hb hy)) (by omega) (by have:=dJ hb hy;omega)
  have hK: ∀g:List Tm×Int→Option S,mm (er q) q g i r t t.kids d q [] 0=_:=fun g=>adO hq g hd0 hQ o6 t.kids [] q [] rfl (by omega) rfl
  have hS:=fun (r1:List Cl×Int) (r2:List Tm×Int)=>adQ (r1:=r1) (r2:=r2) hq ret hi hr hd0 ht hro hQ' t.sys [] q [] rfl (by omega) (Nat.le_refl _)
  have hS: ∀ (r1:List Cl×Int) (r2:List Tm×Int),gO (er q) q ret i r t r1 r2 d q (aH t.kind) [] 0=_:=hS
  have hcase: ∀ (r1:List Cl×Int) (r2:List Tm×Int),ab (t.kind==15) (gO (er q) q ret i r t r1 r2 d q 1 [] 0) (gO (er q) q ret i r t r1 r2 d q 0 [] 0)=eE (bm (a_ i r false) (a_ i r true) d t.kind t.sys) (fun s=>ret (.mk t.kind t.n t.name r1.1 r2.1 s,0)) fun e=>ret (ar,e):=by
   grind [gr,aH]
  obtain ⟨z,hz,hrow⟩:=adR hq hi hr hd0 hro (fun r1=>ab (!(r1.2==0)) (ret (ar,r1.2)) (eE (bU (a_ i r false) (a_ i r true) d t.kind 0 t.kids) (fun l=>(fun r2:List Tm×Int=>ab (!(r2.2==0)) (ret (ar,r2.2)) (eE (bm (a_ i r false) (a_ i r true) d t.kind t.sys) (fun s=>ret (.mk t.kind t.n t.name r1.1 r2.1 s,0)) fun e=>ret (ar,e))) (l,0)) fun e=>(fun r2:List Tm×Int=>ab (!(r2.2==0)) (ret (ar,r2.2)) (eE (bm (a_ i r false) (a_ i r true) d t.kind t.sys) (fun s=>ret (.mk t.kind t.n t.name r1.1 r2.1 s,0)) fun e=>ret (ar,e))) ([],e)))
  simp only [er,Fq,ap hq,aJ,BU,Fl,hK,hcase,List.nil_append,List.length_nil]
  refine Eq.trans hrow ?_
  rw [gW _ ret,Qv,←hz]
  refine Eq.trans (Aq (z:=z) (fun r'=>eE (bU (a_ i r false) (a_ i r true) d t.kind 0 t.kids) (fun l=>(fun r2:List Tm×Int=>ab (!(r2.2==0)) (ret (ar,r2.2)) (eE (bm (a_ i r false) (a_ i r true) d t.kind t.sys) (fun s=>ret (.mk t.kind t.n t.name r' r2.1 s,0)) fun e=>ret (ar,e))) (l,0)) fun e=>(fun r2:List Tm×Int=>ab (!(r2.2==0)) (ret (ar,r2.2)) (eE (bm (a_ i r false) (a_ i r true) d t.kind t.sys) (fun s=>ret (.mk t.kind t.n t.name r' r2.1 s,0)) fun e=>ret (ar,e))) ([],e)) fun e=>ret (ar,e)) ?_
  rw [bq]
  refine cJ (fun r' _=> ?_) fun e _=>rfl
  refine Eq.trans (zq (β:=Option S) (γ:=Unit) (bU (a_ i r false) (a_ i r true) d t.kind 0 t.kids) (fun e he=>Qs kh kh he) [] (fun l=>eE (bm (a_ i r false) (a_ i r true) d t.kind t.sys) (fun s=>ret (.mk t.kind t.n t.name r' l s,0)) fun e=>ret (ar,e)) fun e=>ret (ar,e)) ?_
  simp only [bq,bM]
section
variable {hd:Tm→Int→Int→(Tm×Int→Option S)→Option S} {i d:Int} {t:Tm}
theorem Wn (hk:Fu k) (hi:0≤i∧i<24) (hd0:0≤d∧d<4611686018427386000) (hro:RowsT t) (ret:List Cl×Int→Option S): ∃z:List Cl×Int,d5 z=(if t.kind=14 then (aO fun d f=>bn (i+d) f) d t.r else (aO fun d f=>bn (i+d) f) d t.r)∧xo k t d i ret=ret z:=by
 have hr0:=hro.no.1
 simp only [xo,OQ,ap hk,NM hk hi (show 0≤d∧d<4611686018427387000 by omega) hr0]
 by_cases h:t.kind=14
 ·rw [h,if_pos rfl,show ((14:Int)==14)=true from rfl,al]
  exact ⟨_,rfl,rfl⟩
 ·rw [if_neg h,show (t.kind==14)=false from by grind,af]
  exact ⟨_,rfl,rfl⟩
theorem Wj (hk:Fu k) (ret:List Tm×Int→Option S) (hd0:0≤d∧d<4611686018427386000) (hQ: ∀y∈t.kids,∀b,0≤b∧b≤1→ ∀g,hd y (d+b) i g=g (tE (bj (aO fun d f=>bn (i+d) f) (aO fun d f=>bn (i+d) f) (d+b) y))) (hl:t.kids.length<1073741824):
  ∀ (r' p:List Tm) (m:Nat) (acc:List Tm),t.kids=p++r'→r'.length<m→acc.length=p.length→
  mj hd k ret i t t.kids d m acc (p.length:Int)=eE (bU (aO fun d f=>bn (i+d) f) (aO fun d f=>bn (i+d) f) d t.kind p.length r') (fun l=>ret (acc++l,0)) fun e=>ret ([],e):=by
 intro r'
 induction r' with
 |nil=>
  grind [av,mj,vG,af,bU,bM]
 |cons y r' ih=>
  intro p m acc h hm ha
  obtain ⟨m,rfl,hm'⟩:=av hm
  obtain ⟨e1,e2,e3,e4⟩:=aV h (by omega)
  have hpl:p.length<t.kids.length:=by grind
  have b2':=eo t.kind p.length
  have hy:=hQ y (by grind) (aR t.kind p.length) b2'
  simp only [mj,vG,e1,al,e2,Option.bind_some,ap hk,sQ,Fo,js,aJ,bJ (n:=d+aR t.kind p.length) (by omega) (by omega),hy]
  refine Eq.trans (vd (β:=Unit) _ (fun e he=>mW mw mw y he) (fun z=>Option.bind (aX 1099511627776 acc.length [z].length) fun _=>mj hd k ret i t t.kids d m (acc++[z]) (IntKind.wrap .i64 ((p.length:Int)+1))) fun e=>ret ([],e)) ?_
  simp only [bU,bq,bM]
  refine cJ (fun t' ht'=> ?_) fun e _=>rfl
  rw [bL (by grind),e3,ih (p++[y]) m (acc++[t']) e4 hm' (by grind),show (p++[y]).length=p.length+1 by simp]
  simp
theorem Wl (hk:Fu k) (ret:List Tm×Int→Option S) {x:Br Tm} {kd:Int} (hd0:0≤d∧d<4611686018427386000) (hQ: ∀y∈x.kids,∀g,hd y (d+aH kd) i g=g (tE (bj (aO fun d f=>bn (i+d) f) (aO fun d f=>bn (i+d) f) (d+aH kd) y))) (hl:x.kids.length<1073741824):
  ∀ (r' p:List Tm) (m:Nat) (acc:List Tm),x.kids=p++r'→r'.length<m→acc.length=p.length→
  mi hd k ret i (aH kd) x.kids d m acc (p.length:Int)=eE (bZ (aO fun d f=>bn (i+d) f) (aO fun d f=>bn (i+d) f) d kd r') (fun l=>ret (acc++l,0)) fun e=>ret ([],e):=by
 have hmo:=eA kd
 intro r'
 induction r' with
 |nil=>
  grind [av,mi,vF,af,bZ,bM]
 |cons y r' ih=>
  intro p m acc h hm ha
  obtain ⟨m,rfl,hm'⟩:=av hm
  obtain ⟨e1,e2,e3,e4⟩:=aV h (by omega)
  have hpl:p.length<x.kids.length:=by grind
  have hy:=hQ y (by grind)
  simp only [mi,vF,e1,al,e2,Option.bind_some,ap hk,sR,Fp,aJ,bJ (n:=d+aH kd) (by omega) (by omega),hy]
  refine Eq.trans (vd (β:=Unit) _ (fun e he=>mW mw mw y he) (fun z=>Option.bind (aX 1099511627776 acc.length [z].length) fun _=>mi hd k ret i (aH kd) x.kids d m (acc++[z]) (IntKind.wrap .i64 ((p.length:Int)+1))) fun e=>ret ([],e)) ?_
  simp only [bZ,bq,bM]
  refine cJ (fun t' ht'=> ?_) fun e _=>rfl
  rw [bL (by grind),e3,ih (p++[y]) m (acc++[t']) e4 hm' (by grind)]
  simp
theorem Wm (hk:Fu k) (ret:Tm×Int→Option S) (hi:0≤i∧i<24) (hd0:0≤d∧d<4611686018427386000) {r1:List Cl×Int} {r2:List Tm×Int} (ht:OkT t) (hro:RowsT t) (hQ: ∀b∈t.sys,∀y∈b.kids,∀g,hd y (d+aH t.kind) i g=g (tE (bj (aO fun d f=>bn (i+d) f) (aO fun d f=>bn (i+d) f) (d+aH t.kind) y))):
  ∀ (r' p:List (Br Tm)) (m:Nat) (o:List (Br Tm)),t.sys=p++r'→r'.length<m→o.length≤p.length→
  gP hd k ret i t r1 r2 d m (aH t.kind) o (p.length:Int)=eE (bm (aO fun d f=>bn (i+d) f) (aO fun d f=>bn (i+d) f) d t.kind r') (fun s=>ret (.mk t.kind t.n t.name r1.1 r2.1 (o++s),0)) fun e=>ret (ar,e):=by
 obtain ⟨o1,o2,o3,o4,o5,o6,o7⟩:=ht.no
 intro r'
 induction r' with
 |nil=>
  grind [av,gP,vK,af,bm,bM]
 |cons x r' ih=>
  intro p m o h hml ho
  obtain ⟨m,rfl,hm'⟩:=av hml
  obtain ⟨e1,e2,e3,e4⟩:=aV h (by omega)
  have hx:x∈t.sys:=by grind
  have hpl:p.length<t.sys.length:=by grind
  have hb:=(ht.bi hx).1
  have hr0:=(hro.bi hx).1
  have hM:=fun g:List Tm×Int→Option S=>Wl (kd:=t.kind) hk g hd0 (hQ x hx) hb.2.2 x.kids [] k [] rfl (by omega) rfl
  have hM: ∀g:List Tm×Int→Option S,mi hd k g i (aH t.kind) x.kids d k [] 0=_:=hM
  simp only [gP,vK,e1,al,e2,Option.bind_some,ap hk,NM hk hi (show 0≤d∧d<4611686018427387000 by omega) hr0,BR,Fi,hM,e3,List.nil_append]
  have hin:=fun f':List Cl=>zq (β:=Option S) (γ:=Unit) (bZ (aO fun d f=>bn (i+d) f) (aO fun d f=>bn (i+d) f) d t.kind x.kids) (fun e he=>Qt mw mw he) [] (fun l=>Option.bind (aX 1099511627776 o.length [Br.mk f' l].length) fun _=>gP hd k ret i t r1 r2 d m (aH t.kind) (o++[Br.mk f' l]) (((p++[x]).length:Nat):Int)) fun e=>ret (ar,e)
  refine Eq.trans (Aq (z:=(bn (i+d) x.face,(0:Int))) (fun f'=>ab (((f'.length:Nat):Int)==0) (gP hd k ret i t r1 r2 d m (aH t.kind) o (((p++[x]).length:Nat):Int)) (eE (bZ (aO fun d f=>bn (i+d) f) (aO fun d f=>bn (i+d) f) d t.kind x.kids) (fun l=>(fun r5:List Tm×Int=>ab (!(r5.2==0)) (ret (ar,r5.2)) (Option.bind (aX 1099511627776 o.length [Br.mk f' r5.1].length) fun _=>gP hd k ret i t r1 r2 d m (aH t.kind) (o++[Br.mk f' r5.1]) (((p++[x]).length:Nat):Int))) (l,0)) fun e=>(fun r5:List Tm×Int=>ab (!(r5.2==0)) (ret (ar,r5.2)) (Option.bind (aX 1099511627776 o.length [Br.mk f' r5.1].length) fun _=>gP hd k ret i t r1 r2 d m (aH t.kind) (o++[Br.mk f' r5.1]) (((p++[x]).length:Nat):Int))) ([],e))) fun e=>ret (ar,e)) ?_
  rw [show d5 (bn (i+d) x.face,(0:Int))=(aO fun d f=>bn (i+d) f) d x.face from rfl]
  rw [bm,Gw,bq,bq]
  refine cJ (fun f' hf'=> ?_) fun e _=>rfl
  rw [yZ,cM]
  by_cases h0:f'.length=0
  ·rw [if_pos h0,if_pos h0,bM,bq,ih (p++[x]) m o e4 hm' (by grind)]
   rfl
  ·rw [if_neg h0,if_neg h0,hin f',bq]
   refine cJ (fun l hl=> ?_) fun e _=>rfl
   rw [bM,bq,bL (by grind),ih (p++[x]) m (o++[Br.mk f' l]) e4 hm' (by grind)]
   grind [bM]
end
theorem Wo {i:Int} (hi:0≤i∧i<24) (t:Tm):OkT t→RowsT t→ ∀ {k:Nat} {d:Int} (ret:Tm×Int→Option S),Fd k (ai t)→0≤d→d+ai t<4611686018427386000→ee k t d i ret=ret (tE (bj (aO fun d f=>bn (i+d) f) (aO fun d f=>bn (i+d) f) d t)):=by
 induction t using eS with
 |h t ih1 ih2=>
  intro ht hro k d ret hk hv hv'
  obtain ⟨q,rfl,hq,hf⟩:=hk.pos' (dW t)
  have hp:=dW t
  have hd0:0≤d∧d<4611686018427386000:=by omega
  obtain ⟨o1,o2,o3,o4,o5,o6,o7⟩:=ht.no
  have hmo:=eA t.kind
  have hQ: ∀y∈t.kids,∀b,0≤b∧b≤1→ ∀g:Tm×Int→Option S,ee q y (d+b) i g=g (tE (bj (aO fun d f=>bn (i+d) f) (aO fun d f=>bn (i+d) f) (d+b) y)):=fun y hy b h2 g=>
   ih1 y hy (ht.ki hy) (hro.ki hy) g (hf _ (dv hy)) (by omega) (by have:=dv hy;omega)
  have hQ': ∀b∈t.sys,∀y∈b.kids,∀g:Tm×Int→Option S,ee q y (d+aH t.kind) i g=g (tE (bj (aO fun d f=>bn (i+d) f) (aO fun d f=>bn (i+d) f) (d+aH t.kind) y)):=fun b hb y hy g=>
   ih2 b hb y hy ((ht.bi hb).2 y hy) ((hro.bi hb).2 y hy) g (hf _ (dJ hb hy)) (by omega) (by have:=dJ hb hy;omega)
  have hK: ∀g:List Tm×Int→Option S,mj (ee q) q g i t t.kids d q [] 0=_:=fun g=>Wj hq g hd0 hQ o6 t.kids [] q [] rfl (by omega) rfl
  have hS:=fun (r1:List Cl×Int) (r2:List Tm×Int)=>Wm (r1:=r1) (r2:=r2) hq ret hi hd0 ht hro hQ' t.sys [] q [] rfl (by omega) (Nat.le_refl _)
  have hS: ∀ (r1:List Cl×Int) (r2:List Tm×Int),gP (ee q) q ret i t r1 r2 d q (aH t.kind) [] 0=_:=hS
  have hcase: ∀ (r1:List Cl×Int) (r2:List Tm×Int),ab (t.kind==15) (gP (ee q) q ret i t r1 r2 d q 1 [] 0) (gP (ee q) q ret i t r1 r2 d q 0 [] 0)=eE (bm (aO fun d f=>bn (i+d) f) (aO fun d f=>bn (i+d) f) d t.kind t.sys) (fun s=>ret (.mk t.kind t.n t.name r1.1 r2.1 s,0)) fun e=>ret (ar,e):=by
   grind [gr,aH]
  obtain ⟨z,hz,hrow⟩:=Wn hq hi hd0 hro (fun r1=>ab (!(r1.2==0)) (ret (ar,r1.2)) (eE (bU (aO fun d f=>bn (i+d) f) (aO fun d f=>bn (i+d) f) d t.kind 0 t.kids) (fun l=>(fun r2:List Tm×Int=>ab (!(r2.2==0)) (ret (ar,r2.2)) (eE (bm (aO fun d f=>bn (i+d) f) (aO fun d f=>bn (i+d) f) d t.kind t.sys) (fun s=>ret (.mk t.kind t.n t.name r1.1 r2.1 s,0)) fun e=>ret (ar,e))) (l,0)) fun e=>(fun r2:List Tm×Int=>ab (!(r2.2==0)) (ret (ar,r2.2)) (eE (bm (aO fun d f=>bn (i+d) f) (aO fun d f=>bn (i+d) f) d t.kind t.sys) (fun s=>ret (.mk t.kind t.n t.name r1.1 r2.1 s,0)) fun e=>ret (ar,e))) ([],e)))
  simp only [ee,Fr,ap hq,aJ,BS,Fj,hK,hcase,List.nil_append,List.length_nil]
  refine Eq.trans hrow ?_
  rw [gW _ ret,Qv,←hz]
  refine Eq.trans (Aq (z:=z) (fun r'=>eE (bU (aO fun d f=>bn (i+d) f) (aO fun d f=>bn (i+d) f) d t.kind 0 t.kids) (fun l=>(fun r2:List Tm×Int=>ab (!(r2.2==0)) (ret (ar,r2.2)) (eE (bm (aO fun d f=>bn (i+d) f) (aO fun d f=>bn (i+d) f) d t.kind t.sys) (fun s=>ret (.mk t.kind t.n t.name r' r2.1 s,0)) fun e=>ret (ar,e))) (l,0)) fun e=>(fun r2:List Tm×Int=>ab (!(r2.2==0)) (ret (ar,r2.2)) (eE (bm (aO fun d f=>bn (i+d) f) (aO fun d f=>bn (i+d) f) d t.kind t.sys) (fun s=>ret (.mk t.kind t.n t.name r' r2.1 s,0)) fun e=>ret (ar,e))) ([],e)) fun e=>ret (ar,e)) ?_
  rw [bq]
  refine cJ (fun r' _=> ?_) fun e _=>rfl
  refine Eq.trans (zq (β:=Option S) (γ:=Unit) (bU (aO fun d f=>bn (i+d) f) (aO fun d f=>bn (i+d) f) d t.kind 0 t.kids) (fun e he=>Qs mw mw he) [] (fun l=>eE (bm (aO fun d f=>bn (i+d) f) (aO fun d f=>bn (i+d) f) d t.kind t.sys) (fun s=>ret (.mk t.kind t.n t.name r' l s,0)) fun e=>ret (ar,e)) fun e=>ret (ar,e)) ?_
  simp only [bq,bM]
end Go.Proofs.YtgajalidbabccaaGreatDoor
namespace Go.Proofs.YtgajalidbabccaaGreatDoor
open Go PI
set_option linter.unusedVariables false
set_option linter.unusedSimpArgs false
set_option maxRecDepth 20000
variable {S:Type} {k:Nat}
def wY (i:Int):Int→List Cl→List Cl:=fun d f=>bn (i+d) f
def dK (i:Int) (r:List Cl) (fa:Bool):d6:=dl (a_ i r fa) (wY i)
theorem tz (i:Int) (r:List Cl) (fa:Bool) (d:Int) (f:List Cl):dK i r fa d f=bE (a_ i r fa d f) fun m=> .ok (bn (i+d) m):=rfl
theorem H3 {i:Int} {r:List Cl} {fa:Bool}: ∀d f e,dK i r fa d f= .error e→0<e∧e≤1000:=fun d f e h=>by
 rw [tz] at h
 rcases aW h with h|⟨_,_,h⟩
 ·exact Nc h
 simp_all
section
variable {hd:Tm→Int→List Cl→Int→Bool→(Tm→Option S)→Option S} {i d:Int} {r:List Cl} {t:Tm}
end
def di (i:Int) (r:List Cl) (t:Tm):Except Int Tm:=bE (d5 (bA r i 1)) fun s=>bj (dK i s false) (dK i s true) 0 t
theorem ve {i:Int} {r:List Cl} {t:Tm} {e:Int} (h:di i r t= .error e):0<e∧e≤1000:=by
 rcases aW h with h|⟨s,_,h⟩
 ·grind [Ap,tL,EN]
 ·exact mW H3 H3 t h
theorem EE (hk:F3 k) {t:Tm} (ht:Fm t) {i:Int} (hi:0≤i∧i<24) {r:List Cl} (hr:RF r) (ret:Tm×Int→Option S):kM k t i r ret=ret (tE (di i r t)):=by
 have l2:=hr.len
 have hdp:=ht.dep
 simp only [kM,Ff,ap hk.fu,aJ,xp,Fs,fX ht.ok (ht.fd hk) (show ai t<1099511627776 by omega),ht.2,afh hk.fu,ri hk.fu hr.2 hr.lt,hr.right,decide_eq_true hi,rf hk.fu hr.2 (show r.length<1073741824 by omega) (show aK i by unfold aK;omega) (show aK 1 by unfold aK;omega),BO,OK,BP,ON,BQ,OO,BN,OJ]
 rw [show ((0:Int)==0)=true from rfl,Bool.not_true,af,af,af,af]
 rw [gW _ ret]
 unfold di
 rw [bq]
 by_cases h0:(bA r i 1).2=0
 ·have hs:=i_ h0
  rw [c_,decide_eq_true h0,Bool.not_true,af,rq h0,bM,adS hi hs t ht.ok ht.rows _ (ht.fd hk) (by omega) (by omega)]
  refine Eq.trans (vd (α:=Option S) (β:=Unit) _ (fun e he=>mW kh kh t he) (fun x=>ee k x 0 i fun r6=>ret (r6.1,r6.2)) fun e=>ret (ar,e)) ?_
  have htw:=ahA (fo:=a_ i (bA r i 1).1 false) (fa:=a_ i (bA r i 1).1 true) (G:=wY i) (fun d f g hf h=>uO hf h) (fun d f hf=>Wa hf) t 0 ht.rows
  show _=eE (bj (dl (a_ i (bA r i 1).1 false) (wY i)) (dl (a_ i (bA r i 1).1 true) (wY i)) 0 t) _ _
  rw [←htw,bq]
  refine cJ (fun x hx=> ?_) fun e _=>rfl
  have hw:=Qw (fun d f g hf h=>uO hf h) (fun d f g hf h=>uO hf h) (fun d=>Nd) t 0 x hx
  obtain ⟨w1,w2,w3,w4⟩:=hw
  obtain ⟨hox,hrx⟩:=w4 ht.ok ht.rows
  rw [Wo hi x hox hrx _ (hk.fd (by omega)) (by omega) (by omega)]
  exact gW _ ret
 ·rw [c_,decide_eq_false h0,Bool.not_false,al,vg h0];rfl
end Go.Proofs.YtgajalidbabccaaGreatDoor
namespace Go.Proofs.YtgajalidbabccaaGreatDoor
open Go PI
set_option linter.unusedVariables false
set_option linter.unusedSimpArgs false
set_option maxRecDepth 20000
variable {S:Type} {k:Nat}
def In (k:Nat) (t:Tm):Prop:=OkT t∧Fd k (ai t)∧ao t<1099511627776
theorem In.dep {t:Tm} (h:In k t):ai t<1099511627776:=by have:=tl t;have:=h.2.2;omega
theorem Fm.isIn {t:Tm} (h:Fm t) (hk:F3 k):In k t:=⟨h.ok,h.fd hk,by have:=h.siz;omega⟩
def cA:List Tm→Int
 |[]=>0
 |t::l=>if bQ t=0 then cA l else bQ t
theorem u9 {l:List Tm} (hl: ∀t∈l,OkT t) (h:cA l=0): ∀t∈l,Fm t:=by
 induction l with
 |nil=>simp
 |cons x l ih=>
  intro t ht
  unfold cA at h
  split at h
  ·next h0=>
   rcases List.mem_cons.1 ht with rfl|ht
   ·exact ⟨hl _ (by simp),h0⟩
   grind
  omega
theorem agx (l:List Tm):0≤cA l∧cA l≤1000:=by
 induction l with
 |nil=>grind [cA]
 |cons x l ih=>
  unfold cA
  split<;>simp_all [Cz]
theorem rj (c e:Int) (ret:Int→Option S):jJ k e c ret=ret (if c=0 then e else c):=by
 grind [jJ,Ov,cM]
theorem aax (hk:Fu k) (ret:Int→Option S) {l:List Tm} (hl: ∀t∈l,In k t) (hlen:l.length<1000):
  ∀ (r p:List Tm) (m:Nat) (b:Int),l=p++r→r.length<m→pJ k ret l m b (p.length:Int)=ret (if b=0 then cA r else b):=by
 intro r
 induction r with
 |nil=>
  grind [av,pJ,vC,af,cA]
 |cons x r ih=>
  intro p m b h hm
  obtain ⟨m,rfl,hm'⟩:=av hm
  obtain ⟨e1,e2,e3,e4⟩:=aV h (by omega)
  have hx:=hl x (by grind)
  simp only [pJ,vC,e1,al,e2,Option.bind_some,ap hk,aJ,fX hx.1 hx.2.1 hx.dep,rj,e3,ih (p++[x]) m _ e4 hm',cA]
  grind
theorem EF (hk:F3 k) {l:List Tm} (hl: ∀t∈l,In k t) (hlen:l.length<1000) (ret:Int→Option S):lP k l ret=ret (cA l):=by
 simp only [lP,E_]
 have:=aax hk.fu ret hl hlen l [] k 0 rfl (by omega)
 simp_all
def g6 (r:List Cl) (line:Tm):Except Int Tm:=bE (bh 0 2 0 1 line) (di 0 r)
theorem vA {r:List Cl} {t:Tm} {e:Int} (h:g6 r t= .error e):0<e∧e≤1000:=by
 rcases aW h with h|⟨s,_,h⟩
 ·exact n8 t h
 ·exact ve h
theorem YM {i:Int} {r:List Cl} {fa:Bool} {d:Int} {f g:List Cl} (hf:RF f) (h:dK i r fa d f= .ok g):RF g:=by
 rw [tz] at h
 obtain ⟨m,h1,h⟩:=ae h
 injection h with h;subst h
 exact BJ (uO hf h1).len
theorem H4 {i:Int} {r:List Cl} {fa:Bool} (d:Int):dK i r fa d []= .ok []:=by
 rw [tz,Nd,aN];rfl
theorem P9 {i:Int} {r:List Cl} {t y:Tm} (h:di i r t= .ok y):Wk t y:=by
 obtain ⟨s,_,h⟩:=ae h
 grind [Qw,YM,H4]
theorem GP {r:List Cl} {t y:Tm} (ht:Fm t) (h:g6 r t= .ok y):OkT y∧RowsT y∧ai y≤200∧ao y≤20000:=by
 obtain ⟨s,h1,h⟩:=ae h
 have hs:=ja (by omega) ht h1
 obtain ⟨w1,w2,w3,w4⟩:=P9 h
 have h4:=w4 hs.ok hs.rows
 have:=hs.dep;have:=hs.siz
 grind
section
variable {c:Int}
theorem ae_ (hc:c≠0) (hk:F3 k) (l:Tm) (r:List Cl) (ret:Tm×Int→Option S):lQ k l r c ret=ret (ar,c):=by
 simp only [lQ,Fa,ap hk.fu,dm,gZ,c_,decide_eq_false hc,Bool.not_false,al];rfl
theorem EQ (hc:c≠0) (hk:F3 k) (l:Tm) (a b:Int) (ret:Tm×Int→Option S):de k l a b c ret=ret (ar,c):=by
 simp only [de,Fc,ap hk.fu,dm,gZ,c_,decide_eq_false hc,Bool.not_false,al];rfl
theorem re (hc:c≠0) (hk:F3 k) (l:Tm) (ret:Tm×Int×Int→Option S):eK k l c ret=ret (ar,c,c):=by
 simp only [eK,Fb,ap hk.fu,dm,gZ,c_,decide_eq_false hc,Bool.not_false,al,af];rfl
end
theorem afV (hk:F3 k) {f:List Cl} (hf:aE f) (hl:f.length<1073741824) (ret:List Cl×Int→Option S):sL k f 0 ret=ret (bA f 0 1):=by
 simp only [sL,Oz,ap hk.fu,dm,gZ,rf hk.fu hf hl (show aK 0 by unfold aK;omega) (show aK 1 by unfold aK;omega),rj,if_true]
 rfl
theorem N5 (hk:F3 k) {t:Tm} (ht:Fm t) {a b:Int} (ha:0≤a∧a≤1000000) (hb:0≤b∧b<9223372036854775808) (ret:Tm×Int→Option S):de k t a b 0 ret=ret (tE (aD a b t)):=by
 simp only [de,Fc,ap hk.fu,dm,gZ,aJ,EM hk ht ha hb,rj,if_true]
 rfl
theorem NH (hk:F3 k) {t:Tm} (ht:Fm t) {r:List Cl} (hr:RF r) (ret:Tm×Int→Option S):lQ k t r 0 ret=ret (tE (g6 r t)):=by
 simp only [lQ,Fa,ap hk.fu,dm,gZ,aJ,NU hk ht (show (0:Int)≤1∧(1:Int)≤24 by omega) (show (0:Int)≤2∧(2:Int)<9223372036854775808 by omega),rj,if_true]
 rw [show ((0:Int)==0)=true from rfl,Bool.not_true,af,gW _ ret]
 unfold g6
 rw [bq]
 cases hx:bh 0 2 0 1 t with
 |error e=>
  have:=n8 t hx
  show ab (!(e==0)) (ret (ar,e)) _=_
  rw [c_,decide_eq_false (by omega),Bool.not_false,al];rfl
 |ok y=>
  have hy:=ja (by omega) ht hx
  show ab (!((0:Int)==0)) _ (kM k y 0 r fun r5=>ret (r5.1,if (0:Int)=0 then r5.2 else 0))=_
  simp_all [af,EE,bM,gW]
theorem afj (hk:F3 k) {t:Tm} (ht:In k t) (ret:Tm×Int×Int→Option S):eK k t 0 ret=ret (if bQ t=0 then (t,0,0) else (ar,bQ t,bQ t)):=by
 simp only [eK,Fb,ap hk.fu,dm,gZ,aJ,fX ht.1 ht.2.1 ht.dep,rj,if_true]
 rw [show ((0:Int)==0)=true from rfl,al,c_]
 by_cases h0:bQ t=0
 ·grind [af]
 ·rw [decide_eq_false h0,if_neg h0,Bool.not_false,al];rfl
def gJ (x:Except Int Tm):Except Int Tm:=bE x fun t=>if bQ t=0 then .ok t else .error (bQ t)
theorem Qe {z:List Cl×Int} (hz:EN z.2) {e:Int} (h:d5 z= .error e):0<e∧e≤1000:=by
 grind [Ap,EN]
end Go.Proofs.YtgajalidbabccaaGreatDoor
namespace Go.Proofs.YtgajalidbabccaaGreatDoor
open Go PI
set_option maxRecDepth 100000
end Go.Proofs.YtgajalidbabccaaGreatDoor
namespace Go.Proofs.YtgajalidbabccaaGreatDoor
open Go PI
set_option linter.unusedVariables false
set_option linter.unusedSimpArgs false
set_option maxRecDepth 20000
variable {S:Type} {k:Nat}
theorem NK {l:List Cl} (hl:l.length<1073741824) (ret:List Cl→Option S):qL l ret=ret l:=by
 grind [qL,bL]
section
variable {hd:Tm→(Tm→Option S)→Option S}
theorem aaJ (hk:Fu k) (ret:List Tm→Option S) {l:List Tm} (hQ: ∀y∈l,∀g,hd y g=g y) (hl:l.length<1073741824):
  ∀ (r p:List Tm) (m:Nat),l=p++r→r.length<m→qr hd k ret l m p (p.length:Int)=ret l:=by
 intro r
 induction r with
 |nil=>
  grind [av,qr,wG,af]
 |cons y r ih=>
  intro p m h hm
  obtain ⟨m,rfl,hm'⟩:=av hm
  obtain ⟨e1,e2,e3,e4⟩:=aV h (by omega)
  grind [qr,wG,al,aJ,bL]
theorem NL (hk:Fu k) {l:List Tm} (hQ: ∀y∈l,∀g,hd y g=g y) (hl:l.length<1073741824) (ret:List Tm→Option S):te hd k l ret=ret l:=by
 simp only [te,Gb]
 exact aaJ hk ret hQ hl l [] k rfl (by omega)
theorem aaK (hk:Fu k) (ret:Tm→Option S) {t:Tm} (ht:OkT t) (hQ: ∀b∈t.sys,∀y∈b.kids,∀g,hd y g=g y) (r1:List Cl) (r2:List Tm):
  ∀ (r p:List (Br Tm)) (m:Nat),t.sys=p++r→r.length<m→qn hd k ret t r1 r2 m p (p.length:Int)=ret (.mk t.kind t.n t.name r1 r2 t.sys):=by
 obtain ⟨o1,o2,o3,o4,o5,o6,o7⟩:=ht.no
 intro r
 induction r with
 |nil=>
  grind [av,qn,wF,af]
 |cons y r ih=>
  intro p m h hm
  obtain ⟨m,rfl,hm'⟩:=av hm
  obtain ⟨e1,e2,e3,e4⟩:=aV h (by omega)
  have hy:y∈t.sys:=by grind
  have hb:=(ht.bi hy).1
  have hlen:p.length+r.length+1=t.sys.length:=by grind
  simp only [qn,wF,e1,al,e2,Option.bind_some,aJ,e3,NK hb.2.1,ap hk,NL hk (hQ y hy) hb.2.2]
  rw [bL (by grind)]
  have:=ih (p++[y]) m e4 hm'
  omega
end
theorem oA (t:Tm):OkT t→ ∀ {k:Nat} (ret:Tm→Option S),Fd k (ai t)→du k t ret=ret t:=by
 induction t using eS with
 |h t ih1 ih2=>
  intro ht k ret hk
  obtain ⟨q,rfl,hq,hf⟩:=hk.pos' (dW t)
  obtain ⟨o1,o2,o3,o4,o5,o6,o7⟩:=ht.no
  simp only [du,F9,NK o5,ap hq,NL hq (fun y hy g=>ih1 y hy (ht.ki hy) g (hf _ (dv hy))) o6]
  have:=aaK hq ret ht (fun b hb y hy g=>ih2 b hb y hy ((ht.bi hb).2 y hy) g (hf _ (dJ hb hy))) t.r t.kids t.sys [] q rfl (by omega)
  refine Eq.trans this ?_
  cases t;rfl
theorem adm {v d d':Int} (h:24≤d) (h':24≤d') (t:Tm):ca v d t=ca v d' t:=by
 have hb: ∀kd,aQ kd d=aQ kd d':=fun kd=>by grind [aQ,y8]
 simp_all [ca,y8]
theorem kI (t:Tm): ∀ {v d d':Int},24≤d→24≤d'→ay false v d t=ay false v d' t:=by
 induction t using eS with
 |h t ih1 ih2=>
  intro v d d' h h'
  rw [vv,vv,adm h h']
  have hK: ∀ (l:List Tm) (i:Nat),(∀x∈l,x∈t.kids)→aY false v d t.kind i l=aY false v d' t.kind i l:=by
   intro l
   induction l<;>grind [aY,aR]
  grind [jD,aH]
end Go.Proofs.YtgajalidbabccaaGreatDoor
namespace Go.Proofs.YtgajalidbabccaaGreatDoor
open Go PI
set_option linter.unusedVariables false
set_option linter.unusedSimpArgs false
set_option maxRecDepth 20000
variable {S:Type} {k:Nat}
theorem aeI:RF [⟨3,0⟩]:=gq ⟨⟨by decide,by decide⟩,by decide,by decide⟩
theorem acL:bS ⟨0,1⟩:=⟨⟨by decide,by decide⟩,by decide,by decide⟩
theorem acM:bS ⟨1,0⟩:=⟨⟨by decide,by decide⟩,by decide,by decide⟩
theorem Kk:OkT ar:=by
 unfold ar
 rw [OkT,aL,aU]
 exact ⟨⟨by unfold aK;omega,by unfold aK;omega,by simp,fun c hc=>(by cases hc),by simp,by simp,by simp⟩,trivial,trivial⟩
theorem qG (hk:F3 k):In k ar:=⟨Kk,hk.fd (by grind [ar,ai,ax,aM]),by grind [ar,ao,au,aA]⟩
end Go.Proofs.YtgajalidbabccaaGreatDoor
namespace Go.Proofs.YtgajalidbabccaaGreatDoor
open Go PI
set_option linter.unusedVariables false
set_option linter.unusedSimpArgs false
set_option maxRecDepth 20000
variable {S:Type} {k:Nat}
theorem ju (t:Tm):ao t=1+au t.kids+aA t.sys:=by cases t;rfl
def lG (most w:Int) (n:Nat):Prop:=1≤w∧w≤2*most+1∧(w≤most→(n:Int)≤w)
def Mo (most:Int):Prop:=0≤most∧most≤1000
section
variable {hd:Tm→Int→(Int→Option S)→Option S} {t:Tm}
theorem aaD (hk:Fu k) (ret:Int→Option S) (rec1:Int→Int→Option S) {v most:Int} (hm0:Mo most) {x:Br Tm} (hv:aq t.sys v=some x) (hQ: ∀y∈x.kids,∀n,Mo n→ ∀g,∃w,hd y n g=g w∧lG n w (ao y)) (hl:x.kids.length<1073741824):
  ∀ (r p:List Tm) (m:Nat) (a:Int),x.kids=p++r→r.length<m→1≤a→a≤2*most+1→ ∃w,lf hd k ret rec1 t most v m a (p.length:Int)=rec1 w (IntKind.wrap .i64 (v+1))∧a≤w∧w≤2*most+1∧(w≤most→a+(au r:Int)≤w):=by
 obtain ⟨hm1,hm2⟩:=hm0
 intro r
 induction r with
 |nil=>
  intro p m a h hm ha ha'
  obtain ⟨m,rfl,hm'⟩:=av hm
  exact ⟨a,by grind [lf,wz,af],Int.le_refl _,ha',fun _=>by rw [au];simp⟩
 |cons y r ih=>
  intro p m a h hm ha ha'
  obtain ⟨m,rfl,hm'⟩:=av hm
  obtain ⟨e1,e2,e3,e4⟩:=aV h (by omega)
  simp only [lf,wz,hv,e1,al,e2,Option.bind_some,aJ,e3]
  by_cases hc:a≤most
  ·rw [decide_eq_true hc,al,bJ (show-9223372036854775808≤most-a by omega) (by omega)]
   obtain ⟨w,hw,w1,w2,w3⟩:=hQ y (by grind) (most-a) ⟨by omega,by omega⟩ (fun r8=>lf hd k ret rec1 t most v m (IntKind.wrap .i64 (a+r8)) (((p++[y]).length:Nat):Int))
   rw [hw,bJ (show-9223372036854775808≤a+w by omega) (by omega)]
   obtain ⟨u,hu,u1,u2,u3⟩:=ih (p++[y]) m (a+w) e4 hm' (by omega) (by omega)
   exact ⟨u,hu,by omega,u2,fun hle=>by grind [au]⟩
  grind [af]
theorem aaC (hk:Fu k) (ret:Int→Option S) {most:Int} (hm0:Mo most) (hQ: ∀b∈t.sys,∀y∈b.kids,∀n,Mo n→ ∀g,∃w,hd y n g=g w∧lG n w (ao y)) (ht:OkT t):
  ∀ (r p:List (Br Tm)) (m:Nat) (a:Int),t.sys=p++r→r.length<m→1≤a→a≤2*most+1→ ∃w,jX hd k ret t most m a (p.length:Int)=ret w∧a≤w∧w≤2*most+1∧(w≤most→a+(aA r:Int)≤w):=by
 obtain ⟨o1,o2,o3,o4,o5,o6,o7⟩:=ht.no
 have hm1:=hm0.1
 have hm2:=hm0.2
 intro r
 induction r with
 |nil=>
  intro p m a h hm ha ha'
  obtain ⟨m,rfl,hm'⟩:=av hm
  exact ⟨a,by grind [jX,rV,af],Int.le_refl _,ha',fun _=>by rw [aA];simp⟩
 |cons x r ih=>
  intro p m a h hm ha ha'
  obtain ⟨m,rfl,hm'⟩:=av hm
  obtain ⟨e1,e2,e3,e4⟩:=aV h (by omega)
  have hx:x∈t.sys:=by grind
  have hb:=(ht.bi hx).1
  simp only [jX,rV,e1,al,e2,Option.bind_some,e3]
  by_cases hc:a≤most
  ·rw [decide_eq_true hc,al]
   by_cases hf:((x.face.length:Nat):Int)>most
   ·grind [al,bJ]
   ·rw [decide_eq_false hf,af,bJ (show-9223372036854775808≤a+1 by omega) (by omega),bJ (show-9223372036854775808≤a+1+((x.face.length:Nat):Int) by omega) (by omega)]
    obtain ⟨w,hw,w1,w2,w3⟩:=aaD (t:=t) (most:=most) hk ret (jX hd k ret t most m) hm0 e2 (hQ x hx) hb.2.2 x.kids [] k (a+1+((x.face.length:Nat):Int)) rfl (by omega) (by omega) (by omega)
    have hw:lf hd k ret (jX hd k ret t most m) t most (p.length:Int) k (a+1+((x.face.length:Nat):Int)) 0=_:=hw
    rw [hw,e3]
    obtain ⟨u,hu,u1,u2,u3⟩:=ih (p++[x]) m w e4 hm' (by omega) w2
    exact ⟨u,hu,by omega,u2,fun hle=>by grind [aA,lA]⟩
  grind [af]
theorem aaB (hk:Fu k) (ret:Int→Option S) {most:Int} (hm0:Mo most) (hQ: ∀y∈t.kids,∀n,Mo n→ ∀g,∃w,hd y n g=g w∧lG n w (ao y)) (hQ': ∀b∈t.sys,∀y∈b.kids,∀n,Mo n→ ∀g,∃w,hd y n g=g w∧lG n w (ao y)) (ht:OkT t):
  ∀ (r p:List Tm) (m:Nat) (a:Int),t.kids=p++r→r.length<m→1≤a→a≤2*most+1→ ∃w,nU hd k ret t most m a (p.length:Int)=ret w∧a≤w∧w≤2*most+1∧(w≤most→a+(au r:Int)+(aA t.sys:Int)≤w):=by
 obtain ⟨o1,o2,o3,o4,o5,o6,o7⟩:=ht.no
 have hm1:=hm0.1
 have hm2:=hm0.2
 intro r
 have hs:=fun a=>aaC (most:=most) hk ret hm0 hQ' ht t.sys [] k a rfl (by omega)
 induction r with
 |nil=>
  grind [av,nU,rU,af,au]
 |cons y r ih=>
  intro p m a h hm ha ha'
  obtain ⟨m,rfl,hm'⟩:=av hm
  obtain ⟨e1,e2,e3,e4⟩:=aV h (by omega)
  simp only [nU,rU,e1,al,e2,Option.bind_some,aJ,e3]
  by_cases hc:a≤most
  ·rw [decide_eq_true hc,al,bJ (show-9223372036854775808≤most-a by omega) (by omega)]
   obtain ⟨w,hw,w1,w2,w3⟩:=hQ y (by grind) (most-a) ⟨by omega,by omega⟩ (fun r2=>nU hd k ret t most m (IntKind.wrap .i64 (a+r2)) (((p++[y]).length:Nat):Int))
   rw [hw,bJ (show-9223372036854775808≤a+w by omega) (by omega)]
   obtain ⟨u,hu,u1,u2,u3⟩:=ih (p++[y]) m (a+w) e4 hm' (by omega) (by omega)
   exact ⟨u,hu,by omega,u2,fun hle=>by grind [au]⟩
  grind [af]
end
theorem afT (t:Tm):OkT t→ ∀ {k:Nat} (most:Int),Mo most→ ∀ (ret:Int→Option S),Fd k (ai t)→ ∃w,hZ k t most ret=ret w∧lG most w (ao t):=by
 induction t using eS with
 |h t ih1 ih2=>
  intro ht k most hm0 ret hk
  have hm1:=hm0.1
  have hm2:=hm0.2
  obtain ⟨q,rfl,hq,hf⟩:=hk.pos' (dW t)
  obtain ⟨o1,o2,o3,o4,o5,o6,o7⟩:=ht.no
  have hQ: ∀y∈t.kids,∀n,Mo n→ ∀ (g:Int→Option S),∃w,hZ q y n g=g w∧lG n w (ao y):=fun y hy n hn g=>ih1 y hy (ht.ki hy) n hn g (hf _ (dv hy))
  have hQ': ∀b∈t.sys,∀y∈b.kids,∀n,Mo n→ ∀ (g:Int→Option S),∃w,hZ q y n g=g w∧lG n w (ao y):=fun b hb y hy n hn g=>ih2 b hb y hy ((ht.bi hb).2 y hy) n hn g (hf _ (dJ hb hy))
  simp only [hZ,F0]
  have out: ∃w,ret (IntKind.wrap .i64 (most+1))=ret w∧lG most w (ao t):=⟨most+1,by grind [bJ],by omega,by omega,fun h=>by omega⟩
  by_cases hr:((t.r.length:Nat):Int)>most
  ·grind [al]
  ·rw [decide_eq_false hr,af]
   by_cases hn:((t.name.size:Nat):Int)>most
   ·grind [al]
   ·rw [decide_eq_false hn,af,bJ (show-9223372036854775808≤1+((t.r.length:Nat):Int) by omega) (by omega),bJ (show-9223372036854775808≤1+((t.r.length:Nat):Int)+((t.name.size:Nat):Int) by omega) (by omega)]
    obtain ⟨w,hw,w1,w2,w3⟩:=aaB hq ret hm0 hQ hQ' ht t.kids [] q (1+((t.r.length:Nat):Int)+((t.name.size:Nat):Int)) rfl (by omega) (by omega) (by omega)
    exact ⟨w,hw,by omega,w2,fun hle=>by grind [ju]⟩
end Go.Proofs.YtgajalidbabccaaGreatDoor
namespace Go.Proofs.YtgajalidbabccaaGreatDoor
open Go PI
set_option linter.unusedVariables false
set_option linter.unusedSimpArgs false
set_option maxRecDepth 20000
variable {S:Type} {k:Nat}
def aw (kd:Int) (l:List Tm):Tm:= .mk kd 0 ByteArray.empty [] l []
def vN (n:Int):Tm:= .mk 1 n ByteArray.empty [] [] []
def bo (c a b:Int) (t:Tm):Tm×Int:=if c=0 then tE (aD a b t) else (ar,c)
def fi (p:Tm×Int):Except Int Tm:=if p.2=0 then .ok p.1 else .error p.2
theorem gA {c a b:Int} {t:Tm} (h:c≠0):bo c a b t=(ar,c):=if_neg h
theorem iC {c a b:Int} {t:Tm} (h:(bo c a b t).2=0):c=0:=by
 grind [gA]
theorem jz (a b:Int) (t:Tm):bo 0 a b t=tE (aD a b t):=rfl
theorem jt (hk:F3 k) {c:Int} {t:Tm} (h:c=0→Fm t) {a b:Int} (ha:0≤a∧a≤1000000) (hb:0≤b∧b<9223372036854775808) (ret:Tm×Int→Option S):de k t a b c ret=ret (bo c a b t):=by
 by_cases hc:c=0
 ·subst hc;exact N5 hk (h rfl) ha hb ret
 grind [EQ,gA]
theorem EH (hk:F3 k) {t:Tm} {c:Int} (h:c=0→In k t) (ret:Tm×Int→Option S):(eK k t c fun r=>ret (r.1,r.2.1))=ret (tE (gJ (fi (t,c)))):=by
 by_cases hc:c=0
 ·subst hc
  rw [afj hk (h rfl)]
  show _=ret (tE (gJ (.ok t)))
  unfold gJ
  rw [aN]
  by_cases h0:bQ t=0
  ·rw [if_pos h0,if_pos h0];rfl
  ·rw [if_neg h0,if_neg h0];rfl
 ·rw [re hc hk]
  show _=ret (tE (gJ (if c=0 then _ else _)))
  rw [if_neg hc];rfl
def eM (c:Int) (t a f y:Tm):Tm×Int:=
 (aw 7 [t,aw 11 [(bo c 1 1 a).1,(bo (bo c 1 1 a).2 1 0 y).1,aw 6 [(bo (bo (bo c 1 1 a).2 1 0 y).2 1 0 f).1,vN 0]]],(bo (bo (bo c 1 1 a).2 1 0 y).2 1 0 f).2)
def kU (t a f y:Tm):Except Int Tm:=bE (aD 1 1 a) fun a'=>bE (aD 1 0 y) fun y'=>bE (aD 1 0 f) fun f'=> .ok (aw 7 [t,aw 11 [a',y',aw 6 [f',vN 0]]])
theorem tu {c:Int} (h:c≠0) (t a f y:Tm):(eM c t a f y).2=c:=by
 grind [eM,gA]
theorem HY (t a f y:Tm):fi (eM 0 t a f y)=kU t a f y:=by
 unfold eM kU
 rw [jz]
 cases h1:aD 1 1 a with
 |error e=>
  have he:e≠0:=by have:=bV h1;omega
  show fi (_,(bo (bo e 1 0 y).2 1 0 f).2)=_
  rw [gA he,gA he,d7];exact if_neg he
 |ok a'=>
  rw [aN]
  show fi (aw 7 [t,aw 11 [a',(bo 0 1 0 y).1,aw 6 [(bo (bo 0 1 0 y).2 1 0 f).1,vN 0]]],(bo (bo 0 1 0 y).2 1 0 f).2)=_
  rw [jz]
  cases h2:aD 1 0 y with
  |error e=>
   have he:e≠0:=by have:=bV h2;omega
   show fi (_,(bo e 1 0 f).2)=_
   rw [gA he,d7];exact if_neg he
  |ok y'=>
   rw [aN]
   show fi (aw 7 [t,aw 11 [a',y',aw 6 [(bo 0 1 0 f).1,vN 0]]],(bo 0 1 0 f).2)=_
   rw [jz]
   cases h3:aD 1 0 f with
   |error e=>
    have he:e≠0:=by have:=bV h3;omega
    rw [d7];exact if_neg he
   |ok f'=>rfl
theorem aft (hk:F3 k) {c:Int} {t a f y:Tm} (ha:c=0→Fm a) (hf:c=0→Fm f) (hy:c=0→Fm y) (ret:Int×Int×ByteArray×List Tm×Int→Option S):
  sK k t a f y c ret=ret (7,0,ByteArray.empty,(eM c t a f y).1.kids,(eM c t a f y).2):=by
 simp only [sK,Oy,ap hk.fu,aJ,jt hk ha (show (0:Int)≤1∧(1:Int)≤1000000 by omega) (show (0:Int)≤1∧(1:Int)<9223372036854775808 by omega),
  jt hk (fun h=>hy (iC h)) (show (0:Int)≤1∧(1:Int)≤1000000 by omega) (show (0:Int)≤0∧(0:Int)<9223372036854775808 by omega),
  jt hk (fun h=>hf (iC (iC h))) (show (0:Int)≤1∧(1:Int)≤1000000 by omega) (show (0:Int)≤0∧(0:Int)<9223372036854775808 by omega),fN,Ag,ck,mR]
 rfl
def fM (c:Int) (t:Tm):Tm×Int:=(aw 7 [t,aw 4 [(bo c 1 0 t).1,aw 11 [(bo (bo c 1 0 t).2 2 1 t).1,vN 1,vN 0]]],(bo (bo c 1 0 t).2 2 1 t).2)
def oV (t:Tm):Except Int Tm:=bE (aD 1 0 t) fun t1=>bE (aD 2 1 t) fun t2=> .ok (aw 7 [t,aw 4 [t1,aw 11 [t2,vN 1,vN 0]]])
theorem oU {c:Int} (h:c≠0) (t:Tm):(fM c t).2=c:=by
 grind [fM,gA]
theorem V7 (t:Tm):fi (fM 0 t)=oV t:=by
 unfold fM oV
 rw [jz]
 cases h1:aD 1 0 t with
 |error e=>
  have he:e≠0:=by have:=bV h1;omega
  show fi (_,(bo e 2 1 t).2)=_
  rw [gA he,d7];exact if_neg he
 |ok a'=>
  rw [aN]
  show fi (aw 7 [t,aw 4 [a',aw 11 [(bo 0 2 1 t).1,vN 1,vN 0]]],(bo 0 2 1 t).2)=_
  rw [jz]
  cases h2:aD 2 1 t with
  |error e=>
   have he:e≠0:=by have:=bV h2;omega
   rw [d7];exact if_neg he
  |ok y'=>rfl
theorem aff (hk:F3 k) {c:Int} {t:Tm} (h:c=0→Fm t) (ret:Int×Int×ByteArray×List Tm×Int→Option S):
  sJ k t c ret=ret (7,0,ByteArray.empty,(fM c t).1.kids,(fM c t).2):=by
 simp only [sJ,Ow,ap hk.fu,aJ,jt hk h (show (0:Int)≤1∧(1:Int)≤1000000 by omega) (show (0:Int)≤0∧(0:Int)<9223372036854775808 by omega),
  jt hk (fun z=>h (iC z)) (show (0:Int)≤2∧(2:Int)≤1000000 by omega) (show (0:Int)≤1∧(1:Int)<9223372036854775808 by omega),fN,Ag,ck,mR]
 rfl
def mc (c:Int) (t a:Tm):Tm×Int:=
 let p1:=bo c 1 0 a
 let p2:=bo p1.2 1 0 a
 let p3:=bo p2.2 2 0 t
 let p4:=bo p3.2 2 0 a
 let p5:=eM p4.2 p3.1 p4.1 (vN 1) (vN 0)
 let p6:=fM p5.2 p5.1
 (aw 7 [aw 4 [t,p1.1],aw 4 [p2.1,p6.1]],p6.2)
def eW (t a:Tm):Except Int Tm:=bE (aD 1 0 a) fun a1=>bE (aD 1 0 a) fun y=>bE (aD 2 0 t) fun t'=>bE (aD 2 0 a) fun a'=>bE (kU t' a' (vN 1) (vN 0)) fun x=>bE (oV x) fun c=> .ok (aw 7 [aw 4 [t,a1],aw 4 [y,c]])
theorem Yu {c:Int} (h:c≠0) (t a:Tm):(mc c t a).2=c:=by
 grind [mc,gA,tu,oU]
theorem YA {t a f y:Tm} {e:Int} (h:kU t a f y= .error e):0<e∧e≤1000:=by
 rcases aW h with h|⟨_,_,h⟩
 ·exact bV h
 rcases aW h with h|⟨_,_,h⟩
 ·exact bV h
 rcases aW h with h|⟨_,_,h⟩
 ·exact bV h
 simp_all
theorem HU (t a:Tm):fi (mc 0 t a)=eW t a:=by
 unfold mc eW
 simp only [jz]
 cases h1:aD 1 0 a with
 |error e=>
  have he:e≠0:=by have:=bV h1;omega
  rw [d7]
  show fi (_,(fM (eM (bo (bo (bo e 1 0 a).2 2 0 t).2 2 0 a).2 _ _ _ _).2 _).2)=_
  simp only [gA he,tu he,oU he]
  exact if_neg he
 |ok a1=>
  simp only [aN,tE,jz,h1]
  cases h3:aD 2 0 t with
  |error e=>
   have he:e≠0:=by have:=bV h3;omega
   rw [d7]
   simp only [tE,gA he,tu he,oU he]
   exact if_neg he
  |ok t'=>
   simp only [aN,tE,jz]
   cases h4:aD 2 0 a with
   |error e=>
    have he:e≠0:=by have:=bV h4;omega
    rw [d7]
    simp only [tE,tu he,oU he]
    exact if_neg he
   |ok a'=>
    grind [aN,HY,fi,d7,oU,V7]
theorem Kv (n:Int) (h:0≤n∧n≤10):OkT (vN n):=by
 unfold vN
 rw [OkT,aL,aU]
 exact ⟨⟨by unfold aK;omega,by unfold aK;omega,by simp,fun c hc=>(by cases hc),by simp,by simp,by simp⟩,trivial,trivial⟩
theorem fm_v0:Fm (vN 0):=⟨Kv 0 (by omega),by rfl⟩
theorem fm_v1:Fm (vN 1):=⟨Kv 1 (by omega),by rfl⟩
theorem DF {kd:Int} (hkd:0≤kd∧kd≤28) {l:List Tm} (hl:l.length<10) (h: ∀x∈l,OkT x):OkT (aw kd l):=by
 unfold aw
 rw [OkT,okK_iff,aU]
 exact ⟨⟨by unfold aK;omega,by unfold aK;omega,by simp,fun c hc=>(by cases hc),by simp,by omega,by simp⟩,h,trivial⟩
theorem GM {kd d:Int} (hd:24≤d) {l:List Tm} (ho:ca (-1) 24 (aw kd l)=true) (h: ∀x∈l,ay false (-1) 24 x=true):ay false (-1) d (aw kd l)=true:=by
 rw [kI (aw kd l) hd (show (24:Int)≤24 by omega),vv,ho]
 have hK: ∀ (r:List Tm) (i:Nat),(∀x∈r,ay false (-1) 24 x=true)→aY false (-1) 24 kd i r=true:=by
  intro r
  induction r with
  |nil=>intro i _;rw [aY]
  |cons x r ih=>
   intro i hr
   have hb:=eo kd i
   rw [aY,ih _ fun y hy=>hr y (by simp [hy])]
   have hv:a6 (-1) (be kd i)= -1:=rfl
   rw [hv,kI x (show (24:Int)≤24+aR kd i by omega) (show (24:Int)≤24 by omega),hr x (by simp)];rfl
 show (!(false&&_)&&(true&&(aY false (-1) 24 kd 0 l&&aI false (-1) 24 kd [])))=true
 grind [aI]
def Fd2 (n m:Nat) (t:Tm):Prop:=OkT t∧ay false (-1) 24 t=true∧ai t≤n∧ao t≤m
theorem Fd2.fm {n m:Nat} {t:Tm} (h:Fd2 n m t) (hn:n≤200) (hm:m≤20000):Fm t:=⟨h.1,md (by have:=h.2.2.1;omega) (by have:=h.2.2.2;omega) h.2.1⟩
theorem Fd2.isIn {n m:Nat} {t:Tm} (h:Fd2 n m t) (hk:F3 k) (hn:n≤1000) (hm:m≤1000000):In k t:=⟨h.1,hk.fd (by have:=h.2.2.1;omega),by have:=h.2.2.2;omega⟩
theorem Fm.f2 {t:Tm} (h:Fm t):Fd2 200 20000 t:=⟨h.1,(ew h.2).2.2,(ew h.2).1,(ew h.2).2.1⟩
theorem Fd2.mono {n m n' m':Nat} {t:Tm} (h:Fd2 n m t) (hn:n≤n') (hm:m≤m'):Fd2 n' m' t:=⟨h.1,h.2.1,by have:=h.2.2.1;omega,by have:=h.2.2.2;omega⟩
theorem Fd2.up {n m:Nat} {t t':Tm} (h:Fd2 n m t) {a b:Int} (ha:0≤a∧a≤1000000000) (hl:aD a b t= .ok t'):Fd2 n m t':=by
 obtain ⟨u,h1,h2⟩:=ae hl
 obtain ⟨p1,p2,p3,p4⟩:=tM ha.1 ha.2 t 0 0 u h1
 obtain ⟨q1,q2,q3,q4⟩:=tM (by omega) (by omega) u 0 0 t' h2
 have w:=p4 h.1
 have w2:=q4 w.1
 have ho:=w.2.2 24 24 (by omega) (by omega) h.2.1
 exact ⟨w2.1,w2.2.2 24 24 (by omega) (by omega) ho,by have:=h.2.2.1;omega,by have:=h.2.2.2;omega⟩
theorem nC {kd:Int} (hkd:0≤kd∧kd≤28) {n m:Nat} {a b:Tm} (ho:ca (-1) 24 (aw kd [a,b])=true) (ha:Fd2 n m a) (hb:Fd2 n m b):Fd2 (n+1) (2*m+1) (aw kd [a,b]):=by
 grind [Fd2,DF,GM,aw,ai,ax,aM,ao,au,aA]
theorem HX {kd:Int} (hkd:0≤kd∧kd≤28) {n m:Nat} {a b c:Tm} (ho:ca (-1) 24 (aw kd [a,b,c])=true) (ha:Fd2 n m a) (hb:Fd2 n m b) (hc:Fd2 n m c):Fd2 (n+1) (3*m+1) (aw kd [a,b,c]):=by
 grind [Fd2,DF,GM,aw,ai,ax,aM,ao,au,aA]
theorem kV {n m:Nat} (hn:1≤n) (hm:1≤m) {i:Int} (hi:i=0∨i=1):Fd2 n m (vN i):=by
 have:Fd2 1 1 (vN i):=by
  rcases hi with rfl|rfl
  ·exact ⟨fm_v0.1,by rfl,by show 1≤1;omega,by show 1≤1;omega⟩
  ·exact ⟨fm_v1.1,by rfl,by show 1≤1;omega,by show 1≤1;omega⟩
 exact this.mono hn hm
theorem Cw {n m:Nat} (hn:1≤n) (hm:1≤m) {t a f y x:Tm} (ht:Fd2 n m t) (ha:Fd2 n m a) (hf:Fd2 n m f) (hy:Fd2 n m y) (h:kU t a f y= .ok x):Fd2 (n+3) (12*m+9) x:=by
 obtain ⟨a',h1,h⟩:=ae h
 obtain ⟨y',h2,h⟩:=ae h
 obtain ⟨f',h3,h⟩:=ae h
 injection h with h;subst h
 have c1:=nC (kd:=6) (by omega) (by rfl) (hf.up (by omega) h3) (kV hn hm (.inl rfl))
 have c2:=HX (kd:=11) (by omega) (by rfl) ((ha.up (by omega) h1).mono (Nat.le_succ n) (show m≤2*m+1 by omega)) ((hy.up (by omega) h2).mono (Nat.le_succ n) (show m≤2*m+1 by omega)) c1
 exact (nC (kd:=7) (by omega) (by rfl) (ht.mono (show n≤n+1+1 by omega) (show m≤3*(2*m+1)+1 by omega)) c2).mono (by omega) (by omega)
theorem V_ {n m:Nat} (hn:1≤n) (hm:1≤m) {t x:Tm} (ht:Fd2 n m t) (h:oV t= .ok x):Fd2 (n+3) (12*m+9) x:=by
 obtain ⟨a',h1,h⟩:=ae h
 obtain ⟨y',h2,h⟩:=ae h
 injection h with h;subst h
 have c1:=HX (kd:=11) (by omega) (by rfl) (ht.up (by omega) h2) (kV hn hm (.inr rfl)) (kV hn hm (.inl rfl))
 have c2:=nC (kd:=4) (by omega) (by rfl) ((ht.up (by omega) h1).mono (Nat.le_succ n) (show m≤3*m+1 by omega)) c1
 exact (nC (kd:=7) (by omega) (by rfl) (ht.mono (show n≤n+1+1 by omega) (show m≤2*(3*m+1)+1 by omega)) c2).mono (by omega) (by omega)
theorem HS {n m:Nat} (hn:1≤n) (hm:1≤m) {t a x:Tm} (ht:Fd2 n m t) (ha:Fd2 n m a) (h:eW t a= .ok x):Fd2 (n+8) (1000*m+1000) x:=by
 obtain ⟨a1,h1,h⟩:=ae h
 obtain ⟨y,h2,h⟩:=ae h
 obtain ⟨t',h3,h⟩:=ae h
 obtain ⟨a',h4,h⟩:=ae h
 obtain ⟨z,h5,h⟩:=ae h
 obtain ⟨c,h6,h⟩:=ae h
 injection h with h;subst h
 have c1:=Cw hn hm (ht.up (by omega) h3) (ha.up (by omega) h4) (kV hn hm (.inr rfl)) (kV hn hm (.inl rfl)) h5
 have c2:=V_ (by omega) (by omega) c1 h6
 have c3:=nC (kd:=4) (by omega) (by rfl) ((ha.up (by omega) h2).mono (show n≤n+3+3 by omega) (show m≤12*(12*m+9)+9 by omega)) c2
 have c4:=nC (kd:=4) (by omega) (by rfl) ht (ha.up (by omega) h1)
 exact (nC (kd:=7) (by omega) (by rfl) (c4.mono (show n+1≤n+3+3+1 by omega) (show 2*m+1≤2*(12*(12*m+9)+9)+1 by omega)) c3).mono (by omega) (by omega)
end Go.Proofs.YtgajalidbabccaaGreatDoor
namespace Go.Proofs.YtgajalidbabccaaGreatDoor
open Go PI
set_option linter.unusedVariables false
set_option linter.unusedSimpArgs false
set_option maxRecDepth 20000
variable {S:Type} {k:Nat}
mutual
def ct (n:Int):Tm→Nat
 | .mk kd m _ _ ks sys=>(if kd=1∧m=n then 1 else 0)+(ep n kd 0 ks+dT n sys)
def ep (n kd:Int) (i:Nat):List Tm→Nat
 |[]=>0
 |t::l=>ct (n+be kd i) t+ep n kd (i+1) l
def dT (n:Int):List (Br Tm)→Nat
 |[]=>0
 |b::l=>BF n b+dT n l
def BF (n:Int):Br Tm→Nat
 | .mk _ ks=>eJ n ks
def eJ (n:Int):List Tm→Nat
 |[]=>0
 |t::l=>ct n t+eJ n l
end
mutual
def df (n:Int) (u:Tm) (v d:Int):Tm→Except Int Tm
 | .mk kd m nm r ks sys=>if kd=1∧m=n+v then aD v d u else bE (ei n u v d kd 0 ks) fun ks'=>bE (dz n u v d kd sys) fun sys'=> .ok (.mk kd (if kd=1∧m>n+v then m-1 else m) nm r ks' sys')
def ei (n:Int) (u:Tm) (v d kd:Int) (i:Nat):List Tm→Except Int (List Tm)
 |[]=> .ok []
 |t::l=>bE (df n u (v+be kd i) (d+aR kd i) t) fun t'=>bE (ei n u v d kd (i+1) l) fun l'=> .ok (t'::l')
def dz (n:Int) (u:Tm) (v d kd:Int):List (Br Tm)→Except Int (List (Br Tm))
 |[]=> .ok []
 |b::l=>bE (qK n u v d kd b) fun b'=>bE (dz n u v d kd l) fun l'=> .ok (b'::l')
def qK (n:Int) (u:Tm) (v d kd:Int):Br Tm→Except Int (Br Tm)
 | .mk f ks=>bE (eB n u v d kd ks) fun ks'=> .ok (.mk f ks')
def eB (n:Int) (u:Tm) (v d kd:Int):List Tm→Except Int (List Tm)
 |[]=> .ok []
 |t::l=>bE (df n u v (d+aH kd) t) fun t'=>bE (eB n u v d kd l) fun l'=> .ok (t'::l')
end
def gk (n:Int) (t u:Tm):Except Int Tm:=if ao t+ct n t*(ao u-1)>20000 then .error 221 else bE (df n u 0 0 t) fun o=>if ai o>200 then .error 62 else .ok o
def Pg (n:Int) (u x x':Tm):Prop:=OkT x'∧ay false (-1) 24 x'=true∧ao x'=ao x+ct n x*(ao u-1)∧ai x'≤ai x+ai u
abbrev vq (n:Int) (u x:Tm):Prop:= ∀ {v d:Int} {o:Tm},0≤v→0≤d→v+ai x≤1000→OkT x→ay false (-1) 24 x=true→df n u v d x= .ok o→Pg (n+v) u x o
section
variable {n v d kd:Int} {u:Tm}
theorem ads: ∀ {l l':List Tm} {i:Nat},(∀x∈l,vq n u x)→0≤v→0≤d→v+ax l+1≤1000→aL l→aY false (-1) 24 kd i l=true→ei n u v d kd i l= .ok l'→
  aL l'∧aY false (-1) 24 kd i l'=true∧au l'=au l+ep (n+v) kd i l*(ao u-1)∧ax l'≤ax l+ai u∧l'.length=l.length:=by
 intro l
 induction l with
 |nil=>intro l' i _ _ _ _ _ _ h;rw [ei] at h;injection h with h;subst h;rw [aL,aY,ep,au,ax];simp
 |cons t l ih=>
  intro l' i h hv hd hb ho ha hl
  rw [ei] at hl
  obtain ⟨t',e1,hl⟩:=ae hl
  obtain ⟨m,e2,hl⟩:=ae hl
  injection hl with hl;subst hl
  rw [aL] at ho
  rw [aY,Bool.and_eq_true] at ha
  rw [ax] at hb
  have b1:=kJ kd i;have b2:=eo kd i
  have ha1:ay false (-1) 24 t=true:=by
   have:=ha.1
   rw [vi,kI t (by omega) (Int.le_refl 24)] at this;exact this
  obtain ⟨p1,p2,p3,p4⟩:=h t (by simp) (v:=v+be kd i) (d:=d+aR kd i) (by omega) (by omega) (by omega) ho.1 ha1 e1
  obtain ⟨q1,q2,q3,q4,q5⟩:=ih (fun x hx=>h x (by simp [hx])) hv hd (by omega) ho.2 ha.2 e2
  rw [aL,aY,ep,au,au,ax,ax,List.length_cons,List.length_cons]
  refine ⟨⟨p1,q1⟩, ?_, ?_,by omega,by omega⟩
  ·rw [Bool.and_eq_true,vi,kI t' (show (24:Int)≤24+aR kd i by omega) (Int.le_refl 24)];exact ⟨p2,q2⟩
  ·rw [p3,q3,Nat.add_mul,Int.add_assoc];omega
theorem adt: ∀ {l l':List Tm},(∀x∈l,vq n u x)→0≤v→0≤d→v+ax l+1≤1000→aL l→a8 false (-1) 24 kd l=true→eB n u v d kd l= .ok l'→
  aL l'∧a8 false (-1) 24 kd l'=true∧au l'=au l+eJ (n+v) l*(ao u-1)∧ax l'≤ax l+ai u∧l'.length=l.length:=by
 intro l
 induction l with
 |nil=>intro l' _ _ _ _ _ _ h;rw [eB] at h;injection h with h;subst h;rw [aL,a8,eJ,au,ax];simp
 |cons t l ih=>
  intro l' h hv hd hb ho ha hl
  rw [eB] at hl
  obtain ⟨t',e1,hl⟩:=ae hl
  obtain ⟨m,e2,hl⟩:=ae hl
  injection hl with hl;subst hl
  rw [aL] at ho
  rw [a8,Bool.and_eq_true] at ha
  rw [ax] at hb
  have b2:=eA kd
  have ha1:ay false (-1) 24 t=true:=by
   have:=ha.1
   rw [kI t (by omega) (Int.le_refl 24)] at this;exact this
  obtain ⟨p1,p2,p3,p4⟩:=h t (by simp) (v:=v) (d:=d+aH kd) (by omega) (by omega) (by omega) ho.1 ha1 e1
  obtain ⟨q1,q2,q3,q4,q5⟩:=ih (fun x hx=>h x (by simp [hx])) hv hd (by omega) ho.2 ha.2 e2
  rw [aL,a8,eJ,au,au,ax,ax,List.length_cons,List.length_cons]
  refine ⟨⟨p1,q1⟩, ?_, ?_,by omega,by omega⟩
  ·rw [Bool.and_eq_true,kI t' (show (24:Int)≤24+aH kd by omega) (Int.le_refl 24)];exact ⟨p2,q2⟩
  ·rw [p3,q3,Nat.add_mul];omega
theorem adu: ∀ {l l':List (Br Tm)},(∀b∈l,∀x∈b.kids,vq n u x)→0≤v→0≤d→v+aM l+1≤1000→aU l→aI false (-1) 24 kd l=true→dz n u v d kd l= .ok l'→
  aU l'∧aI false (-1) 24 kd l'=true∧aA l'=aA l+dT (n+v) l*(ao u-1)∧aM l'≤aM l+ai u∧l'.length=l.length∧l'.all (aQ kd 24)=l.all (aQ kd 24):=by
 intro l
 induction l with
 |nil=>intro l' _ _ _ _ _ _ h;rw [dz] at h;injection h with h;subst h;rw [aU,aI,dT,aA,aM];simp
 |cons b l ih=>
  intro l' h hv hd hb ho ha hl
  rw [dz] at hl
  obtain ⟨b',e1,hl⟩:=ae hl
  obtain ⟨m,e2,hl⟩:=ae hl
  injection hl with hl;subst hl
  obtain ⟨f,ks⟩:=b
  rw [qK] at e1
  obtain ⟨ks',e3,e1⟩:=ae e1
  injection e1 with e1;subst e1
  rw [aU,dP] at ho
  rw [aI,cX,Bool.and_eq_true] at ha
  rw [aM,eL] at hb
  obtain ⟨q1,q2,q3,q4,q5,q6⟩:=ih (fun b hb=>h b (by simp [hb])) hv hd (by omega) ho.2 ha.2 e2
  obtain ⟨p1,p2,p3,p4,p5⟩:=adt (n:=n) (u:=u) (kd:=kd) (l:=ks) (h ⟨f,ks⟩ (by simp)) hv hd (by omega) ho.1.2 ha.1 e3
  rw [aU,dP,aI,cX,dT,BF,aA,aA,d4,d4,aM,aM,eL,eL,List.length_cons,List.length_cons,List.all_cons,List.all_cons,q6]
  refine ⟨⟨⟨⟨ho.1.1.1,ho.1.1.2.1,by rw [p5];exact ho.1.1.2.2⟩,p1⟩,q1⟩,by rw [Bool.and_eq_true];exact ⟨p2,q2⟩, ?_,by omega,by omega, ?_⟩
  ·rw [p3,q3,Nat.add_mul];omega
  ·have:aQ kd 24 ⟨f,ks'⟩=aQ kd 24 ⟨f,ks⟩:=by unfold aQ;simp only [p5]
   rw [this]
theorem KH (hu:Fm u) (hn:0≤n) (t:Tm):vq n u t:=by
 induction t using dr with
 |h kd m nm r ks sys ih1 ih2=>
  intro v d o hv hd hb hok ha h
  rw [df] at h
  have hok':=hok
  rw [OkT] at hok
  rw [ai] at hb
  have ha':=ha
  rw [ay] at ha
  simp only [Bool.false_and,Bool.not_false,Bool.true_and,Bool.and_eq_true] at ha
  obtain ⟨q2,q3,q4⟩:=ha
  split at h
  ·rename_i hc
   have fo:=dA (by omega) hu h
   have u1:=(Fm.f2 hu).up (by omega) h
   have hk1:ks=[]∧sys=[]:=by
    unfold ca at q2
    simp only [Bool.and_eq_true,decide_eq_true_eq] at q2
    obtain ⟨⟨a1,_,_,a4⟩,_⟩:=q2
    rw [hc.1] at a1 a4
    have:fT 1=0:=rfl
    exact ⟨List.length_eq_zero_iff.1 (by omega),List.length_eq_zero_iff.1 (a4 rfl)⟩
   obtain ⟨m1,h1,h2⟩:=ae h
   have w1:=tM (by omega) (by omega) u 0 0 m1 h1
   have w2:=tM (by omega) (by omega) m1 0 0 o h2
   have e1:ao o=ao u:=by rw [w2.2.1,w1.2.1]
   have e2:ai o=ai u:=by rw [w2.1,w1.1]
   refine ⟨fo.ok,(ew fo.2).2.2, ?_,by omega⟩
   rw [e1,hk1.1,hk1.2,ct,if_pos hc,ep,dT,ao,au,aA]
   have:=km u
   omega
  ·rename_i hc
   obtain ⟨ks',e2,h⟩:=ae h
   obtain ⟨sys',e3,h⟩:=ae h
   injection h with h;subst h
   obtain ⟨k1,k2,k3,k4,k5⟩:=ads ih1 hv hd (by omega) hok.2.1 q3 e2
   obtain ⟨s1,s2,s3,s4,s5,s6⟩:=adu ih2 hv hd (by omega) hok.2.2 q4 e3
   obtain ⟨o1,o2,o3,o4,o5,o6,o7⟩:=hok.1
   have hm:0≤m→0≤(if kd=1∧m>n+v then m-1 else m):=by intro h;split<;>omega
   refine ⟨?_, ?_, ?_, ?_⟩
   ·rw [OkT]
    exact ⟨⟨o1,by unfold aK at*;split<;>omega,o3,o4,o5,by omega,by omega⟩,k1,s1⟩
   ·rw [ay,k2,s2]
    simp only [Bool.false_and,Bool.not_false,Bool.true_and,Bool.and_true]
    unfold ca at q2 ⊢
    simp only [Bool.and_eq_true,decide_eq_true_eq] at q2 ⊢
    rw [k5,s5,s6]
    obtain ⟨⟨a1,a2,a3,a4⟩,a5⟩:=q2
    refine ⟨⟨a1, ?_,a3,a4⟩, ?_⟩
    ·by_cases c:kd=1
     ·exact .inl c
     ·exact .inr (by rw [if_neg (fun h=>c h.1)];exact a2.resolve_left c)
    ·by_cases c1:kd=1
     ·rw [if_pos c1] at a5 ⊢
      simp only [Bool.and_eq_true,decide_eq_true_eq] at a5 ⊢
      exact ⟨a5.1,hm a5.2.1,.inl (by decide)⟩
     ·rw [if_neg c1] at a5 ⊢;exact a5
   ·rw [ct,if_neg hc,ao,ao,k3,s3,Nat.zero_add,Nat.add_mul];omega
   ·rw [ai,ai];omega
end
theorem KG {n:Int} (hn:0≤n) {t u o:Tm} (ht:Fm t) (hu:Fm u) (h:gk n t u= .ok o):Fm o:=by
 unfold gk at h
 split at h
 ·cases h
 rename_i h0
 obtain ⟨o',h1,h⟩:=ae h
 split at h
 ·cases h
 rename_i h2
 injection h with h;subst h
 obtain ⟨d1,d2,d3⟩:=ew ht.2
 obtain ⟨p1,p2,p3,p4⟩:=KH hu hn t (Int.le_refl 0) (Int.le_refl 0) (by omega) ht.ok d3 h1
 rw [Int.add_zero] at p3
 exact ⟨p1,md (by omega) (by omega) p2⟩
theorem adC {n:Int} {u:Tm} (t:Tm): ∀ {v d e:Int},df n u v d t= .error e→0<e∧e≤1000:=by
 induction t using dr with
 |h kd m nm r ks sys ih1 ih2=>
  intro v d e h
  have hk: ∀ {l:List Tm} {i:Nat},(∀x∈l,∀ {v d e:Int},df n u v d x= .error e→0<e∧e≤1000)→ei n u v d kd i l= .error e→0<e∧e≤1000:=by
   intro l
   induction l with
   |nil=>intro i _ h;rw [ei] at h;cases h
   |cons t l ih=>
    intro i h hl
    rw [ei] at hl
    rcases aW hl with hl|⟨_,_,hl⟩
    ·exact h t (by simp) hl
    rcases aW hl with hl|⟨_,_,hl⟩
    ·exact ih (fun x hx=>h x (by simp [hx])) hl
    ·cases hl
  have hm: ∀ {l:List Tm},(∀x∈l,∀ {v d e:Int},df n u v d x= .error e→0<e∧e≤1000)→eB n u v d kd l= .error e→0<e∧e≤1000:=by
   intro l
   induction l with
   |nil=>intro _ h;rw [eB] at h;cases h
   |cons t l ih=>
    intro h hl
    rw [eB] at hl
    rcases aW hl with hl|⟨_,_,hl⟩
    ·exact h t (by simp) hl
    rcases aW hl with hl|⟨_,_,hl⟩
    ·exact ih (fun x hx=>h x (by simp [hx])) hl
    ·cases hl
  have hs: ∀ {l:List (Br Tm)},(∀b∈l,∀x∈b.kids,∀ {v d e:Int},df n u v d x= .error e→0<e∧e≤1000)→dz n u v d kd l= .error e→0<e∧e≤1000:=by
   intro l
   induction l with
   |nil=>intro _ h;rw [dz] at h;cases h
   |cons b l ih=>
    intro h hl
    rw [dz] at hl
    obtain ⟨f,ks'⟩:=b
    rcases aW hl with hl|⟨_,_,hl⟩
    ·rw [qK] at hl
     rcases aW hl with hl|⟨_,_,hl⟩
     ·exact hm (h ⟨f,ks'⟩ (by simp)) hl
     ·cases hl
    ·rcases aW hl with hl|⟨_,_,hl⟩
     ·exact ih (fun b hb=>h b (by simp [hb])) hl
     ·cases hl
  rw [df] at h
  split at h
  ·exact bV h
  ·rcases aW h with h|⟨_,_,h⟩
   ·exact hk ih1 h
   ·rcases aW h with h|⟨_,_,h⟩
    ·exact hs ih2 h
    ·cases h
theorem KF {n:Int} {t u:Tm} {e:Int} (h:gk n t u= .error e):0<e∧e≤1000:=by
 unfold gk at h
 split at h
 ·injection h with h;omega
 ·rcases aW h with h|⟨_,_,h⟩
  ·exact adC t h
  ·split at h
   ·injection h with h;omega
   ·cases h
end Go.Proofs.YtgajalidbabccaaGreatDoor
namespace Go.Proofs.YtgajalidbabccaaGreatDoor
open Go PI
set_option linter.unusedVariables false
set_option linter.unusedSimpArgs false
set_option maxRecDepth 20000
variable {S:Type} {k:Nat}
def dX {α:Type} (t:Tm) (x:Except Int α):Except Int α:=if bQ t=0 then x else .error (bQ t)
theorem tx {α:Type} {t:Tm} {x:Except Int α} {e:Int} (hx: ∀e,x= .error e→0<e∧e≤1000) (h:dX t x= .error e):0<e∧e≤1000:=by
 unfold dX at h
 split at h
 ·exact hx e h
 ·rename_i h0
  injection h with h
  have:=Cz t;omega
def oH (a b:Int) (t:Tm):Except Int Tm:=dX t (aD a b t)
def lZ (f b:Int) (t:Tm):Except Int Tm:=dX t (bh 0 b 0 f t)
def rp (i:Int) (r:List Cl) (t:Tm):Except Int Tm:=dX t (di i r t)
theorem eH {e:Int} (h:e≠0):(e==0)=false:=by simpa using h
theorem aeW (hk:F3 k) {t:Tm} (ht:In k t) {vb db:Int} (hvb:0≤vb∧vb≤1000000) (hdb:0≤db∧db<9223372036854775808) (ret:Tm×Int→Option S):lS k t vb db ret=ret (tE (oH vb db t)):=by
 unfold oH dX
 by_cases h:bQ t=0
 ·rw [if_pos h];exact EM hk ⟨ht.1,h⟩ hvb hdb ret
 ·rw [if_neg h]
  simp only [lS,FR,ap hk.fu,aJ,x_,Ak,fX ht.1 ht.2.1 ht.dep,eH h,Bool.not_false,al];rfl
theorem Ny (hk:F3 k) {t:Tm} (ht:In k t) {f b:Int} (hf:0≤f∧f≤24) (hb:0≤b∧b<9223372036854775808) (ret:Tm×Int→Option S):lU k t f b ret=ret (tE (lZ f b t)):=by
 unfold lZ dX
 by_cases h:bQ t=0
 ·rw [if_pos h];exact NU hk ⟨ht.1,h⟩ hf hb ret
 ·rw [if_neg h]
  simp only [lU,FS,ap hk.fu,aJ,xY,Ai,fX ht.1 ht.2.1 ht.dep,eH h,Bool.not_false,al];rfl
theorem ae7 (hk:F3 k) {t:Tm} (ht:In k t) {i:Int} (hi:0≤i∧i<24) {r:List Cl} (hr:RF r) (ret:Tm×Int→Option S):kM k t i r ret=ret (tE (rp i r t)):=by
 unfold rp dX
 by_cases h:bQ t=0
 ·rw [if_pos h];exact EE hk ⟨ht.1,h⟩ hi hr ret
 ·rw [if_neg h]
  simp only [kM,Ff,ap hk.fu,aJ,xp,Fs,fX ht.1 ht.2.1 ht.dep,eH h,Bool.not_false,al];rfl
end Go.Proofs.YtgajalidbabccaaGreatDoor
namespace Go.Proofs.YtgajalidbabccaaGreatDoor
open Go PI
set_option linter.unusedVariables false
set_option linter.unusedSimpArgs false
set_option maxRecDepth 20000
theorem abP (t:Tm): ∀ {v v' d d':Int},v+ai t≤1000000000→v'+ai t≤1000000000→bh 0 0 v d t=bh 0 0 v' d' t:=by
 induction t using dr with
 |h kd n nm r ks sys ih1 ih2=>
  intro v v' d d' h h'
  rw [ai] at h h'
  have hk: ∀ {l:List Tm} {i:Nat},(∀x∈l,∀ {v v' d d':Int},v+ai x≤1000000000→v'+ai x≤1000000000→bh 0 0 v d x=bh 0 0 v' d' x)→v+ax l+1≤1000000000→v'+ax l+1≤1000000000→c5 0 0 v d kd i l=c5 0 0 v' d' kd i l:=by
   intro l
   induction l with
   |nil=>intro i _ _ _;rw [c5,c5]
   |cons t l ih=>
    intro i h h1 h2
    rw [ax] at h1 h2
    have:=kJ kd i
    rw [c5,c5,h t (by simp) (v:=v+be kd i) (v':=v'+be kd i) (d:=d+aR kd i) (d':=d'+aR kd i) (by omega) (by omega),ih (fun x hx=>h x (by simp [hx])) (by omega) (by omega)]
  have hm: ∀ {l:List Tm},(∀x∈l,∀ {v v' d d':Int},v+ai x≤1000000000→v'+ai x≤1000000000→bh 0 0 v d x=bh 0 0 v' d' x)→v+ax l+1≤1000000000→v'+ax l+1≤1000000000→c6 0 0 v d kd l=c6 0 0 v' d' kd l:=by
   intro l
   induction l with
   |nil=>intro _ _ _;rw [c6,c6]
   |cons t l ih=>
    intro h h1 h2
    rw [ax] at h1 h2
    rw [c6,c6,h t (by simp) (v:=v) (v':=v') (d:=d+aH kd) (d':=d'+aH kd) (by omega) (by omega),ih (fun x hx=>h x (by simp [hx])) (by omega) (by omega)]
  have hr: ∀ {d:Int} {f:List Cl},cL d 0 f= .ok f:=fun {d f}=>if_pos (.inl rfl)
  have hs: ∀ {l:List (Br Tm)},(∀b∈l,∀x∈b.kids,∀ {v v' d d':Int},v+ai x≤1000000000→v'+ai x≤1000000000→bh 0 0 v d x=bh 0 0 v' d' x)→v+aM l+1≤1000000000→v'+aM l+1≤1000000000→cF 0 0 v d kd l=cF 0 0 v' d' kd l:=by
   intro l
   induction l with
   |nil=>intro _ _ _;rw [cF,cF]
   |cons b l ih=>
    intro h h1 h2
    obtain ⟨f,ks'⟩:=b
    rw [aM,eL] at h1 h2
    rw [cF,cF,lk,lk,hr,hr,aN,aN,hm (l:=ks') (h ⟨f,ks'⟩ (by simp)) (by omega) (by omega),ih (fun b hb=>h b (by simp [hb])) (by omega) (by omega)]
  rw [bh,bh,hr,hr,aN,aN,hk ih1 (by omega) (by omega),hs ih2 (by omega) (by omega)]
  have e1:(kd=1∧n≥v∧n>1000000000-0)↔(kd=1∧n≥v'∧n>1000000000-0):=by omega
  simp only [e1,Int.add_zero,ite_self]
end Go.Proofs.YtgajalidbabccaaGreatDoor
namespace Go.Proofs.YtgajalidbabccaaGreatDoor
open Go PI
set_option linter.unusedVariables false
set_option linter.unusedSimpArgs false
set_option maxRecDepth 20000
variable {S:Type} {k:Nat}
def bY (l:List Tm) (x:Except Int Tm):Except Int Tm:=if cA l=0 then gJ x else .error (cA l)
theorem soM {l:List Tm} {p:Tm×Int} {x:Except Int Tm} (h0:cA l=0→fi p=x) (hc:cA l≠0→p.2=cA l):gJ (fi p)=bY l x:=by
 unfold bY
 by_cases h:cA l=0
 ·grind
 ·rw [if_neg h]
  unfold fi
  rw [hc h,if_neg h];rfl
theorem HZ {c:Int} {t a f y:Tm} (h:(eM c t a f y).2=0):c=0:=by
 grind [tu]
theorem V8 {c:Int} {t:Tm} (h:(fM c t).2=0):c=0:=by
 grind [oU]
theorem Qd {p:Tm×Int} (h:p.2=0):fi p= .ok p.1:=if_pos h
theorem Qk {n m:Nat} {c a b:Int} {t:Tm} (h:Fd2 n m t) (ha:0≤a∧a≤1000000000) (hz:(bo c a b t).2=0):Fd2 n m (bo c a b t).1:=by
 have h0:=iC hz
 subst h0
 rw [jz] at hz ⊢
 cases hx:aD a b t with
 |ok t'=>exact h.up ha hx
 |error e=>
  rw [hx] at hz
  have:=bV hx
  have hz:e=0:=hz
  omega
theorem ae1 (hk:F3 k) {t a:Tm} (ht:In k t) (ha:In k a) (hst:ao t≤150) (hsa:ao a≤150) (ret:Tm×Int→Option S):w_ k t a ret=ret (tE (bY [t,a] (eW t a))):=by
 have hin: ∀x∈[t,a],In k x:=fun x hx=>by
  grind
 have hfm:cA [t,a]=0→ ∀x∈[t,a],Fm x:=fun h=>u9 (fun x hx=>(hin x hx).1) h
 have ft:cA [t,a]=0→Fd2 150 150 t:=fun h=>⟨ht.1,(hfm h t (by simp)).f2.2.1,by have:=tl t;omega,hst⟩
 have fa:cA [t,a]=0→Fd2 150 150 a:=fun h=>⟨ha.1,(hfm h a (by simp)).f2.2.1,by have:=tl a;omega,hsa⟩
 generalize hc:cA [t,a]=c at ft fa
 have e1: ∀g,de k a 1 0 c g=g (bo c 1 0 a):=fun g=>jt (S:=S) hk (fun h=>(fa h).fm (by omega) (by omega)) (by omega) (by omega) g
 generalize h1:bo c 1 0 a=p1 at e1
 have z1:p1.2=0→c=0:=fun h=>iC (by rw [h1];exact h)
 have e2: ∀g,de k a 1 0 p1.2 g=g (bo p1.2 1 0 a):=fun g=>jt (S:=S) hk (fun h=>(fa (z1 h)).fm (by omega) (by omega)) (by omega) (by omega) g
 generalize h2:bo p1.2 1 0 a=p2 at e2
 have z2:p2.2=0→c=0:=fun h=>z1 (iC (by rw [h2];exact h))
 have e3: ∀g,de k t 2 0 p2.2 g=g (bo p2.2 2 0 t):=fun g=>jt (S:=S) hk (fun h=>(ft (z2 h)).fm (by omega) (by omega)) (by omega) (by omega) g
 have f3:(bo p2.2 2 0 t).2=0→Fd2 150 150 (bo p2.2 2 0 t).1:=fun h=>Qk (ft (z2 (iC h))) (by omega) h
 generalize h3:bo p2.2 2 0 t=p3 at e3 f3
 have z3:p3.2=0→c=0:=fun h=>z2 (iC (by rw [h3];exact h))
 have e4: ∀g,de k a 2 0 p3.2 g=g (bo p3.2 2 0 a):=fun g=>jt (S:=S) hk (fun h=>(fa (z3 h)).fm (by omega) (by omega)) (by omega) (by omega) g
 have f4:(bo p3.2 2 0 a).2=0→Fd2 150 150 (bo p3.2 2 0 a).1:=fun h=>Qk (fa (z3 (iC h))) (by omega) h
 have y4:(bo p3.2 2 0 a).2=0→p3.2=0:=fun h=>iC h
 generalize h4:bo p3.2 2 0 a=p4 at e4 f4 y4
 have e5: ∀g,sK k p3.1 p4.1 (vN 1) (vN 0) p4.2 g=g (7,0,ByteArray.empty,(eM p4.2 p3.1 p4.1 (vN 1) (vN 0)).1.kids,(eM p4.2 p3.1 p4.1 (vN 1) (vN 0)).2):=
  fun g=>aft (S:=S) hk (fun h=>(f4 h).fm (by omega) (by omega)) (fun _=>fm_v1) (fun _=>fm_v0) g
 have f5:(eM p4.2 p3.1 p4.1 (vN 1) (vN 0)).2=0→Fd2 153 1809 (eM p4.2 p3.1 p4.1 (vN 1) (vN 0)).1:=fun h=>by
  have h0:=HZ h
  have:=Qd h
  rw [h0,HY] at this
  rw [h0]
  exact Cw (by omega) (by omega) (f3 (y4 h0)) (f4 h0) (kV (by omega) (by omega) (.inr rfl)) (kV (by omega) (by omega) (.inl rfl)) this
 have k5:(eM p4.2 p3.1 p4.1 (vN 1) (vN 0)).1= .mk 7 0 ByteArray.empty [] (eM p4.2 p3.1 p4.1 (vN 1) (vN 0)).1.kids []:=rfl
 have x5:(eM p4.2 p3.1 p4.1 (vN 1) (vN 0)).2=0→c=0:=fun h=>z3 (y4 (HZ h))
 generalize h5:eM p4.2 p3.1 p4.1 (vN 1) (vN 0)=p5 at e5 f5 k5 x5
 have e6: ∀g,sJ k (.mk 7 0 ByteArray.empty [] p5.1.kids []) p5.2 g=g (7,0,ByteArray.empty,(fM p5.2 p5.1).1.kids,(fM p5.2 p5.1).2):=fun g=>by
  rw [←k5];exact aff (S:=S) hk (fun h=>(f5 h).fm (by omega) (by omega)) g
 have hM:mc c t a=(aw 7 [aw 4 [t,p1.1],aw 4 [p2.1,(fM p5.2 p5.1).1]],(fM p5.2 p5.1).2):=by
  grind [mc]
 have k6:(fM p5.2 p5.1).1= .mk 7 0 ByteArray.empty [] (fM p5.2 p5.1).1.kids []:=rfl
 simp only [w_,Ou,ap hk.fu,aJ,EF hk hin (by simp),hc,oA t ht.1 _ ht.2.1,e1,e2,e3,e4,ck,mR,fN,Ag]
 have e5':=e5
 unfold vN at e5'
 simp only [e5',e6,←k6]
 refine Eq.trans (b:=eK k (mc c t a).1 (mc c t a).2 fun r=>ret (r.1,r.2.1)) (by rw [hM];rfl) ?_
 refine (EH hk (fun h=> ?_) ret).trans ?_
 ·have hz:c=0:=x5 (V8 (by rw [hM] at h;exact h))
  have:=Qd h
  subst hz
  rw [HU] at this
  exact (HS (by omega) (by omega) (ft rfl) (fa rfl) this).isIn hk (by omega) (by omega)
 grind [soM,HU,Yu]
end Go.Proofs.YtgajalidbabccaaGreatDoor
namespace Go.Proofs.YtgajalidbabccaaGreatDoor
open Go PI
set_option linter.unusedVariables false
set_option linter.unusedSimpArgs false
set_option maxRecDepth 20000
variable {S:Type} {k:Nat}
structure Gd (x:Except Int Tm):Prop where
 en: ∀e,x= .error e→0<e∧e≤1000
 kd: ∀t,x= .ok t→0≤t.kind
def zr (r:List Cl):Tm:= .mk 13 0 ByteArray.empty r [aw 10 [vN 0],vN 1,aw 9 [vN 0]] []
def nH:List Tm:=[aw 5 [vN 0],aw 5 [aw 8 [aw 8 [vN 0,aw 12 [vN 0]],aw 5 [aw 12 [aw 8 [zr [⟨1,0⟩],aw 12 [zr [⟨3,0⟩]]]]]]]]
theorem Zg (q:Nat) (ret:Int×Int×ByteArray×List Tm→Option S):xb (q+100) ret=ret (8,0,ByteArray.empty,nH):=by kernel_rfl
theorem Yz:bQ (aw 8 nH)=0:=by kernel_rfl
end Go.Proofs.YtgajalidbabccaaGreatDoor
namespace Go.Proofs.YtgajalidbabccaaGreatDoor
open Go PI
set_option linter.unusedVariables false
set_option linter.unusedSimpArgs false
set_option maxRecDepth 20000
variable {S:Type} {k:Nat}
section
variable {hd:Tm→(Tm→Option S)→Option S} {t:Tm}
end
def a7 (sys:List (Br Tm)):Tm:= .mk 15 0 ByteArray.empty [] [.mk 3 0 ByteArray.empty [] [] [],.mk 3 0 ByteArray.empty [] [] []] sys
theorem N6 (hk:Fu k) (sys:List (Br Tm)) (ret:Int×Int×ByteArray×List Tm×List (Br Tm)→Option S):oW k sys ret=ret (15,0,ByteArray.empty,[.mk 3 0 ByteArray.empty [] [] [],.mk 3 0 ByteArray.empty [] [] []],sys):=by
 simp_all [oW,OA,ck,mR,ap]
end Go.Proofs.YtgajalidbabccaaGreatDoor
namespace Go.Proofs.YtgajalidbabccaaGreatDoor
open Go PI
set_option linter.unusedVariables false
set_option linter.unusedSimpArgs false
set_option maxRecDepth 20000
variable {S:Type} {k:Nat}
def ak (b:Br Tm):Tm:=b.kids.headD ar
structure SyF (sys:List (Br Tm)):Prop where
 kid: ∀b∈sys,b.kids=[ak b]∧Fm (ak b)∧aE b.face∧b.face.length<1073741824
 len:sys.length≤20000
 siz:aA sys≤20000
theorem ky {sys:List (Br Tm)} (h:Fm (a7 sys)):SyF sys:=by
 obtain ⟨h1,h2,h3⟩:=ew h.2
 have hz:ao (a7 sys)=3+aA sys:=by rfl
 have hd:aM sys+1≤ai (a7 sys):=by grind [a7,ai]
 unfold a7 at h3
 rw [ay] at h3
 simp only [Bool.and_eq_true] at h3
 obtain ⟨_,ho,_,hS⟩:=h3
 have ho:(sys.all (aQ 15 24)&&decide (([]:List Cl).length=0))=true:=by
  grind [ca]
 simp only [Bool.and_eq_true] at ho
 have hb:=List.all_eq_true.1 ho.1
 rw [jD,List.all_eq_true] at hS
 have hk: ∀b∈sys,b.kids=[ak b]∧Fm (ak b)∧aE b.face∧b.face.length<1073741824:=by
  intro b hb'
  have h1':=hb b hb'
  unfold aQ at h1'
  simp only [Bool.and_eq_true,decide_eq_true_eq] at h1'
  have hl:b.kids.length=1:=by grind [dN]
  have hok:=h.1.br (by exact hb':b∈sys)
  match hb2:b.kids,hl with
  |[x],_=>
   have hx:ak b=x:=by grind [ak]
   have hmem:x∈b.kids:=by grind
   rw [hx]
   refine ⟨rfl,⟨hok.2 x hmem,md ?_ ?_ ?_⟩,hok.1.1,hok.1.2.1⟩
   ·have:=Cb hmem;have:=Hk hb';omega
   ·have:=ir hmem;have:=oD hb';omega
   ·have:=List.all_eq_true.1 (hS b hb') x hmem
    rw [←this]
    exact kI x (by omega) (by decide)
 have hlen: ∀l:List (Br Tm),(∀b∈l,b.kids=[ak b])→l.length≤aA l:=by
  intro l
  induction l<;>grind [aA,lA,au,km]
 exact ⟨hk,by grind,by omega⟩
def gG (line:Tm):List (Br Tm)→Except Int (List (Br Tm))
 |[]=> .ok []
 |b::r=>bE (g6 [⟨1,0⟩,⟨2,0⟩] line) fun u=>bE (gG line r) fun l=> .ok (.mk b.face [.mk 14 0 ByteArray.empty [⟨1,0⟩] [u,ak b] []]::l)
def eb (line a:Tm) (sys:List (Br Tm)):Except Int Tm:=bE (di 0 [⟨0,0⟩] line) fun l1=>bE (gG line sys) fun l=> .ok (.mk 15 0 ByteArray.empty [] [l1,aw 14 [line,a]] l)
theorem aeH:RF [⟨1,0⟩,⟨2,0⟩]:=by
 refine ⟨by rfl,fun c hc=> ?_⟩
 simp only [List.mem_cons,List.not_mem_nil,or_false] at hc
 rcases hc with rfl|rfl
 ·exact ⟨⟨by decide,by decide⟩,by decide,by decide⟩
 ·exact ⟨⟨by decide,by decide⟩,by decide,by decide⟩
theorem M7:RF [⟨0,0⟩]:=gq ⟨⟨by decide,by decide⟩,by decide,by decide⟩
theorem acK:aE [⟨1,0⟩]:=fun c hc=>by grind [acM]
theorem P8 {r:List Cl} {t y:Tm} (ht:Fm t) (h:di 0 r t= .ok y):OkT y∧ai y≤200∧ao y≤20000:=by
 obtain ⟨w1,w2,w3,w4⟩:=P9 h
 have h4:=w4 ht.ok ht.rows
 have:=ht.dep;have:=ht.siz
 grind
theorem V4 {line:Tm}: ∀ {r:List (Br Tm)} {e:Int},gG line r= .error e→0<e∧e≤1000:=by
 intro r
 induction r with
 |nil=>intro e h;cases h
 |cons b r ih=>
  intro e h
  rcases aW h with h|⟨_,_,h⟩<;>grind [aW,vA]
theorem G7 {line a:Tm} {sys:List (Br Tm)} {e:Int} (h:eb line a sys= .error e):0<e∧e≤1000:=by
 rcases aW h with h|⟨_,_,h⟩
 ·exact ve h
 rcases aW h with h|⟨_,_,h⟩
 ·exact V4 h
 simp_all
theorem V5 {line:Tm} (hl:Fm line): ∀ {r l:List (Br Tm)},(∀b∈r,b.kids=[ak b]∧Fm (ak b)∧aE b.face∧b.face.length<1073741824)→gG line r= .ok l→aU l∧aM l≤201∧aA l≤r.length*20001+aA r∧l.length=r.length:=by
 intro r
 induction r with
 |nil=>
  intro l _ h
  injection h with h;grind [aU,aM]
 |cons b r ih=>
  intro l hr h
  obtain ⟨u,h1,h⟩:=ae h
  obtain ⟨l',h2,h⟩:=ae h
  injection h with h;subst h
  obtain ⟨b1,b2,b3,b4⟩:=hr b (by simp)
  obtain ⟨i1,i2,i3,i4⟩:=ih (fun b hb=>hr b (by simp [hb])) h2
  obtain ⟨a1,a2,a3,a4⟩:=GP hl h1
  have:=b2.dep
  refine ⟨?_, ?_, ?_,by simp [i4]⟩
  ·rw [aU,dP,aL,aL,OkT,aL,aL,aL,aU]
   refine ⟨⟨⟨b3,b4,by simp⟩,⟨⟨by unfold aK;omega,by unfold aK;omega,by simp,acK,by simp,by simp,by simp⟩,⟨a1,b2.ok,trivial⟩,trivial⟩,trivial⟩,i1⟩
  all_goals grind [aM,eL,ax,ai,aA,au,ao,lA]
theorem G8 (hk:F3 k) {line a:Tm} {sys:List (Br Tm)} (hl:Fm line) (ha:Fm a) (hs:SyF sys) {t:Tm} (h:eb line a sys= .ok t):In k t∧0≤t.kind:=by
 obtain ⟨l1,h1,h⟩:=ae h
 obtain ⟨l,h2,h⟩:=ae h
 injection h with h;subst h
 obtain ⟨a1,a2,a3⟩:=P8 hl h1
 obtain ⟨i1,i2,i3,i4⟩:=V5 hl hs.kid h2
 have:=hs.len;have:=hs.siz;have:=hl.dep;have:=ha.dep;have:=hl.siz;have:=ha.siz
 have hm:sys.length*20001≤20000*20001:=Nat.mul_le_mul_right _ hs.len
 refine ⟨⟨?_,hk.fd ?_, ?_⟩,(by decide:(0:Int)≤15)⟩
 ·rw [OkT,aL,aL,aL]
  exact ⟨⟨by unfold aK;omega,by unfold aK;omega,by simp,fun c hc=>(by cases hc),by simp,by simp,by omega⟩,⟨a1,DF (by omega) (by simp) fun x hx=>by
   simp at hx
   rcases hx with rfl|rfl
   ·exact hl.ok
   ·exact ha.ok,trivial⟩,i1⟩
 ·grind [aw,ai,ax,aM]
 ·unfold aw;rw [ao,au,au,au,ao,au,au,au,aA];omega
theorem afk (hk:F3 k) {c:Int} {t:Tm} (h:c=0→Fm t) (ret:Tm×Int→Option S):xd k t c ret=ret (if c=0 then tE (di 0 [⟨0,0⟩] t) else (ar,c)):=by
 simp only [xd,Ox,ap hk.fu,dm,gZ,c_,nr,Ah,aJ]
 by_cases hc:c=0
 ·grind [af,EE,M7,rj]
 ·rw [decide_eq_false hc,Bool.not_false,al,if_neg hc];rfl
theorem C3 (hk:F3 k) (ret:Tm×Int→Option S) {line:Tm} {q:Int×Int×ByteArray×List Tm} {w:Tm} {c:Int} (hc:c≠0) (hw:w.sys.length<1073741824):
  ∀ (r p acc:List (Br Tm)) (m:Nat),w.sys=p++r→0<m→k_ k ret line q w m c acc (p.length:Int)=ret (ar,c):=by
 intro r p acc m h hm
 obtain ⟨m,rfl⟩: ∃j,m=j+1:=⟨m-1,by omega⟩
 cases r with
 |nil=>grind [k_,oN,af,aJ,ap,re]
 |cons x r=>
  obtain ⟨e1,e2,e3,e4⟩:=aV h (by omega)
  grind [k_,oN,al,dm,gZ,aJ,ap,re]
theorem aaI (hk:F3 k) (ret:Tm×Int→Option S) {line:Tm} (hl:Fm line) {q:Int×Int×ByteArray×List Tm} {w:Tm} (hw:w.sys.length<1073741824) (hs: ∀b∈w.sys,b.kids=[ak b]):
  ∀ (r p acc:List (Br Tm)) (m:Nat),w.sys=p++r→r.length<m→acc.length+r.length<1073741824→
   k_ k ret line q w m 0 acc (p.length:Int)=eE (gG line r) (fun l=>eK k (.mk q.1 q.2.1 q.2.2.1 [] q.2.2.2 (acc++l)) 0 fun z=>ret (z.1,z.2.1)) fun e=>ret (ar,e):=by
 intro r
 induction r with
 |nil=>
  intro p acc m h hm ha
  obtain ⟨m,rfl,hm'⟩:=av hm
  simp only [k_,oN,cD h,af,ap hk.fu,aJ,gG,bM,List.append_nil]
 |cons x r ih=>
  intro p acc m h hm ha
  obtain ⟨m,rfl,hm'⟩:=av hm
  obtain ⟨e1,e2,e3,e4⟩:=aV h (by omega)
  have hx:=hs x (by grind)
  have hg:aq x.kids 0=some (ak x):=by rw [hx];rfl
  have hat: ∀g:Tm×Int→Option S,lQ k line [⟨1,0⟩,⟨2,0⟩] 0 g=g (tE (g6 [⟨1,0⟩,⟨2,0⟩] line)):=fun g=>NH hk hl aeH g
  simp only [k_,oN,e1,al,e2,Option.bind_some,ap hk.fu,dm,gZ,c_,show decide ((0:Int)=0)=true from rfl,Bool.not_true,af,aJ,hat,hg,ck,mR]
  rw [bL (by grind),gG,bq]
  cases hx2:g6 [⟨1,0⟩,⟨2,0⟩] line with
  |error e=>
   have he:=vA hx2
   rw [e3]
   exact C3 hk ret (show e≠0 by omega) hw r (p++[x]) _ m e4 (by grind)
  |ok u=>
   rw [bM,bq,e3]
   refine (ih (p++[x]) (acc++[.mk x.face [.mk 14 0 ByteArray.empty [⟨1,0⟩] [u,ak x] []]]) m e4 hm' (by grind)).trans ?_
   grind [bM]
theorem aeX (hk:F3 k) {line a:Tm} {sys:List (Br Tm)} (hl:In k line) (ha:In k a) (hs:In k (a7 sys)) (ret:Tm×Int→Option S):w9 k line a sys ret=ret (tE (bY [line,a,a7 sys] (eb line a sys))):=by
 have hin: ∀x∈[line,a,a7 sys],In k x:=fun x hx=>by
  grind
 have hfm:cA [line,a,a7 sys]=0→ ∀x∈[line,a,a7 sys],Fm x:=fun h=>u9 (fun x hx=>(hin x hx).1) h
 have hsl:sys.length<1073741824:=hs.1.node.2.2.2.2.2.2
 simp only [w9,E8,ap hk.fu,aJ,N6 hk.fu]
 have hb: ∀g:Int→Option S,lP k [line,a,.mk 15 0 ByteArray.empty [] [.mk 3 0 ByteArray.empty [] [] [],.mk 3 0 ByteArray.empty [] [] []] sys] g=g (cA [line,a,a7 sys]):=fun g=>EF hk hin (by simp) g
 have hc: ∀g:Tm→Option S,du k (.mk 15 0 ByteArray.empty [] [.mk 3 0 ByteArray.empty [] [] [],.mk 3 0 ByteArray.empty [] [] []] sys) g=g (a7 sys):=fun g=>oA (a7 sys) hs.1 g hs.2.1
 simp only [hb,hc,oA line hl.1 _ hl.2.1,oA a ha.1 _ ha.2.1,afk hk (fun h=>hfm h line (by simp)),ck,mR]
 unfold bY
 by_cases h0:cA [line,a,a7 sys]=0
 ·have fl:=hfm h0 line (by simp)
  have fa:=hfm h0 a (by simp)
  have sy:=ky (hfm h0 (a7 sys) (by simp))
  simp only [h0,if_true]
  have hret:ret (tE (gJ (eb line a sys)))=eE (eb line a sys) (fun t=>eK k t 0 fun z=>ret (z.1,z.2.1)) fun e=>ret (ar,e):=by
   unfold gJ
   rw [gW _ ret,bq]
   refine cJ (fun t ht=> ?_) fun _ _=>rfl
   rw [←gW _ ret]
   exact ((EH hk (t:=t) (c:=0) (fun _=>(G8 hk fl fa sy ht).1) ret).trans rfl).symm
  rw [hret]
  unfold eb
  rw [bq]
  cases h1:di 0 [⟨0,0⟩] line with
  |error e=>
   have he:=ve h1
   exact C3 hk ret (w:=a7 sys) (show e≠0 by omega) hsl sys [] [] k rfl (by omega)
  |ok l1=>
   rw [bM,bq]
   refine (aaI hk ret fl (w:=a7 sys) hsl (fun b hb=>(sy.kid b hb).1) sys [] [] k rfl (by omega) (by grind)).trans ?_
   rfl
 ·simp only [if_neg h0]
  exact C3 hk ret (w:=a7 sys) h0 hsl sys [] [] k rfl (by omega)
end Go.Proofs.YtgajalidbabccaaGreatDoor
namespace Go.Proofs.YtgajalidbabccaaGreatDoor
open Go PI
set_option linter.unusedVariables false
set_option linter.unusedSimpArgs false
set_option maxRecDepth 20000
variable {S:Type} {k:Nat}
def gK:List (Br Tm)→Except Int (List (Br Tm))
 |[]=> .ok []
 |b::r=>bE (d5 (bA b.face 0 1)) fun f=>bE (g6 [⟨3,0⟩] (ak b)) fun u=>bE (gK r) fun l=> .ok (.mk f [u]::l)
def dp (t a:Tm) (sys:List (Br Tm)):Except Int Tm:=bE (aD 0 1 t) fun t'=>bE (aD 0 1 a) fun a'=>bE (gK sys) fun l=>bE (aD 0 2 a) fun a2=> .ok (.mk 15 0 ByteArray.empty [] [t',a'] (l++[.mk [⟨0,1⟩] [a2]]))
theorem YE: ∀ {r:List (Br Tm)} {e:Int},gK r= .error e→0<e∧e≤1000:=by
 intro r
 induction r with
 |nil=>intro e h;cases h
 |cons b r ih=>
  intro e h
  rcases aW h with h|⟨_,_,h⟩<;>grind [aW,Qe,tL,vA]
theorem tv {t a:Tm} {sys:List (Br Tm)} {e:Int} (h:dp t a sys= .error e):0<e∧e≤1000:=by
 rcases aW h with h|⟨_,_,h⟩
 ·exact bV h
 rcases aW h with h|⟨_,_,h⟩
 ·exact bV h
 rcases aW h with h|⟨_,_,h⟩
 ·exact YE h
 rcases aW h with h|⟨_,_,h⟩
 ·exact bV h
 simp_all
theorem YF: ∀ {r l:List (Br Tm)},(∀b∈r,b.kids=[ak b]∧Fm (ak b)∧aE b.face∧b.face.length<1073741824)→gK r= .ok l→aU l∧aM l≤201∧aA l≤r.length*20001∧l.length=r.length:=by
 intro r
 induction r with
 |nil=>
  intro l _ h
  injection h with h;grind [aU,aM,aA]
 |cons b r ih=>
  intro l hr h
  obtain ⟨f,h0,h⟩:=ae h
  obtain ⟨u,h1,h⟩:=ae h
  obtain ⟨l',h2,h⟩:=ae h
  injection h with h;subst h
  obtain ⟨b1,b2,b3,b4⟩:=hr b (by simp)
  obtain ⟨i1,i2,i3,i4⟩:=ih (fun b hb=>hr b (by simp [hb])) h2
  obtain ⟨a1,a2,a3,a4⟩:=GP b2 h1
  obtain ⟨g1,rfl⟩:=iz h0
  have hf:=i_ g1
  have:=hf.len
  refine ⟨?_, ?_, ?_,by simp [i4]⟩
  ·rw [aU,dP,aL,aL]
   exact ⟨⟨⟨hf.2,by omega,by simp⟩,a1,trivial⟩,i1⟩
  all_goals grind [aM,eL,ax,aA,d4,au]
theorem acI {l l':List (Br Tm)} (h:aU l) (h':aU l'):aU (l++l'):=by
 grind [Ku]
theorem Wf (l l':List (Br Tm)):aM (l++l')=max (aM l) (aM l'):=by
 induction l<;>grind [aM]
theorem ago (l l':List (Br Tm)):aA (l++l')=aA l+aA l':=by
 induction l<;>grind [aA]
theorem acJ:aE [⟨0,1⟩]:=fun c hc=>by grind [acL]
theorem tw (hk:F3 k) {t a:Tm} {sys:List (Br Tm)} (ht:Fm t) (ha:Fm a) (hs:SyF sys) {x:Tm} (h:dp t a sys= .ok x):In k x∧0≤x.kind:=by
 obtain ⟨t',h1,h⟩:=ae h
 obtain ⟨a',h2,h⟩:=ae h
 obtain ⟨l,h3,h⟩:=ae h
 obtain ⟨a2,h4,h⟩:=ae h
 injection h with h;subst h
 have f1:=dA (by omega) ht h1
 have f2:=dA (by omega) ha h2
 have f4:=dA (by omega) ha h4
 obtain ⟨i1,i2,i3,i4⟩:=YF hs.kid h3
 have:=hs.len;have:=f1.dep;have:=f2.dep;have:=f4.dep;have:=f1.siz;have:=f2.siz;have:=f4.siz
 have hm:sys.length*20001≤20000*20001:=Nat.mul_le_mul_right _ hs.len
 refine ⟨⟨?_,hk.fd ?_, ?_⟩,(by decide:(0:Int)≤15)⟩
 ·rw [OkT,aL,aL,aL]
  refine ⟨⟨by unfold aK;omega,by unfold aK;omega,by simp,fun c hc=>(by cases hc),by simp,by simp,by grind⟩,⟨f1.ok,f2.ok,trivial⟩,acI i1 ?_⟩
  rw [aU,aU,dP,aL,aL]
  exact ⟨⟨⟨acJ,by simp,by simp⟩,f4.ok,trivial⟩,trivial⟩
 all_goals grind [ai,ax,Wf,aM,eL,ao,au,ago,aA,d4]
theorem tG (hk:F3 k) (ret:Tm×Int→Option S) {a:Tm} {q:Int×Int×ByteArray×List Tm} {sys:List (Br Tm)} {c:Int} (hc:c≠0) (hsl:sys.length<1073741824):
  ∀ (r p acc:List (Br Tm)) (m:Nat),sys=p++r→0<m→acc.length<1073741824→ig k ret a q sys m c acc (p.length:Int)=ret (ar,c):=by
 intro r p acc m h hm ha
 obtain ⟨m,rfl⟩: ∃j,m=j+1:=⟨m-1,by omega⟩
 have hr: ∀ (b:Br Tm) (f:Unit→Option S),Option.bind (aX 1099511627776 acc.length [b].length) f=f ():=fun b f=>bL (by grind) f
 cases r with
 |nil=>grind [ig,oO,af,aJ,ap,EQ,re]
 |cons x r=>
  obtain ⟨e1,e2,e3,e4⟩:=aV h (by omega)
  grind [ig,oO,al,dm,gZ,aJ,ap,EQ,re]
theorem aa3 (hk:F3 k) (ret:Tm×Int→Option S) {a:Tm} (ha:Fm a) {q:Int×Int×ByteArray×List Tm} {sys:List (Br Tm)} (hsl:sys.length<1073741824) (hs: ∀b∈sys,b.kids=[ak b]∧Fm (ak b)∧aE b.face∧b.face.length<1073741824):
  ∀ (r p acc:List (Br Tm)) (m:Nat),sys=p++r→r.length<m→acc.length+r.length<1073741823→
   ig k ret a q sys m 0 acc (p.length:Int)=eE (bE (gK r) fun l=>bE (aD 0 2 a) fun a2=> .ok (l++[.mk [⟨0,1⟩] [a2]])) (fun l=>eK k (.mk q.1 q.2.1 q.2.2.1 [] q.2.2.2 (acc++l)) 0 fun z=>ret (z.1,z.2.1)) fun e=>ret (ar,e):=by
 intro r
 induction r with
 |nil=>
  intro p acc m h hm hacc
  obtain ⟨m,rfl,hm'⟩:=av hm
  have hr: ∀ (b:Br Tm) (f:Unit→Option S),Option.bind (aX 1099511627776 acc.length [b].length) f=f ():=fun b f=>bL (by grind) f
  have hup: ∀g:Tm×Int→Option S,de k a 0 2 0 g=g (tE (aD 0 2 a)):=fun g=>N5 hk ha (by omega) (by omega) g
  simp only [ig,oO,cD h,af,ap hk.fu,aJ,hup,hr,gK,aN]
  cases hu:aD 0 2 a with
  |error e=>
   have he:=bV hu
   show eK k _ e _=ret (ar,e)
   grind [re]
  |ok a2=>rfl
 |cons x r ih=>
  intro p acc m h hm hacc
  obtain ⟨m,rfl,hm'⟩:=av hm
  obtain ⟨e1,e2,e3,e4⟩:=aV h (by omega)
  obtain ⟨x1,x2,x3,x4⟩:=hs x (by grind)
  have hg:aq x.kids 0=some (ak x):=by rw [x1];rfl
  have hr: ∀ (b:Br Tm) (f:Unit→Option S),Option.bind (aX 1099511627776 acc.length [b].length) f=f ():=fun b f=>bL (by grind) f
  have hrow: ∀g:List Cl×Int→Option S,sL k x.face 0 g=g (bA x.face 0 1):=fun g=>afV hk x3 x4 g
  simp only [ig,oO,e1,al,e2,Option.bind_some,ap hk.fu,dm,gZ,c_,show decide ((0:Int)=0)=true from rfl,Bool.not_true,af,aJ,hrow,hg,hr]
  rw [gK,bq,bq]
  by_cases h1:(bA x.face 0 1).2=0
  ·rw [rq h1,bM,h1,NH hk x2 aeI,bq]
   cases h2:g6 [⟨3,0⟩] (ak x) with
   |error e=>
    have he:=vA h2
    rw [e3]
    exact tG hk ret (show e≠0 by omega) hsl r (p++[x]) _ m e4 (by grind) (by grind)
   |ok u=>
    rw [bM,e3]
    refine (ih (p++[x]) (acc++[.mk (bA x.face 0 1).1 [u]]) m e4 hm' (by grind)).trans ?_
    rw [bq,bq]
    refine cJ (fun l _=> ?_) fun _ _=>rfl
    grind [bq,bM]
  ·rw [vg h1,ae_ h1 hk,e3]
   exact tG hk ret h1 hsl r (p++[x]) _ m e4 (by grind) (by grind)
theorem ae2 (hk:F3 k) {t a:Tm} {sys:List (Br Tm)} (ht:In k t) (ha:In k a) (hs:In k (a7 sys)) (ret:Tm×Int→Option S):xa k t a sys ret=ret (tE (bY [t,a,a7 sys] (dp t a sys))):=by
 have hin: ∀x∈[t,a,a7 sys],In k x:=fun x hx=>by
  grind
 have hfm:cA [t,a,a7 sys]=0→ ∀x∈[t,a,a7 sys],Fm x:=fun h=>u9 (fun x hx=>(hin x hx).1) h
 have hsl:sys.length<1073741824:=hs.1.node.2.2.2.2.2.2
 have hb: ∀g:Int→Option S,lP k [t,a,.mk 15 0 ByteArray.empty [] [.mk 3 0 ByteArray.empty [] [] [],.mk 3 0 ByteArray.empty [] [] []] sys] g=g (cA [t,a,a7 sys]):=fun g=>EF hk hin (by simp) g
 simp only [xa,E9,ap hk.fu,aJ,N6 hk.fu,hb,ck,mR,jt hk (fun h=>hfm h t (by simp)) (show (0:Int)≤0∧(0:Int)≤1000000 by omega) (show (0:Int)≤1∧(1:Int)<9223372036854775808 by omega),
  jt hk (fun h=>hfm (iC h) a (by simp)) (show (0:Int)≤0∧(0:Int)≤1000000 by omega) (show (0:Int)≤1∧(1:Int)<9223372036854775808 by omega)]
 unfold bY
 have hfuel:sys.length<k:=by omega
 by_cases h0:cA [t,a,a7 sys]=0
 ·have fl:=hfm h0 t (by simp)
  have fa:=hfm h0 a (by simp)
  have sy:=ky (hfm h0 (a7 sys) (by simp))
  have hlen:=sy.len
  rw [h0,if_pos rfl,jz]
  have hret:ret (tE (gJ (dp t a sys)))=eE (dp t a sys) (fun t=>eK k t 0 fun z=>ret (z.1,z.2.1)) fun e=>ret (ar,e):=by
   unfold gJ
   rw [gW _ ret,bq]
   refine cJ (fun t ht=> ?_) fun _ _=>rfl
   rw [←gW _ ret]
   exact ((EH hk (t:=t) (c:=0) (fun _=>(tw hk fl fa sy ht).1) ret).trans rfl).symm
  rw [hret]
  unfold dp
  rw [bq]
  cases h1:aD 0 1 t with
  |error e=>
   have he:=bV h1
   show ig k ret a _ sys k (bo e 0 1 a).2 [] 0=ret (ar,e)
   rw [gA (show e≠0 by omega)]
   exact tG hk ret (show e≠0 by omega) hsl sys [] [] k rfl (by omega) (by simp)
  |ok t'=>
   rw [bM,bq]
   show ig k ret a (15,0,ByteArray.empty,[t',(bo 0 0 1 a).1]) sys k (bo 0 0 1 a).2 [] 0=_
   rw [jz]
   cases h2:aD 0 1 a with
   |error e=>
    have he:=bV h2
    exact tG hk ret (show e≠0 by omega) hsl sys [] [] k rfl (by omega) (by simp)
   |ok a'=>
    rw [bM]
    refine (aa3 hk ret fa hsl sy.kid sys [] [] k rfl hfuel (by grind)).trans ?_
    rw [bq,bq]
    refine cJ (fun l _=> ?_) fun _ _=>rfl
    rw [bq,bq]
    rfl
 ·rw [if_neg h0,gA h0]
  show ig k ret a _ sys k (bo (cA [t,a,a7 sys]) 0 1 a).2 [] 0=_
  rw [gA h0]
  exact tG hk ret h0 hsl sys [] [] k rfl (by omega) (by simp)
end Go.Proofs.YtgajalidbabccaaGreatDoor
namespace Go.Proofs.YtgajalidbabccaaGreatDoor
open Go PI
set_option linter.unusedVariables false
set_option linter.unusedSimpArgs false
set_option maxRecDepth 20000
variable {S:Type} {k:Nat}
def mM (c:Int) (x:Except Int Tm):Tm×Int:=if c=0 then tE x else (ar,c)
theorem cE (x:Except Int Tm):mM 0 x=tE x:=rfl
theorem cj {c:Int} (h:c≠0) (x:Except Int Tm):mM c x=(ar,c):=if_neg h
theorem kl (t:Tm) (e c:Int) (ret:Tm×Int→Option S):f_ k t e c ret=ret (if c=0 then (if e=0 then (t,0) else (ar,e)) else (ar,c)):=by
 simp only [f_,PO,aJ]
 by_cases hc:c=0
 ·subst hc
  rw [show ((0:Int)==0)=true from rfl,al,if_pos rfl]
  by_cases he:e=0
  ·subst he;rfl
  ·rw [eH he,Bool.not_false,al,if_neg he];rfl
 ·rw [eH hc,af,if_neg hc,Bool.not_false,al];rfl
theorem IP (x:Except Int Tm) (hx: ∀e,x= .error e→e≠0) (c:Int):(if c=0 then (if (tE x).2=0 then ((tE x).1,(0:Int)) else (ar,(tE x).2)) else (ar,c))=mM c x:=by
 unfold mM
 split
 ·cases x with
  |ok t=>rfl
  |error e=>rw [if_neg (show (tE (.error e)).2≠0 from hx e rfl)];rfl
 ·rfl
theorem oe {f:(Tm×Int→Option S)→Option S} {x:Except Int Tm} (c:Int) (hf:c=0→ ∀g,f g=g (tE x)) (hx: ∀e,x= .error e→e≠0) (ret:Tm×Int→Option S):
  (ab (!(c==0)) (ret (ar,c)) (f fun r=>ret (if c=0 then (if r.2=0 then (r.1,0) else (ar,r.2)) else (ar,c))))=ret (mM c x):=by
 by_cases hc:c=0
 ·subst hc
  rw [show (!((0:Int)==0))=false from rfl,af,hf rfl,←IP x hx 0]
 ·rw [eH hc,Bool.not_false,al,cj hc]
theorem uh {x:Except Int Tm} (h: ∀e,x= .error e→0<e∧e≤1000): ∀e,x= .error e→e≠0:=fun e he=>by have:=h e he;omega
theorem ahg {a b:Int} {t:Tm}: ∀e,oH a b t= .error e→0<e∧e≤1000:=fun e h=>tx (fun e h=>bV h) h
theorem Ho {a b:Int} {t:Tm}: ∀e,lZ a b t= .error e→0<e∧e≤1000:=fun e h=>tx (fun e h=>n8 t h) h
theorem agZ {i:Int} {r:List Cl} {t:Tm}: ∀e,rp i r t= .error e→0<e∧e≤1000:=fun e h=>tx (fun e h=>ve h) h
theorem afK (hk:F3 k) {t:Tm} {r:List Cl} {c:Int} (ht:c=0→In k t) (hr:RF r) (ret:Tm×Int→Option S):yh k t r c ret=ret (mM c (rp 0 r t)):=by
 simp only [yh,PM,ap hk.fu,cY,jy,aJ,kl]
 exact oe c (fun h g=>ae7 hk (ht h) (i:=0) (by decide) hr g) (uh agZ) ret
theorem afG (hk:F3 k) {t:Tm} {c:Int} (ht:c=0→In k t) (ret:Tm×Int→Option S):yc k t c ret=ret (mM c (rp 0 [⟨0,0⟩] t)):=by
 simp only [yc,PF,ap hk.fu,nr,Ah,aJ,afK hk ht M7]
theorem afH (hk:F3 k) {t:Tm} {b c:Int} (ht:c=0→In k t) (hb:0≤b∧b<1000) (ret:Tm×Int→Option S):ye k t b c ret=ret (mM c (lZ 1 b t)):=by
 simp only [ye,PJ,ap hk.fu,cY,jy,aJ,kl]
 exact oe c (fun h g=>Ny hk (ht h) (f:=1) (b:=b) (by decide) (by omega) g) (uh Ho) ret
theorem EO (hk:F3 k) {t:Tm} {a b c:Int} (ht:c=0→In k t) (ha:0≤a∧a<1000) (hb:0≤b∧b<1000) (ret:Tm×Int→Option S):eu k t a b c ret=ret (mM c (oH a b t)):=by
 simp only [eu,PN,ap hk.fu,cY,jy,aJ,kl]
 exact oe c (fun h g=>aeW hk (ht h) (vb:=a) (db:=b) (by omega) (by omega) g) (uh ahg) ret
theorem afJ (hk:F3 k) {f:List Cl} {b c:Int} (hf:aE f) (hl:f.length<1073741824) (hb:0≤b∧b<1000) (ret:List Cl×Int→Option S):yg k f b c ret=ret (if c=0 then bA f 0 b else ([],c)):=by
 simp only [yg,PL,ap hk.fu,cY,jy,aJ,kl]
 by_cases hc:c=0
 ·subst hc
  rw [show (!((0:Int)==0))=false from rfl,af,rf hk.fu hf hl (by unfold aK;omega) (by unfold aK;omega),if_pos rfl,if_pos rfl]
  split
  ·rename_i h;rw [show bA f 0 b=((bA f 0 b).1,(bA f 0 b).2) from rfl,h]
  ·rfl
 ·rw [eH hc,Bool.not_false,al,if_neg hc]
def dM (c:Int) (t:Tm):Tm×Int:=if c=0 then (if bQ t=0 then (t,0) else (ar,bQ t)) else (ar,c)
def lE (x:Except Int Tm):Tm×Bool×Int:=match x with
 | .ok t=>if bQ t=0 then (t,true,0) else (ar,false,bQ t)
 | .error e=>(ar,false,e)
theorem uV (hk:F3 k) {t:Tm} {c:Int} (ht:In k t) (ret:Tm×Bool×Int×Int→Option S):f8 k t c ret=ret ((dM c t).1,(dM c t).2==0,(dM c t).2,(dM c t).2):=by
 simp only [f8,PE,ap hk.fu,cY,jy,aJ,kl,fX ht.1 ht.2.1 ht.dep]
 have:OkT (dM c t).1∧Fd k (ai (dM c t).1):=by
  unfold dM
  split
  ·split
   ·exact ⟨ht.1,ht.2.1⟩
   ·exact ⟨(qG hk).1,(qG hk).2.1⟩
  ·exact ⟨(qG hk).1,(qG hk).2.1⟩
 exact oA (dM c t).1 this.1 _ this.2
theorem He {t:Tm} (g:Tm×Bool×Int→Option S):g ((dM 0 t).1,(dM 0 t).2==0,(dM 0 t).2)=g (lE (.ok t)):=by
 unfold dM lE
 simp only [if_true]
 split
 ·rfl
 ·rename_i h;rw [eH h]
theorem BL {c:Int} (h:c≠0) {t:Tm} (g:Tm×Bool×Int→Option S):g ((dM c t).1,(dM c t).2==0,(dM c t).2)=g (lE (.error c)):=by
 unfold dM lE
 rw [if_neg h,eH h]
end Go.Proofs.YtgajalidbabccaaGreatDoor
namespace Go.Proofs.YtgajalidbabccaaGreatDoor
open Go PI
set_option linter.unusedVariables false
set_option linter.unusedSimpArgs false
set_option maxRecDepth 20000
abbrev En:=Nat→Prop
def hp (c:Cl) (j:Nat):Prop:=c.pos.toNat.testBit j=true
def hn (c:Cl) (j:Nat):Prop:=c.neg.toNat.testBit j=true
theorem Zd (a b:Cl) (j:Nat):hp (eZ a b) j↔hp a j∨hp b j:=by
 simp_all [hp,eZ,jh]
theorem Y_ (a b:Cl) (j:Nat):hn (eZ a b) j↔hn a j∨hn b j:=by
 simp_all [hn,eZ,jh]
end Go.Proofs.YtgajalidbabccaaGreatDoor
namespace Go.Proofs.YtgajalidbabccaaGreatDoor
open Go PI
set_option linter.unusedVariables false
set_option linter.unusedSimpArgs false
set_option maxRecDepth 20000
theorem Ej {c:Cl} (h:RC c) {j:Nat} (hj:hp c j):j<24:=nh (by have:=h.1;omega) hj
theorem Ei {c:Cl} (h:RC c) {j:Nat} (hj:hn c j):j<24:=nh (by have:=h.2;omega) hj
theorem QG {s:Int} {n:Nat} (hn:n<24) (j:Nat):(fI s (n:Int)).toNat.testBit j=(s.toNat.testBit j&&decide (j<24)&& !decide (j=n)):=by
 unfold fI
 rw [if_pos (by omega),Int.toNat_natCast,Int.toNat_natCast,qF,Nat.testBit_and,lL,Nat.testBit_two_pow]
 grind
def g5 (P:En) (n:Nat) (A:Prop):En:=fun j=>(j≠n∧P j)∨(j=n∧A)
theorem Ze (n:Nat) (hn24:n<24) (j:Nat): ¬hp (nl n) j:=by
 unfold hp nl;simp
theorem Za (n:Nat) (hn24:n<24) (j:Nat):hn (nl n) j↔j=n:=by
 grind [hn,nl,Qz]
theorem Zf (n:Nat) (hn24:n<24) (j:Nat):hp (pl n) j↔j=n:=by
 grind [hp,pl,Qz]
theorem Zb (n:Nat) (hn24:n<24) (j:Nat): ¬hn (pl n) j:=by
 unfold hn pl;simp
end Go.Proofs.YtgajalidbabccaaGreatDoor
namespace Go.Proofs.YtgajalidbabccaaGreatDoor
open Go PI
set_option linter.unusedVariables false
set_option linter.unusedSimpArgs false
set_option maxRecDepth 20000
def nz (n x:Nat):Nat:=if n<x then x-1 else x
theorem yq {s:Int} {n:Nat} (hn24:n<24) (h:0≤s∧s<16777216) (y:Nat):(l8 s (n:Int)).toNat.testBit y=true↔ ∃x,s.toNat.testBit x=true∧x≠n∧nz n x=y:=by
 have hs:s.toNat<16777216:=by omega
 have hM:s.toNat&&&M24=s.toNat:=by
  apply Nat.eq_of_testBit_eq
  grind [lL,nh]
 unfold l8
 rw [Int.toNat_natCast]
 unfold l7
 rw [if_pos (by omega),Int.toNat_natCast,hM,Nat.testBit_or,Bt,Nat.testBit_mul_two_pow,Nat.testBit_div_two_pow,Bool.or_eq_true,Bool.and_eq_true,Bool.and_eq_true,decide_eq_true_eq,decide_eq_true_eq]
 unfold nz
 grind
theorem IZ {s:Int} {n b:Nat} (h:0≤s∧s<16777216) (h0:(c7 s n b).2=0) (y:Nat):(c7 s n b).1.toNat.testBit y=true↔ ∃x,s.toNat.testBit x=true∧fG n b x=y:=by
 have hs:s.toNat<16777216:=by omega
 unfold c7 at h0 ⊢
 rw [if_neg (by omega)] at h0 ⊢
 simp only [Int.toNat_natCast] at h0 ⊢
 rw [IX] at h0 ⊢
 split at h0<;>grind [fG,Bu,E0,mem_bitsN,nh]
theorem abS {c:Cl} {n b:Nat} (h0:(dY c n b).2=0):(c7 c.pos n b).2=0∧(c7 c.neg n b).2=0∧(dY c n b).1=⟨(c7 c.pos n b).1,(c7 c.neg n b).1⟩:=by
 grind [dY]
theorem YO {n b:Nat}: ∀ {l h:List Cl},(ci (eY n b) h l).2=0→(ci (eY n b) h l).1=h++l.map (fun c=>(dY c n b).1)∧ ∀c∈l,(dY c n b).2=0:=by
 intro l
 induction l<;>grind [ci,eY]
end Go.Proofs.YtgajalidbabccaaGreatDoor
namespace Go.Proofs.YtgajalidbabccaaGreatDoor
open Go PI
set_option linter.unusedVariables false
set_option linter.unusedSimpArgs false
set_option maxRecDepth 20000
def RX (fa:Bool) (f:List Cl):Prop:=RF f∧(fa=true→ ∀c∈f,dc c=false)
def uw (fa:Bool) (f:List Cl) (i:Int) (r:List Cl):List Cl×Int:=if fa then io f i r else iq f i r
theorem adN {fa:Bool} {f r:List Cl} {i:Int} (hf:aE f) (hr:aE r) (h:(uw fa f i r).2=0):RX fa (uw fa f i r).1:=by
 unfold uw at h ⊢
 cases fa
 ·exact ⟨KN hr h,fun h=>by cases h⟩
 ·have:=KM hf hr h
  exact ⟨this.1,fun _=>this.2⟩
def qx (f:List Cl) (n:Nat):Prop:= ∀c∈f,¬hp c n∧ ¬hn c n
def same (n:Nat) (P P':En):Prop:= ∀j,j≠n→(P j↔P' j)
theorem same.symm {n:Nat} {P P':En} (h:same n P P'):same n P' P:=fun j hj=>(h j hj).symm
def Zu (P:En) (n:Nat):En:=fun x=>x≠n∧P (nz n x)
theorem ahq {f:List Cl} {n:Nat}:mV f n=true↔ ¬qx f n:=by
 grind [mV,qx,hp,hn]
theorem has_dims {f:List Cl} {n:Nat}:eN (jM f) (n:Int)=true↔n<24∧ ¬qx f n:=by
 grind [eN,jM,Int.toNat_natCast,yp,ahq]
end Go.Proofs.YtgajalidbabccaaGreatDoor
namespace Go.Proofs.YtgajalidbabccaaGreatDoor
open Go PI
set_option linter.unusedVariables false
set_option linter.unusedSimpArgs false
set_option maxRecDepth 20000
theorem Hb {f:List Cl} (hf:RF f) {i:Int} (hi:24≤i):bn i f=f:=by
 have: ∀c∈f,iN i c=c:=fun c hc=>by
  obtain ⟨p,q⟩:=c
  obtain ⟨h1,h2⟩:=hf.rc hc
  grind [iN,l8,l7,UZ]
 unfold bn
 rw [show f.map (iN i)=f from (List.map_congr_left this).trans (List.map_id f),hf.1]
theorem abK {l:List Cl}:(bX l).1.length≤l.length:=by
 grind [bX,Ke]
end Go.Proofs.YtgajalidbabccaaGreatDoor
namespace Go.Proofs.YtgajalidbabccaaGreatDoor
open Go PI
set_option linter.unusedVariables false
set_option linter.unusedSimpArgs false
set_option maxRecDepth 20000
theorem agm (j:Nat):hp ⟨6,0⟩ j↔j=1∨j=2:=by
 show (6:Nat).testBit j=true↔_
 grind [Nat]
theorem vl (p:Int) (j:Nat): ¬hn ⟨p,0⟩ j:=by
 grind [hn]
theorem abL {f:List Cl} {i b:Int}:(bA f i b).1.length≤f.length:=by
 unfold bA
 split
 ·split
  ·refine Nat.le_trans abK ?_
   have:=(Cy (i:=i) (b:=b) (r:=f) (h:=[]) (fun c hc=>by cases hc)).2
   grind
  ·simp
 ·simp
end Go.Proofs.YtgajalidbabccaaGreatDoor
namespace Go.Proofs.YtgajalidbabccaaGreatDoor
open Go PI
set_option linter.unusedVariables false
set_option linter.unusedSimpArgs false
set_option maxRecDepth 20000
abbrev UN:=Bool→Int→List Cl→List Cl→Prop
abbrev UM:=Int→List Cl→List Cl→Prop
mutual
def ng (pl:Bool):Tm→Prop
 | .mk kd n nm r ks sys=>RX (decide (kd=14)) r∧nf pl ks∧rF pl sys
def nf (pl:Bool):List Tm→Prop
 |[]=>True
 |t::l=>ng pl t∧nf pl l
def rF (pl:Bool):List (Br Tm)→Prop
 |[]=>True
 |b::l=>GJ pl b∧rF pl l
def GJ (pl:Bool):Br Tm→Prop
 | .mk f ks=>(RX true f∧(pl=true→f≠[]))∧nf pl ks
end
section
variable {pl:Bool} {c vb db kd:Int} {fo fa:d6} {Ro Ro':UN} {Rb Rb':UM}
end
theorem zg {d:Int} (h:0≤d): ∃n:Nat,d=n:=⟨d.toNat,by omega⟩
theorem YL {r:List Cl} {fa:Bool} {d:Int} {f:List Cl} (h:dK 0 r fa d []= .ok f):f=[]:=by
 grind [H4]
end Go.Proofs.YtgajalidbabccaaGreatDoor
namespace Go.Proofs.YtgajalidbabccaaGreatDoor
open Go PI
set_option linter.unusedVariables false
set_option linter.unusedSimpArgs false
set_option maxRecDepth 20000
variable {S:Type} {k:Nat}
def DC (sys:List (Br Tm)):Bool:=sys.any fun b=>(b.face.length:Int)==0
mutual
def om:Tm→Bool
 | .mk _ _ _ _ ks sys=> !DC sys&&(oq ks&&zn sys)
def oq:List Tm→Bool
 |[]=>true
 |t::l=>om t&&oq l
def zn:List (Br Tm)→Bool
 |[]=>true
 |b::l=>KD b&&zn l
def KD:Br Tm→Bool
 | .mk _ ks=>oq ks
end
theorem Nx {f:List Cl} (hf:aE f) (h:cW f=true):RX true f:=by
 have:=(kg hf).1 h
 exact ⟨this.1,fun _=>this.2⟩
theorem DK {vars dims kd n nm r ks sys} (hok:OkT (.mk kd n nm r ks sys)) (h:ca vars dims (.mk kd n nm r ks sys)=true):RX (decide (kd=14)) r∧ ∀b∈sys,RX true b.face:=by
 obtain ⟨o1,o2,o3,o4,o5,o6,o7⟩:=hok.node
 unfold ca at h
 simp only [Bool.and_eq_true,decide_eq_true_eq] at h
 obtain ⟨⟨a1,a2,a3,a4⟩,a5⟩:=h
 have r0:r.length=0→RX (decide (kd=14)) r:=fun h=>by
  have:=List.length_eq_zero_iff.1 h;subst this;exact ⟨uM,fun _ c hc=>by cases hc⟩
 have nosys:dN kd=0→ ∀b∈sys,RX true b.face:=fun h=>by
  grind
 split at a5
 ·rename_i c
  simp only [Bool.and_eq_true,decide_eq_true_eq] at a5
  exact ⟨r0 a5.1,nosys (by subst c;decide)⟩
 split at a5
 ·rename_i c
  simp only [Bool.and_eq_true,decide_eq_true_eq] at a5
  exact ⟨r0 a5.1,nosys (by subst c;decide)⟩
 split at a5
 ·rename_i c
  rw [Bool.and_eq_true] at a5
  exact ⟨⟨(jr o4).1 a5.1,fun h=>by grind⟩,nosys (by rcases c with rfl|rfl|rfl<;>decide)⟩
 split at a5
 ·rename_i c
  rw [Bool.and_eq_true] at a5
  subst c
  exact ⟨Nx o4 a5.1,nosys (by decide)⟩
 ·simp only [Bool.and_eq_true,decide_eq_true_eq] at a5
  refine ⟨r0 a5.2,fun b hb=> ?_⟩
  have:=List.all_eq_true.1 a5.1 b hb
  unfold aQ at this
  simp only [Bool.and_eq_true] at this
  exact Nx (hok.br hb).1.1 this.2.1
theorem UW {bd pl:Bool} (t:Tm): ∀ {vars dims:Int},OkT t→ay bd vars dims t=true→(pl=true→om t=true)→ng pl t:=by
 induction t using dr with
 |h kd n nm r ks sys ih1 ih2=>
  intro vars dims hok h hp
  rw [ay,Bool.and_eq_true,Bool.and_eq_true,Bool.and_eq_true] at h
  obtain ⟨_,a,b,c⟩:=h
  obtain ⟨hr,hb⟩:=DK hok a
  have hok':=hok
  rw [OkT] at hok'
  obtain ⟨_,ok,os⟩:=hok'
  rw [om] at hp
  simp only [Bool.and_eq_true,Bool.not_eq_true'] at hp
  have hk: ∀ {l:List Tm} {i:Nat},(∀x∈l,∀ {vars dims:Int},OkT x→ay bd vars dims x=true→(pl=true→om x=true)→ng pl x)→aL l→aY bd vars dims kd i l=true→(pl=true→oq l=true)→nf pl l:=by
   intro l
   induction l<;>grind [aY,nf,oq,aL]
  have hm: ∀ {l:List Tm},(∀x∈l,∀ {vars dims:Int},OkT x→ay bd vars dims x=true→(pl=true→om x=true)→ng pl x)→aL l→a8 bd vars dims kd l=true→(pl=true→oq l=true)→nf pl l:=by
   intro l
   induction l<;>grind [a8,nf,oq,aL]
  have hs: ∀ {l:List (Br Tm)},(∀b∈l,∀x∈b.kids,∀ {vars dims:Int},OkT x→ay bd vars dims x=true→(pl=true→om x=true)→ng pl x)→aU l→(∀b∈l,RX true b.face)→aI bd vars dims kd l=true→(pl=true→DC l=false∧zn l=true)→rF pl l:=by
   intro l
   induction l with
   |nil=>grind [rF]
   |cons b l ih=>
    intro h1 h2 h3 h4 h5
    obtain ⟨f,ks'⟩:=b
    rw [aU] at h2
    rw [dP] at h2
    rw [aI,cX,Bool.and_eq_true] at h4
    rw [DC,List.any_cons,Bool.or_eq_false_iff,zn,KD,Bool.and_eq_true] at h5
    rw [rF,GJ]
    refine ⟨⟨⟨h3 ⟨f,ks'⟩ (by simp),fun e he=> ?_⟩,hm (h1 ⟨f,ks'⟩ (by simp)) h2.1.2 h4.1 fun e=>(h5 e).2.1⟩,ih (fun b hb=>h1 b (by simp [hb])) h2.2 (fun b hb=>h3 b (by simp [hb])) h4.2 fun e=>⟨(h5 e).1.2,(h5 e).2.2⟩⟩
    grind
  grind [ng]
theorem Fm.pl {t:Tm} {pl:Bool} (h:Fm t) (hp:pl=true→om t=true):ng pl t:=by
 have:=h.2
 unfold bQ at this
 split at this
 ·simp_all
 split at this
 ·simp_all
 split at this
 ·rename_i h3;exact UW t h.1 h3 hp
 omega
end Go.Proofs.YtgajalidbabccaaGreatDoor
namespace Go.Proofs.YtgajalidbabccaaGreatDoor
open Go PI
set_option linter.unusedVariables false
set_option linter.unusedSimpArgs false
set_option maxRecDepth 20000
variable {S:Type} {k:Nat}
theorem UT {kd d:Int}: ∀ {l:List Tm} {i:Nat} {x:Tm},24≤d→aY false (-1) d kd i l=true→x∈l→ay false (-1) 24 x=true:=by
 intro l
 induction l with
 |nil=>intro i x _ _ h;cases h
 |cons t l ih=>
  intro i x hd h hx
  rw [aY,Bool.and_eq_true] at h
  rcases List.mem_cons.1 hx with rfl|hx
  ·have:=h.1
   rw [vi,kI x (by have:=eo kd i;omega) (Int.le_refl 24)] at this;exact this
  ·exact ih hd h.2 hx
theorem Fm.kid {t x:Tm} (h:Fm t) (hx:x∈t.kids):Fm x:=by
 obtain ⟨h1,h2,h3⟩:=ew h.2
 have hd:=dv hx
 have hs:ao x≤ao t:=by have:=ju t;have:=ir hx;omega
 refine ⟨h.1.ki hx,md (by omega) (by omega) ?_⟩
 obtain ⟨kd,n,nm,r,ks,sys⟩:=t
 rw [ay] at h3
 simp only [Bool.false_and,Bool.not_false,Bool.true_and,Bool.and_eq_true] at h3
 exact UT (Int.le_refl 24) h3.2.1 hx
theorem Fm.brk {t x:Tm} {b:Br Tm} (h:Fm t) (hb:b∈t.sys) (hx:x∈b.kids):Fm x:=by
 obtain ⟨h1,h2,h3⟩:=ew h.2
 have hd:=dJ hb hx
 have hs:ao x≤ao t:=by have:=ju t;have:=oD hb;have:=ir hx;omega
 refine ⟨(h.1.bi hb).2 x hx,md (by omega) (by omega) ?_⟩
 obtain ⟨kd,n,nm,r,ks,sys⟩:=t
 rw [ay] at h3
 simp only [Bool.false_and,Bool.not_false,Bool.true_and,Bool.and_eq_true] at h3
 have:=h3.2.2
 rw [jD,List.all_eq_true] at this
 have:=List.all_eq_true.1 (this b hb) x hx
 rw [kI x (by have:=eA kd;omega) (Int.le_refl 24)] at this;exact this
theorem Fm.own {t:Tm} (h:Fm t):ca (-1) 24 t=true:=by
 have h3:=(ew h.2).2.2
 cases t
 rw [ay] at h3
 simp only [Bool.false_and,Bool.not_false,Bool.true_and,Bool.and_eq_true] at h3
 exact h3.1
theorem Fm.nk {t:Tm} (h:Fm t):fT t.kind=t.kids.length:=by
 have:=h.own
 cases t
 unfold ca at this
 simp only [Bool.and_eq_true,decide_eq_true_eq] at this
 exact this.1.1
theorem Fm.n0 {t:Tm} (h:Fm t) (hk:t.kind≠1):t.n=0:=by
 have:=h.own
 cases t
 unfold ca at this
 simp only [Bool.and_eq_true,decide_eq_true_eq] at this
 exact this.1.2.1.resolve_left hk
theorem U6 {b:ByteArray} (h:b.size=0):b=ByteArray.empty:=by
 obtain ⟨⟨l⟩⟩:=b
 cases l with
 |nil=>rfl
 |cons c l=>cases h
theorem Fm.nm0 {t:Tm} (h:Fm t) (hk:t.kind≠2):t.name=ByteArray.empty:=by
 have:=h.own
 cases t
 unfold ca at this
 simp only [Bool.and_eq_true,decide_eq_true_eq] at this
 exact U6 (this.1.2.2.1.resolve_left hk)
theorem Fm.r14 {t:Tm} (h:Fm t) (hk:t.kind=14):RX true t.r:=by
 have:=DK (kd:=t.kind) (n:=t.n) (nm:=t.name) (r:=t.r) (ks:=t.kids) (sys:=t.sys) (by cases t;exact h.1) (by have:=h.own;cases t;exact this)
 have h1:=this.1
 rw [hk] at h1;exact h1
theorem Fm.face {t:Tm} {b:Br Tm} (h:Fm t) (hb:b∈t.sys):RX true b.face:=by
 have:=DK (kd:=t.kind) (n:=t.n) (nm:=t.name) (r:=t.r) (ks:=t.kids) (sys:=t.sys) (by cases t;exact h.1) (by have:=h.own;cases t;exact this)
 exact this.2 b hb
theorem gL {α:Type} {l:List α} {n:Nat} {i:Int} (hi:i=n) {x:α} (h:l[n]? =some x):aq l i=some x:=by subst hi;rw [Ib];exact h
end Go.Proofs.YtgajalidbabccaaGreatDoor
namespace Go.Proofs.YtgajalidbabccaaGreatDoor
open Go PI
set_option linter.unusedVariables false
set_option linter.unusedSimpArgs false
set_option maxRecDepth 20000
variable {S:Type} {k:Nat}
theorem G5 (n:Int) (b:Br Tm) (l:List (Br Tm)):dT n (b::l)=eJ n b.kids+dT n l:=by cases b;rw [dT,BF]
theorem wX (n:Int) (t:Tm):ct n t=(if t.kind=1∧t.n=n then 1 else 0)+(ep n t.kind 0 t.kids+dT n t.sys):=by cases t;rw [ct];rfl
theorem V0 {kd:Int}: ∀ {l:List Tm} {i:Nat} {n:Int},(∀x∈l,∀n,ct n x≤ao x)→ep n kd i l≤au l:=by
 intro l
 induction l with
 |nil=>intro i n _;rw [ep,au];omega
 |cons x l ih=>intro i n h;rw [ep,au];have:=h x (by simp) (n+be kd i);have:=ih (i:=i+1) (n:=n) fun x hx=>h x (by simp [hx]);omega
theorem V1: ∀ {l:List Tm} {n:Int},(∀x∈l,∀n,ct n x≤ao x)→eJ n l≤au l:=by
 intro l
 induction l with
 |nil=>intro n _;rw [eJ,au];omega
 |cons x l ih=>intro n h;rw [eJ,au];have:=h x (by simp) n;have:=ih (n:=n) fun x hx=>h x (by simp [hx]);omega
theorem V2: ∀ {l:List (Br Tm)} {n:Int},(∀b∈l,∀x∈b.kids,∀n,ct n x≤ao x)→dT n l≤aA l:=by
 intro l
 induction l with
 |nil=>intro n _;rw [dT,aA];omega
 |cons b l ih=>intro n h;rw [G5,aA,lA];have:=V1 (n:=n) (h b (by simp));have:=ih (n:=n) fun x hx=>h x (by simp [hx]);omega
theorem G6 (t:Tm): ∀n,ct n t≤ao t:=by
 induction t using eS with
 |h t ih1 ih2=>
  intro n
  rw [wX,Ab]
  have:=V0 (kd:=t.kind) (i:=0) (n:=n) ih1
  have:=V2 (n:=n) ih2
  split<;>omega
theorem Fm.no_sys {t:Tm} (h:Fm t) (hk:dN t.kind=0):t.sys=[]:=by
 have:=h.own
 cases t
 unfold ca at this
 simp only [Bool.and_eq_true,decide_eq_true_eq] at this
 exact List.length_eq_zero_iff.1 (this.1.2.2.2 hk)
theorem Fm.leaf {t:Tm} (h:Fm t) (hk:t.kind=1):t.kids=[]∧t.sys=[]:=by
 have hn:=h.nk
 rw [hk] at hn
 refine ⟨List.length_eq_zero_iff.1 (by have:fT 1=0:=rfl;omega),h.no_sys (by rw [hk];rfl)⟩
section
variable {hd:Tm→Int→(Int→Option S)→Option S} {t:Tm} {n:Int}
theorem aaH (hk:Fu k) (ret:Int→Option S) (rec2:Int→Int→Option S) {v:Int} {x:Br Tm} (hQ: ∀y∈x.kids,∀g,hd y n g=g ((ct n y:Nat):Int)) (hl:x.kids.length<1073741824):
  ∀ (r p:List Tm) (m a:Nat),x.kids=p++r→r.length<m→a+eJ n r<4611686018427387904→nS hd k ret rec2 n t v x m (a:Int) (p.length:Int)=rec2 (IntKind.wrap .i64 (v+1)) ((a+eJ n r:Nat):Int):=by
 intro r
 induction r with
 |nil=>grind [av,eJ,nS,ww,af]
 |cons y r ih=>
  intro p m a h hm ha
  obtain ⟨m,rfl,hm'⟩:=av hm
  obtain ⟨e1,e2,e3,e4⟩:=aV h (by omega)
  have hy:=hQ y (by grind)
  have hz:a+eJ n (y::r)=(a+ct n y)+eJ n r:=by rw [eJ];omega
  rw [hz] at ha ⊢
  have hw:IntKind.wrap .i64 ((a:Int)+((ct n y:Nat):Int))=((a+ct n y:Nat):Int):=by grind [bJ]
  simp only [nS,ww,e1,al,e2,Option.bind_some,aJ,hy,e3,hw,ih (p++[y]) m (a+ct n y) e4 hm' ha]
theorem aaG (hk:Fu k) (ret:Int→Option S) (hQ: ∀b∈t.sys,∀y∈b.kids,∀g,hd y n g=g ((ct n y:Nat):Int)) (hl:t.sys.length<1073741824) (hl': ∀b∈t.sys,b.kids.length<1073741824):
  ∀ (r p:List (Br Tm)) (m a:Nat),t.sys=p++r→r.length<m→a+dT n r<4611686018427387904→lc hd k ret n t m (p.length:Int) (a:Int)=ret ((a+dT n r:Nat):Int):=by
 intro r
 induction r with
 |nil=>grind [av,dT,lc,rR,af]
 |cons x r ih=>
  intro p m a h hm ha
  obtain ⟨m,rfl,hm'⟩:=av hm
  obtain ⟨e1,e2,e3,e4⟩:=aV h (by omega)
  have hx:x∈t.sys:=by grind
  have hlx:=hl' x hx
  have hz:a+dT n (x::r)=(a+eJ n x.kids)+dT n r:=by rw [G5];omega
  rw [hz] at ha ⊢
  have:=aaH (t:=t) (n:=n) (v:=(p.length:Int)) hk ret (lc hd k ret n t m) (hQ x hx) hlx x.kids [] k a rfl (by have:=hk;omega) (by omega)
  simp only [lc,rR,e1,al,e2,Option.bind_some]
  refine Eq.trans this ?_
  rw [e3,ih (p++[x]) m (a+eJ n x.kids) e4 hm' ha]
theorem aaF (hk:Fu k) (ret:Int→Option S) (hn:0≤n∧n≤2199023255552) (hQ: ∀y∈t.kids,∀n',0≤n'∧n'≤n+1→ ∀g,hd y n' g=g ((ct n' y:Nat):Int)) (hQ': ∀b∈t.sys,∀y∈b.kids,∀g,hd y n g=g ((ct n y:Nat):Int)) (ht:OkT t):
  ∀ (r p:List Tm) (m a:Nat),t.kids=p++r→r.length<m→a+ep n t.kind p.length r+dT n t.sys<4611686018427387904→nR hd k ret t n m (p.length:Int) (a:Int)=ret ((a+ep n t.kind p.length r+dT n t.sys:Nat):Int):=by
 obtain ⟨o1,o2,o3,o4,o5,o6,o7⟩:=ht.no
 intro r
 induction r with
 |nil=>
  intro p m a h hm ha
  obtain ⟨m,rfl,hm'⟩:=av hm
  have hz:a+ep n t.kind p.length []=a:=by rw [ep];rfl
  rw [hz] at ha ⊢
  have:=aaG hk ret hQ' o7 (fun b hb=>(ht.bi hb).1.2.2) t.sys [] k a rfl (by omega) ha
  grind [nR,rQ,af]
 |cons y r ih=>
  intro p m a h hm ha
  obtain ⟨m,rfl,hm'⟩:=av hm
  obtain ⟨e1,e2,e3,e4⟩:=aV h (by omega)
  have hb:=kJ t.kind p.length
  have hwn:IntKind.wrap .i64 (n+be t.kind p.length)=n+be t.kind p.length:=by grind [bJ]
  have hy:=hQ y (by grind) (n+be t.kind p.length) (by omega)
  have hz:a+ep n t.kind p.length (y::r)=(a+ct (n+be t.kind p.length) y)+ep n t.kind (p++[y]).length r:=by rw [ep,List.length_append,List.length_singleton];omega
  rw [hz] at ha ⊢
  have hw:IntKind.wrap .i64 ((a:Int)+((ct (n+be t.kind p.length) y:Nat):Int))=((a+ct (n+be t.kind p.length) y:Nat):Int):=by grind [bJ]
  simp only [nR,rQ,e1,al,e2,Option.bind_some,aJ,ap hk,js,hwn,hy,e3,hw,ih (p++[y]) m (a+ct (n+be t.kind p.length) y) e4 hm' ha]
end
theorem afg (t:Tm): ∀ {k:Nat} {n:Int} (ret:Int→Option S),Fm t→Fd k (ai t)→0≤n∧n+ai t≤2199023255552→hU k t n ret=ret ((ct n t:Nat):Int):=by
 induction t using eS with
 |h t ih1 ih2=>
  intro k n ret ft hk hn
  obtain ⟨q,rfl,hq,hf⟩:=hk.pos' (dW t)
  have hp:=dW t
  have hz:=ft.siz
  have hc:=G6 t n
  by_cases hv:t.kind=1∧t.n=n
  ·obtain ⟨l1,l2⟩:=ft.leaf hv.1
   have:ct n t=1:=by rw [wX,if_pos hv,l1,l2,ep,dT]
   rw [this]
   simp only [hU,Am,hv.1,hv.2,beq_self_eq_true,al];rfl
  have hJ:yW (hU q) q ret t n q=ret ((ct n t:Nat):Int):=by
   obtain ⟨j,rfl⟩: ∃j,q=j+1:=⟨q-1,by have:=hq;omega⟩
   rw [wX,if_neg hv,Nat.zero_add]
   rw [wX] at hc
   have:=aaF (t:=t) (n:=n) hq ret (by omega) (fun y hy n' hn' g=>ih1 y hy g (ft.kid hy) (hf _ (dv hy)) ⟨hn'.1,by have:=dv hy;have:=ft.dep;omega⟩) (fun b hb y hy g=>ih2 b hb y hy g (ft.brk hb hy) (hf _ (dJ hb hy)) ⟨hn.1,by have:=dJ hb hy;omega⟩) ft.ok t.kids [] (j+1) 0 rfl (by have:=ft.ok.no.2.2.2.2.2.1;have:=hq;omega) (by simp;omega)
   simpa [yW,ws] using this
  simp only [hU,Am,hJ]
  by_cases h1:t.kind=1
  ·rw [h1,beq_self_eq_true,al,beq_false_of_ne (fun h=>hv ⟨h1,h⟩),af]
  ·rw [beq_false_of_ne h1,af]
section
variable {hd:Tm→Int→(Int→Option S)→Option S} {t:Tm} {n:Int}
end
end Go.Proofs.YtgajalidbabccaaGreatDoor
namespace Go.Proofs.YtgajalidbabccaaGreatDoor
open Go PI
set_option linter.unusedVariables false
set_option linter.unusedSimpArgs false
set_option maxRecDepth 20000
variable {S:Type} {k:Nat}
theorem adB (n:Int) (u:Tm) (v d kd:Int) (b:Br Tm) (l:List (Br Tm)):dz n u v d kd (b::l)=bE (bE (eB n u v d kd b.kids) fun ks'=> .ok (.mk b.face ks')) fun b'=>bE (dz n u v d kd l) fun l'=> .ok (b'::l'):=by cases b;rw [dz,qK]
theorem acy (t:Tm) (ret:Int→Option S):yj k t ret=ret (aH t.kind):=by
 simp only [yj,PQ,aH]
 by_cases h:t.kind=15
 ·rw [h];rfl
 ·rw [beq_false_of_ne h,if_neg h];rfl
theorem Fm.r1 {t:Tm} (h:Fm t) (hk:t.kind=1):t.r=[]:=by
 have:=h.own
 obtain ⟨kd,n,nm,r,ks,sys⟩:=t
 have hk:kd=1:=hk
 subst hk
 unfold ca at this
 simp only [Bool.and_eq_true,decide_eq_true_eq,if_true] at this
 exact List.length_eq_zero_iff.1 this.2.1
section
variable {hd:Tm→Int→Tm→Int→Int→(Pan Int Tm→Option S)→Option S} {t u:Tm} {n v d:Int}
theorem abu (hk:Fu k) (ret:Pan Int Tm→Option S) (rec1:List (Br Tm)→Int→Option S) {ks:List Tm} {o:List (Br Tm)} {x:Br Tm} {i:Int} (hd0:0≤d∧d<4611686018427387904) (hQ: ∀y∈x.kids,∀g:Pan Int Tm→Option S,hd y n u v (d+aH t.kind) g=g (pE (df n u v (d+aH t.kind) y))) (hl:x.kids.length<1073741824) (ho:o.length<1073741824):
  ∀ (r p acc:List Tm) (m:Nat),x.kids=p++r→r.length<m→acc.length+r.length<1073741824→
   nT hd k ret rec1 t ks o x u n v d i m acc (p.length:Int)=eE (eB n u v d t.kind r) (fun l=>rec1 (o++[.mk x.face (acc++l)]) (IntKind.wrap .i64 (i+1))) fun e=>ret (.pan e):=by
 have hm1:=eA t.kind
 have hwd:IntKind.wrap .i64 (d+aH t.kind)=d+aH t.kind:=by grind [bJ]
 intro r
 induction r with
 |nil=>
  intro p acc m h hm ha
  obtain ⟨m,rfl,hm'⟩:=av hm
  simp only [nT,wx,cD h,af,eB,bM,List.append_nil]
  rw [bL (by simp;omega)]
 |cons y r ih=>
  intro p acc m h hm ha
  obtain ⟨m,rfl,hm'⟩:=av hm
  obtain ⟨e1,e2,e3,e4⟩:=aV h (by omega)
  rw [List.length_cons] at ha
  simp only [nT,wx,e1,al,e2,Option.bind_some,aJ,ap hk,acy,hwd,hQ y (by rw [h];simp),e3,eB]
  rw [bq,iQ]
  refine cJ (fun y' _=> ?_) fun e _=>rfl
  rw [bL (by simp;omega),ih (p++[y]) (acc++[y']) m e4 hm' (by rw [List.length_append,List.length_singleton];omega),bq]
  refine cJ (fun l _=> ?_) fun e _=>rfl
  rw [bM,List.append_assoc];rfl
theorem abt (hk:Fu k) (ret:Pan Int Tm→Option S) {ks:List Tm} (ht:OkT t) (hd0:0≤d∧d<4611686018427387904) (hQ: ∀b∈t.sys,∀y∈b.kids,∀g:Pan Int Tm→Option S,hd y n u v (d+aH t.kind) g=g (pE (df n u v (d+aH t.kind) y))):
  ∀ (r p acc:List (Br Tm)) (m:Nat),t.sys=p++r→r.length<m→acc.length+r.length<1073741824→
   ld hd k ret t ks u n v d m acc (p.length:Int)=eE (dz n u v d t.kind r) (fun l=>ret (.ok (.mk t.kind 0 t.name t.r ks (acc++l)))) fun e=>ret (.pan e):=by
 intro r
 induction r with
 |nil=>
  intro p acc m h hm ha
  obtain ⟨m,rfl,hm'⟩:=av hm
  simp only [ld,rT,cD h,af,dz,bM,List.append_nil]
 |cons x r ih=>
  intro p acc m h hm ha
  obtain ⟨m,rfl,hm'⟩:=av hm
  have hts:=ht.no.2.2.2.2.2.2
  obtain ⟨e1,e2,e3,e4⟩:=aV h (by omega)
  have hx:x∈t.sys:=by rw [h];simp
  obtain ⟨⟨f1,f2,f3⟩,_⟩:=ht.bi hx
  rw [List.length_cons] at ha
  simp only [ld,rT,e1,al,e2,Option.bind_some]
  rw [bL (by omega)]
  refine (abu (o:=acc) (i:=(p.length:Int)) hk ret (ld hd k ret t ks u n v d m) hd0 (hQ x hx) f3 (by omega) x.kids [] [] k rfl (by have:=hk;omega) (by simpa using f3)).trans ?_
  rw [adB,bq,bq]
  refine cJ (fun l _=> ?_) fun e _=>rfl
  rw [bM,List.nil_append,e3]
  refine (ih (p++[x]) (acc++[Br.mk x.face l]) m e4 hm' (by rw [List.length_append,List.length_singleton];omega)).trans ?_
  rw [bq]
  refine cJ (fun l _=> ?_) fun e _=>rfl
  rw [bM,List.append_assoc];rfl
theorem abr (hk:Fu k) (ret:Pan Int Tm→Option S) (ht:OkT t) (hv0:0≤v∧v<4611686018427387904) (hd0:0≤d∧d<4611686018427387904) (hQ: ∀y∈t.kids,∀a b,0≤a∧a≤1→0≤b∧b≤1→ ∀g:Pan Int Tm→Option S,hd y n u (v+a) (d+b) g=g (pE (df n u (v+a) (d+b) y)))
  (hQ': ∀b∈t.sys,∀y∈b.kids,∀g:Pan Int Tm→Option S,hd y n u v (d+aH t.kind) g=g (pE (df n u v (d+aH t.kind) y))):
  ∀ (r p acc:List Tm) (m:Nat),t.kids=p++r→r.length<m→acc.length+r.length<1073741824→
   qf hd k ret t u n v d m acc (p.length:Int)=eE (ei n u v d t.kind p.length r) (fun l=>eE (dz n u v d t.kind t.sys) (fun l'=>ret (.ok (.mk t.kind 0 t.name t.r (acc++l) l'))) fun e=>ret (.pan e)) fun e=>ret (.pan e):=by
 obtain ⟨o1,o2,o3,o4,o5,o6,o7⟩:=ht.no
 intro r
 induction r with
 |nil=>
  intro p acc m h hm ha
  obtain ⟨m,rfl,hm'⟩:=av hm
  simp only [qf,rS,cD h,af,ei,bM,List.append_nil]
  exact abt hk ret ht hd0 hQ' t.sys [] [] k rfl (by have:=hk;omega) (by simpa using o7)
 |cons y r ih=>
  intro p acc m h hm ha
  obtain ⟨m,rfl,hm'⟩:=av hm
  obtain ⟨e1,e2,e3,e4⟩:=aV h (by omega)
  have bv:=kJ t.kind p.length
  have bd:=eo t.kind p.length
  have wv:IntKind.wrap .i64 (v+be t.kind p.length)=v+be t.kind p.length:=by grind [bJ]
  have wd:IntKind.wrap .i64 (d+aR t.kind p.length)=d+aR t.kind p.length:=by grind [bJ]
  rw [List.length_cons] at ha
  simp only [qf,rS,e1,al,e2,Option.bind_some,aJ,ap hk,js,wv,wd,hQ y (by rw [h];simp) _ _ bv bd,e3,ei]
  rw [bq,iQ]
  refine cJ (fun y' _=> ?_) fun e _=>rfl
  rw [bL (by simp;omega),ih (p++[y]) (acc++[y']) m e4 hm' (by rw [List.length_append,List.length_singleton];omega),bq,List.length_append,List.length_singleton]
  refine cJ (fun l _=> ?_) fun e _=>rfl
  rw [bM,List.append_assoc];rfl
end
theorem afS {u:Tm} {n:Int} (fu:Fm u) (hn:0≤n∧n≤1099511627776) (t:Tm): ∀ {k:Nat} {v d:Int} (ret:Pan Int Tm→Option S),Fm t→4294968296+ai t≤k→0≤v∧v+ai t≤1000→0≤d∧d+ai t≤1000→hY k t n u v d ret=ret (pE (df n u v d t)):=by
 induction t using eS with
 |h t ih1 ih2=>
  intro k v d ret ft hk hv hd
  have hp:=dW t
  obtain ⟨q,rfl⟩: ∃q,k=q+1:=⟨k-1,by omega⟩
  have h3:F3 q:=by unfold F3;omega
  have hfu:=h3.fu
  have wn:IntKind.wrap .i64 (n+v)=n+v:=by grind [bJ]
  have hpe:df n u v d t=if t.kind=1∧t.n=n+v then aD v d u else bE (ei n u v d t.kind 0 t.kids) fun ks'=>bE (dz n u v d t.kind t.sys) fun sys'=> .ok (.mk t.kind (if t.kind=1∧t.n>n+v then t.n-1 else t.n) t.name t.r ks' sys'):=by
   obtain ⟨kd,m,nm,r,ks,sys⟩:=t;rw [df];rfl
  simp only [hY,FY,wn,ap hfu,aJ]
  by_cases h1:t.kind=1
  ·obtain ⟨l1,l2⟩:=ft.leaf h1
   have hbe:(t.kind==1)=true:=by rw [h1];rfl
   rw [hbe,al,hpe]
   by_cases h2:t.n=n+v
   ·rw [h2,beq_self_eq_true,al,if_pos ⟨h1,rfl⟩,EM h3 fu (by omega) (by omega)]
    cases hh:aD v d u with
    |error e=>
     have he:=bV hh
     rw [show (tE (.error e)).2=e from rfl,eH (show e≠0 by omega)];rfl
    |ok y=>rfl
   ·rw [beq_false_of_ne h2,af,if_neg (fun h=>h2 h.2),l1,l2,ei,dz,aN,aN]
    have hr:t.r=[]:=ft.r1 h1
    have hnm:t.name=ByteArray.empty:=ft.nm0 (by omega)
    by_cases h4:t.n>n+v
    ·have hi:=ft.ok.no.2.1
     have wt:IntKind.wrap .i64 (t.n-1)=t.n-1:=by unfold aK at hi;exact bJ (by omega) (by omega)
     rw [decide_eq_true h4,al,if_pos ⟨h1,h4⟩,wt,h1,hr,hnm];rfl
    ·rw [decide_eq_false h4,af,if_neg (fun h=>h4 h.2),←l1,←l2]
     cases t;rfl
  ·rw [beq_false_of_ne h1,af,hpe,if_neg (fun h=>h1 h.1),if_neg (fun h=>h1 h.1),ft.n0 h1]
   obtain ⟨o1,o2,o3,o4,o5,o6,o7⟩:=ft.ok.no
   rw [bL (by omega)]
   have hQ: ∀y∈t.kids,∀a b,0≤a∧a≤1→0≤b∧b≤1→ ∀g:Pan Int Tm→Option S,hY q y n u (v+a) (d+b) g=g (pE (df n u (v+a) (d+b) y)):=fun y hy a b ha hb g=>by
    have:=dv hy
    exact ih1 y hy g (ft.kid hy) (by omega) (by omega) (by omega)
   have hQ': ∀b∈t.sys,∀y∈b.kids,∀g:Pan Int Tm→Option S,hY q y n u v (d+aH t.kind) g=g (pE (df n u v (d+aH t.kind) y)):=fun b hb y hy g=>by
    have:=dJ hb hy
    have:=eA t.kind
    exact ih2 b hb y hy g (ft.brk hb hy) (by omega) (by omega) (by omega)
   have:=abr (t:=t) (u:=u) (n:=n) (v:=v) (d:=d) hfu ret ft.ok (by omega) (by omega) hQ hQ' t.kids [] [] q rfl (by omega) (by simpa using o6)
   refine this.trans ?_
   refine Eq.trans ?_ (M5 _ ret).symm
   rw [bq]
   refine cJ (fun l _=> ?_) fun e _=>rfl
   rw [bq]
   refine cJ (fun l' _=> ?_) fun e _=>rfl
   rw [bM,List.nil_append]
end Go.Proofs.YtgajalidbabccaaGreatDoor
namespace Go.Proofs.YtgajalidbabccaaGreatDoor
open Go PI
set_option linter.unusedVariables false
set_option linter.unusedSimpArgs false
set_option maxRecDepth 20000
variable {S:Type} {k:Nat}
section
variable {hd:Tm→(Int→Option S)→Option S} {t:Tm}
theorem abB (hk:Fu k) (ret:Bool×Int→Option S) (rec1:Int→Int→Int→Option S) {v more:Int} {x:Br Tm} (hQ: ∀y∈x.kids,∀g,hd y g=g ((ao y:Nat):Int)) (hl:x.kids.length<1073741824):
  ∀ (r p:List Tm) (m a:Nat),x.kids=p++r→r.length<m→a+au r<4611686018427387904→nY hd k ret rec1 t v x more m (a:Int) (p.length:Int)=rec1 ((a+au r:Nat):Int) (IntKind.wrap .i64 (v+1)) more:=by
 intro r
 induction r with
 |nil=>grind [av,au,nY,wK,af]
 |cons y r ih=>
  intro p m a h hm ha
  obtain ⟨m,rfl,hm'⟩:=av hm
  obtain ⟨e1,e2,e3,e4⟩:=aV h (by omega)
  have hy:=hQ y (by grind)
  have hz:a+au (y::r)=(a+ao y)+au r:=by rw [au];omega
  rw [hz] at ha ⊢
  have hw:IntKind.wrap .i64 ((a:Int)+((ao y:Nat):Int))=((a+ao y:Nat):Int):=by grind [bJ]
  simp only [nY,wK,e1,al,e2,Option.bind_some,aJ,ap hk,tc,Ga,hy,e3,hw,Bool.not_true,af,ih (p++[y]) m (a+ao y) e4 hm' ha]
theorem abA (hk:Fu k) (ret:Bool×Int→Option S) {more:Int} (hQ: ∀b∈t.sys,∀y∈b.kids,∀g,hd y g=g ((ao y:Nat):Int)) (hl:t.sys.length<1073741824) (hl': ∀b∈t.sys,b.kids.length<1073741824):
  ∀ (r p:List (Br Tm)) (m a:Nat),t.sys=p++r→r.length<m→a+aA r<4611686018427387904→lh hd k ret t m (a:Int) (p.length:Int) more=ret (true,((a+aA r:Nat):Int)):=by
 intro r
 induction r with
 |nil=>grind [av,aA,lh,si,af]
 |cons x r ih=>
  intro p m a h hm ha
  obtain ⟨m,rfl,hm'⟩:=av hm
  obtain ⟨e1,e2,e3,e4⟩:=aV h (by omega)
  have hx:x∈t.sys:=by grind
  have hlx:=hl' x hx
  have hz:a+aA (x::r)=(a+au x.kids)+aA r:=by rw [aA,lA];omega
  rw [hz] at ha ⊢
  have:=abB (t:=t) (v:=(p.length:Int)) (more:=more) hk ret (lh hd k ret t m) (hQ x hx) hlx x.kids [] k a rfl (by have:=hk;omega) (by omega)
  simp only [lh,si,e1,al,e2,Option.bind_some]
  refine Eq.trans this ?_
  rw [e3,ih (p++[x]) m (a+au x.kids) e4 hm' ha]
theorem abz (hk:Fu k) (ret:Bool×Int→Option S) (hQ: ∀y∈t.kids,∀g,hd y g=g ((ao y:Nat):Int)) (hQ': ∀b∈t.sys,∀y∈b.kids,∀g,hd y g=g ((ao y:Nat):Int)) (ht:OkT t):
  ∀ (r p:List Tm) (m a:Nat),t.kids=p++r→r.length<m→a+au r+aA t.sys<4611686018427387904→qv hd k ret t m (a:Int) (p.length:Int)=ret (true,((a+au r+aA t.sys:Nat):Int)):=by
 obtain ⟨o1,o2,o3,o4,o5,o6,o7⟩:=ht.no
 intro r
 induction r with
 |nil=>
  intro p m a h hm ha
  obtain ⟨m,rfl,hm'⟩:=av hm
  have hz:a+au []=a:=by rfl
  rw [hz] at ha ⊢
  have:=fun more=>abA (more:=more) hk ret hQ' o7 (fun b hb=>(ht.bi hb).1.2.2) t.sys [] k a rfl (by have:=hk;omega) ha
  simp only [qv,sh,cD h,af]
  cases (t.kind==15)
  ·rw [af];exact this 0
  ·rw [al];exact this 1
 |cons y r ih=>
  intro p m a h hm ha
  obtain ⟨m,rfl,hm'⟩:=av hm
  obtain ⟨e1,e2,e3,e4⟩:=aV h (by omega)
  have hy:=hQ y (by grind)
  have hz:a+au (y::r)=(a+ao y)+au r:=by rw [au];omega
  rw [hz] at ha ⊢
  have hw:IntKind.wrap .i64 ((a:Int)+((ao y:Nat):Int))=((a+ao y:Nat):Int):=by grind [bJ]
  simp only [qv,sh,e1,al,e2,Option.bind_some,aJ,ap hk,js,tc,Ga,hy,e3,hw,Bool.not_true,af,ih (p++[y]) m (a+ao y) e4 hm' ha]
theorem aaN (hk:Fu k) (ret:Bool×Int→Option S) (rec1:Int→Int→Int→Option S) {v more:Int} {x:Br Tm} (hQ: ∀y∈x.kids,∀g,hd y g=g ((ai y:Nat):Int)) (hl:x.kids.length<1073741824):
  ∀ (r p:List Tm) (m a:Nat),x.kids=p++r→r.length<m→nZ hd k ret rec1 t v x more m (a:Int) (p.length:Int)=rec1 ((max a (ax r):Nat):Int) (IntKind.wrap .i64 (v+1)) more:=by
 intro r
 induction r with
 |nil=>grind [av,ax,nZ,wL,af]
 |cons y r ih=>
  intro p m a h hm
  obtain ⟨m,rfl,hm'⟩:=av hm
  obtain ⟨e1,e2,e3,e4⟩:=aV h (by omega)
  have hy:=hQ y (by grind)
  have hz:max a (ax (y::r))=max (max a (ai y)) (ax r):=by rw [ax];omega
  rw [hz]
  have hw:(if ((ai y:Nat):Int)>(a:Int) then ((ai y:Nat):Int) else (a:Int))=((max a (ai y):Nat):Int):=by split<;>omega
  simp only [nZ,wL,e1,al,e2,Option.bind_some,aJ,ap hk,ta,F_,hy,e3,hw,Bool.not_true,af,ih (p++[y]) m (max a (ai y)) e4 hm']
theorem aaM (hk:Fu k) (ret:Bool×Int→Option S) {more:Int} (hQ: ∀b∈t.sys,∀y∈b.kids,∀g,hd y g=g ((ai y:Nat):Int)) (hl:t.sys.length<1073741824) (hl': ∀b∈t.sys,b.kids.length<1073741824):
  ∀ (r p:List (Br Tm)) (m a:Nat),t.sys=p++r→r.length<m→li hd k ret t m (a:Int) (p.length:Int) more=ret (true,((max a (aM r):Nat):Int)):=by
 intro r
 induction r with
 |nil=>grind [av,aM,li,sn,af]
 |cons x r ih=>
  intro p m a h hm
  obtain ⟨m,rfl,hm'⟩:=av hm
  obtain ⟨e1,e2,e3,e4⟩:=aV h (by omega)
  have hx:x∈t.sys:=by grind
  have hlx:=hl' x hx
  have hz:max a (aM (x::r))=max (max a (ax x.kids)) (aM r):=by rw [aM,tj];omega
  rw [hz]
  have:=aaN (t:=t) (v:=(p.length:Int)) (more:=more) hk ret (li hd k ret t m) (hQ x hx) hlx x.kids [] k a rfl (by have:=hk;omega)
  simp only [li,sn,e1,al,e2,Option.bind_some]
  refine Eq.trans this ?_
  rw [e3,ih (p++[x]) m (max a (ax x.kids)) e4 hm']
theorem aaL (hk:Fu k) (ret:Bool×Int→Option S) (hQ: ∀y∈t.kids,∀g,hd y g=g ((ai y:Nat):Int)) (hQ': ∀b∈t.sys,∀y∈b.kids,∀g,hd y g=g ((ai y:Nat):Int)) (ht:OkT t):
  ∀ (r p:List Tm) (m a:Nat),t.kids=p++r→r.length<m→qw hd k ret t m (a:Int) (p.length:Int)=ret (true,((max (max a (ax r)) (aM t.sys):Nat):Int)):=by
 obtain ⟨o1,o2,o3,o4,o5,o6,o7⟩:=ht.no
 intro r
 induction r with
 |nil=>
  intro p m a h hm
  obtain ⟨m,rfl,hm'⟩:=av hm
  have hz:max a (ax [])=a:=by rw [ax];omega
  rw [hz]
  have:=fun more=>aaM (more:=more) hk ret hQ' o7 (fun b hb=>(ht.bi hb).1.2.2) t.sys [] k a rfl (by have:=hk;omega)
  simp only [qw,sk,cD h,af]
  cases (t.kind==15)
  ·rw [af];exact this 0
  ·rw [al];exact this 1
 |cons y r ih=>
  intro p m a h hm
  obtain ⟨m,rfl,hm'⟩:=av hm
  obtain ⟨e1,e2,e3,e4⟩:=aV h (by omega)
  have hy:=hQ y (by grind)
  have hz:max a (ax (y::r))=max (max a (ai y)) (ax r):=by rw [ax];omega
  rw [hz]
  have hw:(if ((ai y:Nat):Int)>(a:Int) then ((ai y:Nat):Int) else (a:Int))=((max a (ai y):Nat):Int):=by split<;>omega
  simp only [qw,sk,e1,al,e2,Option.bind_some,aJ,ap hk,js,ta,F_,hy,e3,hw,Bool.not_true,af,ih (p++[y]) m (max a (ai y)) e4 hm']
end
theorem NE (t:Tm):OkT t→ ∀ {k:Nat} (ret:Int→Option S),Fd k (ai t)→ao t<4611686018427387904→kR k t ret=ret ((ao t:Nat):Int):=by
 induction t using eS with
 |h t ih1 ih2=>
  intro ht k ret hk hs
  obtain ⟨q,rfl,hq,hf⟩:=hk.pos' (dW t)
  have hz:=Ab t
  have:=abz hq (fun r=>ret r.2) (fun y hy g=>ih1 y hy (ht.ki hy) g (hf _ (dv hy)) (by have:=ir hy;omega)) (fun b hb y hy g=>ih2 b hb y hy ((ht.bi hb).2 y hy) g (hf _ (dJ hb hy)) (by have:=ir hy;have:=oD hb;omega)) ht t.kids [] q 1 rfl (by have:=ht.no.2.2.2.2.2.1;have:=hq;omega) (by omega)
  simp only [kR,P1,ap hq,aJ,B_,Gg]
  refine this.trans ?_
  rw [hz,Nat.add_assoc]
theorem aeY (t:Tm):OkT t→ ∀ {k:Nat} (ret:Int→Option S),Fd k (ai t)→ai t<4611686018427387904→kQ k t ret=ret ((ai t:Nat):Int):=by
 induction t using eS with
 |h t ih1 ih2=>
  intro ht k ret hk hs
  obtain ⟨q,rfl,hq,hf⟩:=hk.pos' (dW t)
  have hz:=tk t
  have:=aaL hq (fun r=>ret (IntKind.wrap .i64 (r.2+1))) (fun y hy g=>ih1 y hy (ht.ki hy) g (hf _ (dv hy)) (by have:=dv hy;omega)) (fun b hb y hy g=>ih2 b hb y hy ((ht.bi hb).2 y hy) g (hf _ (dJ hb hy)) (by have:=dJ hb hy;omega)) ht t.kids [] q 0 rfl (by have:=ht.no.2.2.2.2.2.1;have:=hq;omega)
  simp only [kQ,PW,ap hq,aJ,Ca,Gi]
  refine this.trans ?_
  have hw:IntKind.wrap .i64 (((max (max 0 (ax t.kids)) (aM t.sys):Nat):Int)+1)=((ai t:Nat):Int):=by
   rw [bJ (by omega) (by omega)];omega
  rw [hw]
end Go.Proofs.YtgajalidbabccaaGreatDoor
namespace Go.Proofs.YtgajalidbabccaaGreatDoor
open Go PI
set_option linter.unusedVariables false
set_option linter.unusedSimpArgs false
set_option maxRecDepth 20000
variable {S:Type} {k:Nat}
abbrev F4 (k:Nat):Prop:=4294970296≤k
theorem F4.f3 (h:F4 k):F3 k:=by have:4294970296≤k:=h;unfold F3;omega
def mA (n:Int) (t u:Tm):Except Int Tm:=dX t (dX u (gk n t u))
theorem afR (hk4:F4 k) {t u:Tm} (ht:In k t) (hu:In k u) {n:Int} (hn:0≤n∧n≤1000000) (ret:Tm×Int→Option S):yi k t n u ret=ret (tE (mA n t u)):=by
 have hk:=hk4.f3
 simp only [yi,PP,ap hk.fu,aJ,fX ht.1 ht.2.1 ht.dep,fX hu.1 hu.2.1 hu.dep]
 unfold mA
 by_cases h1:bQ t=0
 case neg=>rw [eH h1,Bool.not_false,al];unfold dX;rw [if_neg h1];rfl
 by_cases h2:bQ u=0
 case neg=>rw [h1,show (!((0:Int)==0))=false from rfl,af,eH h2,Bool.not_false,al];unfold dX;rw [if_pos h1,if_neg h2];rfl
 have ft:Fm t:=⟨ht.1,h1⟩
 have fu:Fm u:=⟨hu.1,h2⟩
 have hc:=G6 t n
 have z1:=ft.siz;have z2:=fu.siz;have z3:=km u;have d1:=ft.dep;have d2:=fu.dep
 have hk':4294970296≤k:=hk4
 have hif:(if 1099511627776<n then (1099511627776:Int) else n)=n:=if_neg (by omega)
 have hmul:ct n t*(ao u-1)≤20000*20000:=Nat.mul_le_mul (by omega) (by omega)
 have hw1:IntKind.wrap .i64 ((ao u:Int)-1)=((ao u-1:Nat):Int):=by rw [bJ (by omega) (by omega)];omega
 have hw2:IntKind.wrap .i64 ((ct n t:Int)*((ao u-1:Nat):Int))=((ct n t*(ao u-1):Nat):Int):=by
  rw [←Int.natCast_mul];exact bJ (by omega) (by omega)
 have hw3:IntKind.wrap .i64 ((ao t:Int)+((ct n t*(ao u-1):Nat):Int))=((ao t+ct n t*(ao u-1):Nat):Int):=by
  rw [←Int.natCast_add];exact bJ (by omega) (by omega)
 rw [h1,h2,show (!((0:Int)==0))=false from rfl,af,af,decide_eq_false (by omega),af]
 simp only [hif]
 rw [NE t ft.ok _ (ft.fd hk) (by omega),afg t _ ft (ft.fd hk) (by omega),NE u fu.ok _ (fu.fd hk) (by omega),hw1,hw2,hw3]
 unfold dX
 rw [if_pos h1,if_pos h2]
 unfold gk
 by_cases h3:ao t+ct n t*(ao u-1)>20000
 ·rw [decide_eq_true (by omega),al,if_pos h3];rfl
 rw [decide_eq_false (by omega),af,if_neg h3,afS fu (by omega) t _ ft (by omega) (by omega) (by omega),iQ]
 cases hp:df n u 0 0 t with
 |error e=>rfl
 |ok o=>
  rw [bM,aN]
  have hall:=(ew ft.2).2.2
  obtain ⟨q1,q2,q3,q4⟩:=KH fu (by omega) t (v:=0) (d:=0) (by omega) (by omega) (by omega) ft.ok hall hp
  show kQ k o _=_
  rw [aeY o q1 _ (hk.fd (by omega)) (by omega)]
  by_cases h4:ai o>200
  ·rw [decide_eq_true (by omega),al,if_pos h4];rfl
  ·rw [decide_eq_false (by omega),af,if_neg h4];rfl
end Go.Proofs.YtgajalidbabccaaGreatDoor
namespace Go.Proofs.YtgajalidbabccaaGreatDoor
open Go PI
set_option linter.unusedVariables false
set_option linter.unusedSimpArgs false
set_option maxRecDepth 20000
variable {S:Type} {k:Nat}
theorem kw {t:Tm} (h:t.kids.length=2): ∃a b,t.kids=[a,b]:=by
 match h':t.kids,h with
 |[a,b],_=>exact ⟨a,b,rfl⟩
theorem acN {t:Tm} (h:t.kids.length=1): ∃a,t.kids=[a]:=by
 match h':t.kids,h with
 |[a],_=>exact ⟨a,rfl⟩
theorem Fm.sy {t:Tm} (h:Fm t) (hk:t.kind=15):(∀b∈t.sys,b.kids=[ak b]∧Fm (ak b)∧RX true b.face)∧t.sys.length≤20000:=by
 have ho:=h.own
 refine ⟨fun b hb=> ?_, ?_⟩
 ·have hl:b.kids.length=1:=by
   obtain ⟨kd,n,nm,r,ks,sys⟩:=t
   have hk:kd=15:=hk
   subst hk
   have ho:(_&&(sys.all (aQ 15 24)&&_))=true:=ho
   simp only [Bool.and_eq_true] at ho
   have:=List.all_eq_true.1 ho.2.1 b hb
   unfold aQ at this
   simp only [Bool.and_eq_true,decide_eq_true_eq] at this
   have h1:=this.1
   have:dN 15=1:=rfl
   omega
  obtain ⟨f,ks⟩:=b
  match ks,hl with
  |[a],_=>exact ⟨rfl,h.brk hb (by simp [ak]),h.face hb⟩
 ·have h1:=h.siz
  have h2:=ju t
  have: ∀ {l:List (Br Tm)},(∀b∈l,b.kids≠[])→l.length≤aA l:=by
   intro l
   induction l with
   |nil=>intro _;simp
   |cons b l ih=>
    intro hl
    have:=ih fun b hb=>hl b (by simp [hb])
    have hb:=hl b (by simp)
    obtain ⟨f,ks⟩:=b
    cases ks with
    |nil=>exact absurd rfl hb
    |cons a ks=>rw [aA,d4,au,List.length_cons];have:=km a;omega
  have:=this (l:=t.sys) fun b hb=>by
   intro he
   obtain ⟨kd,n,nm,r,ks,sys⟩:=t
   have hk:kd=15:=hk
   subst hk
   have ho:(_&&(sys.all (aQ 15 24)&&_))=true:=ho
   simp only [Bool.and_eq_true] at ho
   have:=List.all_eq_true.1 ho.2.1 b hb
   unfold aQ at this
   simp only [Bool.and_eq_true,decide_eq_true_eq] at this
   have h1:=this.1
   rw [he] at h1
   have:dN 15=1:=rfl
   simp at h1;omega
  omega
end Go.Proofs.YtgajalidbabccaaGreatDoor
namespace Go.Proofs.YtgajalidbabccaaGreatDoor
open Go PI
set_option linter.unusedVariables false
set_option linter.unusedSimpArgs false
set_option maxRecDepth 20000
variable {S:Type} {k:Nat}
def jv {α:Type} (c:Int) (x:Except Int α):Except Int α:=if c=0 then x else .error c
theorem dq {α:Type} (x:Except Int α):jv 0 x=x:=rfl
theorem dh {α:Type} {c:Int} (h:c≠0) (x:Except Int α):jv c x= .error c:=if_neg h
structure Sm (n:Nat) (t:Tm):Prop where
 ok:OkT t
 siz:ao t≤n
 dep:ai t≤300
theorem Fm.sm {t:Tm} (h:Fm t):Sm 20000 t:=⟨h.ok,h.siz,by have:=h.dep;omega⟩
theorem Sm.mono {n m:Nat} {t:Tm} (h:Sm n t) (hnm:n≤m):Sm m t:=⟨h.ok,by have:=h.siz;omega,h.dep⟩
theorem acD:Sm 20000 ar:=⟨Kk,by unfold ar;rw [ao,au,aA];omega,by unfold ar;rw [ai,ax,aM];omega⟩
theorem Sm.isIn {n:Nat} {t:Tm} (h:Sm n t) (hk:F3 k) (hn:n<1099511627776):In k t:=⟨h.ok,hk.fd (by have:=h.dep;omega),by have:=h.siz;omega⟩
structure Bs' (n:Nat) (l:List (Br Tm)):Prop where
 ok:aU l
 siz:aA l≤l.length*n
 dep:aM l≤301
theorem VG (n:Nat):Bs' n []:=⟨by rw [aU];trivial,by rw [aA];simp,by rw [aM];omega⟩
theorem mP {kd:Int} (hkd:0≤kd∧kd≤28) {r:List Cl} (hr:aE r∧r.length<1073741824) {ks:List Tm} {sys:List (Br Tm)} {n m:Nat} (hks: ∀x∈ks,OkT x∧ai x≤299) (hl:ks.length<1000) (hz:au ks≤n) (hs:aU sys) (hsl:sys.length<1073741824) (hsd:aM sys≤299) (hsz:aA sys≤m):Sm (n+m+1) (.mk kd 0 ByteArray.empty r ks sys):=by
 have hd:ax ks≤299:=by
  have: ∀ {l:List Tm},(∀x∈l,ai x≤299)→ax l≤299:=by
   intro l
   induction l with
   |nil=>intro _;rw [ax];omega
   |cons t l ih=>intro h;rw [ax];have:=h t (by simp);have:=ih fun x hx=>h x (by simp [hx]);omega
  exact this fun x hx=>(hks x hx).2
 refine ⟨?_, ?_, ?_⟩
 ·rw [OkT]
  exact ⟨⟨by unfold aK;omega,by unfold aK;omega,by decide,hr.1,hr.2,by omega,hsl⟩,okK_iff.2 fun x hx=>(hks x hx).1,hs⟩
 ·rw [ao];omega
 ·rw [ai];omega
theorem eX {t:Tm} {a b:Tm} (h:t.kids=[a,b]):t.kids.getD 0 ar=a∧t.kids.getD 1 ar=b:=by rw [h];exact ⟨rfl,rfl⟩
theorem kj {fa:Bool} {f:List Cl} (h:RX fa f):aE f∧f.length<1073741824:=⟨h.1.2,by have:=h.1.len;omega⟩
theorem abW {f:List Cl} {b:Int} (h:RF f):aE (bA f 0 b).1∧(bA f 0 b).1.length<1073741824:=by
 have hl:=abL (f:=f) (i:=0) (b:=b)
 have:=h.len
 refine ⟨?_,by omega⟩
 by_cases h0:(bA f 0 b).2=0
 ·exact (i_ h0).2
 ·rw [abU h0];exact fun c hc=>by cases hc
end Go.Proofs.YtgajalidbabccaaGreatDoor
namespace Go.Proofs.YtgajalidbabccaaGreatDoor
open Go PI
set_option linter.unusedVariables false
set_option linter.unusedSimpArgs false
set_option maxRecDepth 20000
variable {S:Type} {k:Nat}
theorem gN {t:Tm} (h:Fm t) {kd:Int} (hk:t.kind=kd) {n:Nat} (hn:fT kd=n):t.kids.length=n:=by
 have:=h.nk
 rw [hk,hn] at this;omega
theorem pD {t a b:Tm} (h:t.kids=[a,b]):aq t.kids 0=some a∧aq t.kids 1=some b:=by rw [h];exact ⟨rfl,rfl⟩
end Go.Proofs.YtgajalidbabccaaGreatDoor
namespace Go.Proofs.YtgajalidbabccaaGreatDoor
open Go PI
set_option linter.unusedVariables false
set_option linter.unusedSimpArgs false
set_option maxRecDepth 20000
variable {S:Type} {k:Nat}
end Go.Proofs.YtgajalidbabccaaGreatDoor
namespace Go.Proofs.YtgajalidbabccaaGreatDoor
open Go PI
set_option linter.unusedVariables false
set_option linter.unusedSimpArgs false
set_option maxRecDepth 20000
variable {S:Type} {k:Nat}
end Go.Proofs.YtgajalidbabccaaGreatDoor
namespace Go.Proofs.YtgajalidbabccaaGreatDoor
open Go PI
set_option linter.unusedVariables false
set_option linter.unusedSimpArgs false
set_option maxRecDepth 20000
variable {S:Type} {k:Nat}
section
variable {hd:Tm→Int→Tm→Int→Int→(Tm→Option S)→Option S} {t u:Tm} {n v d:Int}
end
end Go.Proofs.YtgajalidbabccaaGreatDoor
namespace Go.Proofs.YtgajalidbabccaaGreatDoor
open Go PI
set_option linter.unusedVariables false
set_option linter.unusedSimpArgs false
set_option maxRecDepth 20000
variable {S:Type} {k:Nat}
end Go.Proofs.YtgajalidbabccaaGreatDoor
namespace Go.Proofs.YtgajalidbabccaaGreatDoor
open Go PI
set_option linter.unusedVariables false
set_option linter.unusedSimpArgs false
set_option maxRecDepth 20000
variable {S:Type} {k:Nat}
theorem aa9 (hk:Fu k) (ret:Tm×Int→Option S) {c0 c2:Int} {c1:Tm} {ns:List Int} (hl:ns.length<1000) (hn: ∀x∈ns,0≤x):
  ∀ (r p:List Int) (m:Nat),ns=p++r→r.length<m→nP k ret c0 c1 c2 ns m (p.length:Int)=xX k c0 c1 c2 fun r4=>Pan.elim r4 (fun r4=>ret (r4,0)) fun e5=>ret (ar,e5):=by
 intro r
 induction r with
 |nil=>
  intro p m h hm
  obtain ⟨m,rfl,hm'⟩:=av hm
  simp only [nP,wk,cD h,af,ap hk,aJ];rfl
 |cons x r ih=>
  intro p m h hm
  obtain ⟨m,rfl,hm'⟩:=av hm
  obtain ⟨e1,e2,e3,e4⟩:=aV h (by omega)
  have hx:=hn x (by grind)
  grind [nP,wk,cM]
theorem afD (hk:F3 k) {t:Tm} (ht:Fm t) {f b:Int} (hf:0≤f∧f≤1000000) (hb:0≤b∧b≤1000000) (ret:Tm×Int→Option S):pf k t f b ret=ret (tE (bh b 0 f 0 t)):=by
 have hw:IntKind.wrap .i64 (1000000-b)=1000000-b:=bJ (by omega) (by omega)
 have hl:=aa9 hk.fu ret (c0:=b) (c2:=f) (c1:=t) (ns:=[f,b,1000000-b]) (by simp) (by grind) [f,b,1000000-b] [] k rfl (by grind)
 have hl:nP k ret b t f [f,b,1000000-b] k 0=_:=hl
 simp only [pf,FT,ap hk.fu,aJ,hw,xZ,Aj,fX ht.ok (ht.fd hk) (show ai t<1099511627776 by have:=ht.dep;omega),ht.2,hl,xX,Pt]
 rw [show ((0:Int)==0)=true from rfl,Bool.not_true,af,if_neg (by omega),Aa (by omega) (by unfold aK;omega) t ht.ok ht.rows _ (ht.fd hk) (ht.vp (by omega) (by omega)),iQ,gW _ ret]
 rfl
def oI (f b:Int) (t:Tm):Except Int Tm:=dX t (bh b 0 f 0 t)
theorem ae8 (hk:F3 k) {t:Tm} (ht:In k t) {f b:Int} (hf:0≤f∧f≤1000000) (hb:0≤b∧b≤1000000) (ret:Tm×Int→Option S):pf k t f b ret=ret (tE (oI f b t)):=by
 unfold oI dX
 by_cases h:bQ t=0
 ·rw [if_pos h];exact afD hk ⟨ht.1,h⟩ hf hb ret
 ·rw [if_neg h]
  simp only [pf,FT,ap hk.fu,aJ,xZ,Aj,fX ht.1 ht.2.1 ht.dep,eH h,Bool.not_false,al];rfl
theorem adA {n:Int} {t u:Tm}: ∀e,mA n t u= .error e→0<e∧e≤1000:=fun e h=>tx (fun e h=>tx (fun e h=>KF h) h) h
theorem afI (hk:F4 k) {t u:Tm} {c:Int} (ht:c=0→In k t∧In k u) (ret:Tm×Int→Option S):yf k t u c ret=ret (mM c (mA 0 t u)):=by
 simp only [yf,PK,ap hk.f3.fu,cY,jy,aJ,kl]
 exact oe c (fun h g=>afR hk (ht h).1 (ht h).2 (by omega) g) (uh adA) ret
theorem NX (hk:F3 k) {t a:Tm} {sys:List (Br Tm)} {c:Int} (ht:c=0→In k t∧In k a∧In k (a7 sys)) (hx: ∀e,bY [t,a,a7 sys] (dp t a sys)= .error e→e≠0) (ret:Tm×Int→Option S):sZ k t a sys c ret=ret (mM c (bY [t,a,a7 sys] (dp t a sys))):=by
 simp only [sZ,PH,ap hk.fu,cY,jy,aJ,kl]
 exact oe c (fun h g=>ae2 hk (ht h).1 (ht h).2.1 (ht h).2.2 g) hx ret
theorem afF (hk:F3 k) {line a:Tm} {sys:List (Br Tm)} {c:Int} (ht:c=0→In k line∧In k a∧In k (a7 sys)) (hx: ∀e,bY [line,a,a7 sys] (eb line a sys)= .error e→e≠0) (ret:Tm×Int→Option S):yb k line a sys c ret=ret (mM c (bY [line,a,a7 sys] (eb line a sys))):=by
 simp only [yb,PD,ap hk.fu,cY,jy,aJ,kl]
 exact oe c (fun h g=>aeX hk (ht h).1 (ht h).2.1 (ht h).2.2 g) hx ret
end Go.Proofs.YtgajalidbabccaaGreatDoor
namespace Go.Proofs.YtgajalidbabccaaGreatDoor
open Go PI
set_option linter.unusedVariables false
set_option linter.unusedSimpArgs false
set_option maxRecDepth 20000
variable {S:Type} {k:Nat}
theorem Vx {m:Tm} (fm:Fm m):(bE (oI 1 0 m) fun y=>lZ 0 1 y)=aD 0 1 m:=by
 have hd:=fm.dep
 have h1:oI 1 0 m=bh 0 0 0 0 m:=by
  unfold oI dX
  rw [if_pos fm.2]
  exact abP m (by omega) (by omega)
 rw [h1]
 unfold aD
 cases hh:bh 0 0 0 0 m with
 |error e=>rfl
 |ok y=>
  rw [aN,aN]
  have fy:=ja (by omega) fm hh
  unfold lZ dX
  rw [if_pos fy.2]
theorem afE (hk:F3 k) {m:Tm} {c:Int} (hm:c=0→Fm m) (ret:Tm×Int→Option S):ya k m 0 1 c ret=ret (mM c (aD 0 1 m)):=by
 simp only [ya,PC,ap hk.fu,cY,jy,aJ,kl]
 by_cases hc:c=0
 case neg=>rw [eH hc,Bool.not_false,al,cj hc];rfl
 have fm:=hm hc
 subst hc
 rw [show (!((0:Int)==0))=false from rfl,af,cE,←Vx fm,ae8 hk (fm.isIn hk) (by omega) (by omega)]
 have hv:oI 1 0 m=bh 0 0 1 0 m:=by unfold oI dX;rw [if_pos fm.2]
 rw [if_pos rfl,hv]
 cases hh:bh 0 0 1 0 m with
 |error e=>
  have he:=n8 m hh
  rw [show (tE (.error e)).2=e from rfl,if_neg (show e≠0 by omega)]
  dsimp only
  rw [eH (show e≠0 by omega),Bool.not_false,al];rfl
 |ok y=>
  have fy:=ja (by omega) fm hh
  rw [show (tE (.ok y)).2=0 from rfl,show (tE (.ok y)).1=y from rfl,if_pos rfl]
  dsimp only
  rw [show (!((0:Int)==0))=false from rfl,af,Ny hk (fy.isIn hk) (by omega) (by omega),aN]
  have:=IP (lZ 0 1 y) (uh Ho) 0
  rw [cE] at this
  rw [this]
end Go.Proofs.YtgajalidbabccaaGreatDoor
namespace Go.Proofs.YtgajalidbabccaaGreatDoor
open Go PI
set_option linter.unusedVariables false
set_option linter.unusedSimpArgs false
set_option maxRecDepth 20000
variable {S:Type} {k:Nat}
def Qq:List Tm→Except Int (List Tm)
 |[]=> .ok []
 |y::l=>bE (aD 0 1 y) fun y'=>bE (Qq l) fun l'=> .ok (y'::l')
abbrev yz (kd:Int) (p:Tm) (l:List Tm) (a:Tm):Tm:= .mk kd 0 ByteArray.empty [] (p::l++[a]) []
def HQ (kd:Int) (b:Tm) (mid:List Tm):List (Br Tm)→Except Int (List (Br Tm))
 |[]=> .ok []
 |y::l=>bE (Qq mid) fun m=>bE (HQ kd b mid l) fun l'=> .ok (.mk y.face [yz kd b m (ak y)]::l')
def i8 (t:Tm):Tm:=t.kids.getD (t.kids.length-1) ar
def zd (t:Tm):List Tm:=(t.kids.take (t.kids.length-1)).drop 1
end Go.Proofs.YtgajalidbabccaaGreatDoor
namespace Go.Proofs.YtgajalidbabccaaGreatDoor
open Go PI
set_option linter.unusedVariables false
set_option linter.unusedSimpArgs false
set_option maxRecDepth 20000
variable {S:Type} {k:Nat}
end Go.Proofs.YtgajalidbabccaaGreatDoor
namespace Go.Proofs.YtgajalidbabccaaGreatDoor
open Go PI
set_option linter.unusedVariables false
set_option linter.unusedSimpArgs false
set_option maxRecDepth 20000
variable {S:Type} {k:Nat}
end Go.Proofs.YtgajalidbabccaaGreatDoor
namespace Go.Proofs.YtgajalidbabccaaGreatDoor
open Go PI
set_option linter.unusedVariables false
set_option linter.unusedSimpArgs false
set_option maxRecDepth 20000
def bB (Φ:Nat→Prop) (f:List Cl):Prop:= ∀c∈f,∀j,hp c j∨hn c j→Φ j
theorem j0 {Φ Ψ:Nat→Prop} {f:List Cl} (h:bB Φ f) (hi: ∀j,Φ j→Ψ j):bB Ψ f:=fun c hc j hj=>hi j (h c hc j hj)
theorem fV (Φ:Nat→Prop):bB Φ []:=fun c hc=>by cases hc
theorem I2 {Φ:Nat→Prop} {f g:List Cl} (h:bB Φ f) (hs: ∀c∈g,c∈f):bB Φ g:=fun c hc=>h c (hs c hc)
theorem acb {Φ:Nat→Prop} {f g:List Cl} (h:bB Φ f) (h':bB Φ g):bB Φ (f++g):=fun c hc=>(List.mem_append.1 hc).elim (h c) (h' c)
theorem qB {Φ:Nat→Prop} {f:List Cl} (h:bB Φ f):bB Φ (bX f).1:=by
 unfold bX
 split
 ·split
  ·exact fV _
  ·exact I2 h fun c hc=>(mem_mins.1 hc).1
 ·exact fV _
theorem I1 {Φ:Nat→Prop} {f g:List Cl} (h:bB Φ f) (h':bB Φ g):bB Φ (meets f g):=fun c hc j hj=>by
 unfold meets at hc
 obtain ⟨a,ha,hc⟩:=List.mem_flatMap.1 hc
 obtain ⟨b,hb,rfl⟩:=List.mem_map.1 hc
 rw [Zd,Y_] at hj
 rcases hj with (hj|hj)|(hj|hj)
 ·exact h a ha j (.inl hj)
 ·exact h' b hb j (.inl hj)
 ·exact h a ha j (.inr hj)
 ·exact h' b hb j (.inr hj)
theorem lits_one {Φ:Nat→Prop} {c:Cl}:bB Φ [c]↔ ∀j,hp c j∨hn c j→Φ j:=⟨fun h=>h c (by simp),fun h d hd=>by simp at hd;subst hd;exact h⟩
theorem Da {Φ:Nat→Prop} {f g:List Cl} (h:bB Φ f) (h':bB Φ g):bB Φ (fS f g).1:=qB (acb h h')
theorem Dc {Φ:Nat→Prop} {f g:List Cl} (h:bB Φ f) (h':bB Φ g):bB Φ (e_ f g).1:=qB (I1 h h')
theorem Db {Φ:Nat→Prop} {f:List Cl} (h:bB Φ f):bB Φ (n5 f).1:=qB (I2 h fun c hc=>(wS hc).1)
theorem C_ {Φ:Nat→Prop} {step:List Cl→Cl→List Cl×Int}: ∀ {l h:List Cl},(∀c∈l,∀h,bB Φ h→bB Φ (step h c).1)→bB Φ h→bB Φ (ci step h l).1:=by
 intro l
 induction l with
 |nil=>intro h _ hh;exact hh
 |cons c l ih=>
  intro h hs hh
  unfold ci
  split
  ·exact ih (fun d hd=>hs d (by simp [hd])) (hs c (by simp) h hh)
  ·first|exact fV _|exact hs c (by simp) h hh
theorem acf {Φ:Nat→Prop} {c:Cl} (hc:RC c) (h: ∀j,hp c j∨hn c j→Φ j):bB Φ (oj c).1:=by
 refine qB fun d hd j hj=> ?_
 have hl: ∀ {s:Int} {x:Int},x∈jb s→ ∃n:Nat,n<24∧s.toNat.testBit n=true∧x=n:=by
  intro s x hx
  unfold jb ints at hx
  obtain ⟨n,hn,rfl⟩:=List.mem_map.1 hx
  have:=mem_bitsN.1 hn
  exact ⟨n,this.1,this.2,rfl⟩
 unfold qH at hd
 rcases List.mem_append.1 hd with hd|hd
 ·obtain ⟨x,hx,rfl⟩:=List.mem_map.1 hd
  obtain ⟨n,h1,h2,rfl⟩:=hl hx
  rcases hj with hj|hj
  ·exact absurd hj (Ze n h1 j)
  ·rw [(Za n h1 j).1 hj];exact h n (.inl h2)
 ·obtain ⟨x,hx,rfl⟩:=List.mem_map.1 hd
  obtain ⟨n,h1,h2,rfl⟩:=hl hx
  rcases hj with hj|hj
  ·rw [(Zf n h1 j).1 hj];exact h n (.inr h2)
  ·exact absurd hj (Zb n h1 j)
theorem ace {Φ:Nat→Prop} {f:List Cl} (hf:RF f) (h:bB Φ f):bB Φ (dZ f).1:=
 C_ (fun c hc g hg=>Dc hg (acf (hf.rc hc) (h c hc))) (lits_one.2 fun j hj=>by rcases hj with hj|hj<;>simp [hp,hn] at hj)
theorem YX {c:Cl} {n:Nat} (hn24:n<24) {j:Nat} (h:hp (dL n c) j∨hn (dL n c) j):(hp c j∨hn c j)∧j≠n:=by
 unfold hp hn dL at h
 rw [QG hn24,QG hn24] at h
 simp only [Bool.and_eq_true,Bool.not_eq_true',decide_eq_false_iff_not] at h
 exact h.elim (fun h=>⟨.inl h.1.1,h.2⟩) fun h=>⟨.inr h.1.1,h.2⟩
theorem acg {fa:Bool} {Φ:Nat→Prop} {n:Nat} (hn24:n<24) {f r:List Cl} (hr:RF r) (h:bB (fun j=>j≠n→Φ j) f) (h':bB Φ r):bB Φ (uw fa f n r).1:=by
 have hg: ∀c∈f,bB Φ [dL n c]:=fun c hc=>lits_one.2 fun j hj=>by
  obtain ⟨h1,h2⟩:=YX hn24 hj
  exact h c hc j h1 h2
 have hz:bB Φ (dZ r).1:=ace hr h'
 unfold uw
 cases fa
 ·show bB Φ (iq f n r).1
  unfold iq
  split
  ·refine C_ (fun c hc g hh=> ?_) (fV _)
   have hA:bB Φ (gm n r c).1:=by
    unfold gm
    split
    ·exact Dc (hg c hc) h'
    ·exact hg c hc
   have hB:bB Φ (jj n r c (gm n r c).1).1:=by
    unfold jj
    split
    ·split
     ·exact Dc hA hz
     ·exact fV _
    ·exact hA
   unfold j_
   split
   ·split
    ·exact Da hh hB
    ·exact fV _
   ·exact fV _
  ·exact fV _
 ·show bB Φ (io f n r).1
  unfold io
  split
  ·refine C_ (fun c hc g hh=> ?_) (fV _)
   have hG: ∀ {q:List Cl×Int},bB Φ q.1→bB Φ (gS n c g q).1:=fun hq=>by
    unfold gS
    split
    ·split
     ·exact Da hh (Db (I1 (hg c hc) hq))
     ·exact fV _
    ·exact fV _
   unfold fc
   split
   ·refine hG ?_
    unfold jg
    split
    ·exact Db h'
    ·exact fV _
   ·split
    ·refine hG ?_
     unfold j6
     split
     ·split
      ·exact Db hz
      ·exact fV _
     ·exact fV _
    ·exact Da hh (hg c hc)
  ·exact fV _
theorem acd {Φ:Nat→Prop} {f:List Cl} (hf:RF f) {n:Nat} (hn24:n<24) (h:bB (fun x=>x≠n→Φ (nz n x)) f):bB Φ (bn n f):=by
 unfold bn
 refine qB fun c hc j hj=> ?_
 obtain ⟨d,hd,rfl⟩:=List.mem_map.1 hc
 rcases hj with hj|hj
 ·obtain ⟨x,hx,he,rfl⟩:=(yq hn24 (hf.rc hd).1 j).1 hj
  exact h d hd x (.inl hx) he
 ·obtain ⟨x,hx,he,rfl⟩:=(yq hn24 (hf.rc hd).2 j).1 hj
  exact h d hd x (.inr hx) he
theorem I0 {Φ:Nat→Prop} {f:List Cl} (hf:RF f) {n b:Nat} (h0:(bA f n b).2=0) (h:bB (fun x=>Φ (fG n b x)) f):bB Φ (bA f n b).1:=by
 unfold bA at h0 ⊢
 rw [if_pos hf.right] at h0 ⊢
 split at h0
 case isFalse h1=>exact absurd h0 h1
 rename_i h1
 rw [if_pos h1]
 obtain ⟨e1,e2⟩:=YO h1
 refine qB ?_
 rw [e1,List.nil_append]
 intro c hc j hj
 obtain ⟨d,hd,rfl⟩:=List.mem_map.1 hc
 obtain ⟨q1,q2,q3⟩:=abS (e2 d hd)
 rw [q3] at hj
 rcases hj with hj|hj
 ·obtain ⟨x,hx,rfl⟩:=(IZ (hf.rc hd).1 q1 j).1 hj
  exact h d hd x (.inl hx)
 ·obtain ⟨x,hx,rfl⟩:=(IZ (hf.rc hd).2 q2 j).1 hj
  exact h d hd x (.inr hx)
theorem j5 {f:List Cl} (hf:RF f) {d:Int}:b_ f d=true↔bB (fun j=>(j:Int)<d) f:=by
 unfold b_
 rw [decide_eq_true_eq]
 have: ∀i:Nat,i∈f7 (jN f)↔i<24∧ ∃c∈f,hp c i∨hn c i:=fun i=>by
  rw [mem_bitsN,yp]
  unfold mV hp hn
  simp only [Bool.and_eq_true,List.any_eq_true,Bool.or_eq_true,decide_eq_true_eq]
  exact ⟨fun h=>⟨h.1,h.2.1⟩,fun h=>⟨h.1,h.2,h.1⟩⟩
 constructor
 ·intro h c hc j hj
  exact h j ((this j).2 ⟨hj.elim (Ej (hf.rc hc)) (Ei (hf.rc hc)),c,hc,hj⟩)
 ·intro h i hi
  obtain ⟨_,c,hc,hj⟩:=(this i).1 hi
  exact h c hc i hj
end Go.Proofs.YtgajalidbabccaaGreatDoor
namespace Go.Proofs.YtgajalidbabccaaGreatDoor
open Go PI
set_option linter.unusedVariables false
set_option linter.unusedSimpArgs false
set_option maxRecDepth 20000
theorem zb {f g:List Cl} {d b D:Int} (hf:RF f) (hd:0≤d) (hb:0≤b) (hl:b_ f D=true) (h:cL d b f= .ok g):b_ g (D+b)=true:=by
 have rg:=z7 hf h
 obtain ⟨n,rfl⟩:=zg hd
 obtain ⟨m,rfl⟩:=zg hb
 rw [j5 hf] at hl
 rw [j5 rg]
 unfold cL at h
 split at h
 ·injection h with h;subst h
  exact j0 hl fun j hj=>by omega
 ·obtain ⟨h0,rfl⟩:=iz h
  exact I0 hf h0 (j0 hl fun j hj=>by unfold fG;split<;>omega)
theorem y9 {f:List Cl} {d e:Int} (hf:RF f) (h:b_ f d=true) (hde:d≤e):b_ f e=true:=by
 rw [j5 hf] at h ⊢
 exact j0 h fun j hj=>by omega
theorem I4 {fa:Bool} {r f g:List Cl} {n D:Int} (hf:RF f) (hr:RF r) (hn:0≤n) (hnD:n≤D) (hl:b_ f (D+1)=true) (hlr:bB (fun j=>j≠0∧(j:Int)<D-n+1) r) (h:dK 0 r fa n f= .ok g):b_ g D=true:=by
 obtain ⟨n,rfl⟩:=zg hn
 rw [tz] at h
 obtain ⟨m,h1,h⟩:=ae h
 injection h with h;subst h
 have rm:=uO hf h1
 rw [Int.zero_add]
 by_cases hn24:n<24
 ·have hm:bB (fun j=>j≠n→((j:Int)<D+1)) m∧(qx f n→m=f)∧(¬qx f n→bB (fun j=>j≠n∧(j:Int)<D+1) m):=by
   rw [j5 hf] at hl
   unfold a_ at h1
   rw [Int.zero_add] at h1
   split at h1
   ·rename_i hh
    obtain ⟨s,es,h1⟩:=ae h1
    obtain ⟨h0,rfl⟩:=iz es
    obtain ⟨h2,rfl⟩:=iz h1
    have hls:bB (fun j=>j≠n∧(j:Int)<D+1) (bA r 0 n).1:=I0 (n:=0) hr h0 (j0 hlr fun j hj=>by unfold fG;rw [if_neg (by omega)];omega)
    have:=acg (fa:=fa) (f:=f) hn24 (i_ h0) (j0 hl fun j hj (hne:j≠n)=>⟨hne,hj⟩) hls
    exact ⟨j0 this fun j hj _=>hj.2,fun h=>absurd h (has_dims.1 hh).2,fun _=>this⟩
   ·rename_i hh
    injection h1 with h1;subst h1
    exact ⟨j0 hl fun j hj _=>hj,fun _=>rfl,fun h=>absurd (has_dims.2 ⟨hn24,h⟩) hh⟩
  rw [j5 (BJ rm.len)]
  refine acd rm hn24 ?_
  by_cases hk:qx f n
  ·have e:=hm.2.1 hk
   subst e
   refine j0 hm.1 fun x hx hxn=> ?_
   have:=hx hxn
   unfold nz;split<;>omega
  ·refine j0 (hm.2.2 hk) fun x hx _=> ?_
   have:=hx.1;have:=hx.2
   unfold nz;split<;>omega
 ·rw [Hb rm (by omega)]
  have:m=f:=by
   unfold a_ at h1
   rw [Int.zero_add,if_neg (fun h=>hn24 (has_dims.1 h).1)] at h1
   injection h1 with h1;exact h1.symm
  subst this
  rw [j5 rm] at hl ⊢
  refine fun c hc j hj=> ?_
  have:j<24:=hj.elim (Ej (rm.rc hc)) (Ei (rm.rc hc))
  omega
mutual
def aG:Tm→Int
 | .mk kd _ _ _ ks sys=>max (bO kd 0 ks) (aZ sys)
def bO (kd:Int) (i:Nat):List Tm→Int
 |[]=>0
 |t::l=>max (aR kd i+aG t) (bO kd (i+1) l)
def aZ:List (Br Tm)→Int
 |[]=>0
 |b::l=>max (d8 b) (aZ l)
def d8:Br Tm→Int
 | .mk _ ks=>bP ks
def bP:List Tm→Int
 |[]=>0
 |t::l=>max (1+aG t) (bP l)
end
theorem Bn (kd:Int): ∀ (l:List Tm) (i:Nat),0≤bO kd i l:=by
 intro l
 induction l with
 |nil=>intro i;rw [bO];decide
 |cons t l ih=>intro i;rw [bO];have:=ih (i+1);omega
theorem Va (l:List (Br Tm)):0≤aZ l:=by
 induction l with
 |nil=>rw [aZ];decide
 |cons t l ih=>rw [aZ];omega
theorem eF (t:Tm):0≤aG t:=by
 cases t;rw [aG];rename_i kd _ _ _ ks _;have:=Bn kd ks 0;omega
abbrev aF (V D:Int) (t:Tm):Prop:=ay true V D t=true
abbrev vo (bd:Bool) (vb db:Int) (x:Tm):Prop:= ∀ {v d V D:Int} {t':Tm},0≤d→0≤V→OkT x→RowsT x→ay bd V D x=true→(bd=true→D+db+aG x≤24)→bh vb db v d x= .ok t'→ay bd (V+vb) (D+db) t'=true
section
variable {bd:Bool} {vb db kd:Int}
theorem ahr {V v:Int} (hV:0≤V) (hvb:0≤vb) (hv:0≤v):a6 (V+vb) v=a6 V v+vb∧0≤a6 V v:=by
 unfold a6;rw [if_neg (by omega),if_neg (by omega)];omega
theorem af8 (hvb:0≤vb): ∀ {l l':List Tm} {i:Nat} {v d V D:Int},(∀x∈l,vo bd vb db x)→0≤d→0≤V→aL l→cP l→aY bd V D kd i l=true→(bd=true→D+db+bO kd i l≤24)→c5 vb db v d kd i l= .ok l'→aY bd (V+vb) (D+db) kd i l'=true:=by
 intro l
 induction l with
 |nil=>intro l' i v d V D _ _ _ _ _ _ _ h;rw [c5] at h;injection h with h;subst h;rw [aY]
 |cons t l ih=>
  intro l' i v d V D h hd hV ho hr ha hb hl
  rw [c5] at hl
  obtain ⟨t',e1,hl⟩:=ae hl
  obtain ⟨m,e2,hl⟩:=ae hl
  injection hl with hl;subst hl
  rw [aL] at ho
  rw [cP] at hr
  rw [aY,Bool.and_eq_true] at ha ⊢
  rw [bO] at hb
  have:=eo kd i;have:=kJ kd i
  obtain ⟨q1,q2⟩:=ahr (v:=be kd i) hV hvb (by omega)
  refine ⟨?_,ih (fun x hx=>h x (by simp [hx])) hd hV ho.2 hr.2 ha.2 (fun e=>by have:=hb e;omega) e2⟩
  have:=h t (by simp) (by omega) q2 ho.1 hr.1 ha.1 (fun e=>by have:=hb e;omega) e1
  rw [q1,show D+db+aR kd i=D+aR kd i+db by omega];exact this
theorem af_ (hvb:0≤vb): ∀ {l l':List Tm} {v d V D:Int},aH kd≤1→(∀x∈l,vo bd vb db x)→0≤d→0≤V→aL l→cP l→a8 bd V D kd l=true→(bd=true→D+db+bP l≤24)→c6 vb db v d kd l= .ok l'→a8 bd (V+vb) (D+db) kd l'=true:=by
 intro l
 induction l with
 |nil=>intro l' v d V D _ _ _ _ _ _ _ _ h;rw [c6] at h;injection h with h;subst h;rw [a8]
 |cons t l ih=>
  intro l' v d V D hm h hd hV ho hr ha hb hl
  rw [c6] at hl
  obtain ⟨t',e1,hl⟩:=ae hl
  obtain ⟨m,e2,hl⟩:=ae hl
  injection hl with hl;subst hl
  rw [aL] at ho
  rw [cP] at hr
  rw [a8,Bool.and_eq_true] at ha ⊢
  rw [bP] at hb
  have:=eA kd
  refine ⟨?_,ih hm (fun x hx=>h x (by simp [hx])) hd hV ho.2 hr.2 ha.2 (fun e=>by have:=hb e;omega) e2⟩
  have:=h t (by simp) (by omega) hV ho.1 hr.1 ha.1 (fun e=>by have:=hb e;omega) e1
  rw [show D+db+aH kd=D+aH kd+db by omega];exact this
theorem agd (hvb:0≤vb): ∀ {l l':List (Br Tm)} {v d V D:Int},(∀b∈l,∀x∈b.kids,vo bd vb db x)→0≤d→0≤V→aU l→dQ l→aI bd V D kd l=true→(bd=true→D+db+aZ l≤24)→cF vb db v d kd l= .ok l'→aI bd (V+vb) (D+db) kd l'=true:=by
 intro l
 induction l with
 |nil=>intro l' v d V D _ _ _ _ _ _ _ h;rw [cF] at h;injection h with h;subst h;rw [aI]
 |cons b l ih=>
  intro l' v d V D h hd hV ho hr ha hb hl
  rw [cF] at hl
  obtain ⟨b',e1,hl⟩:=ae hl
  obtain ⟨m,e2,hl⟩:=ae hl
  injection hl with hl;subst hl
  obtain ⟨f,ks⟩:=b
  rw [lk] at e1
  obtain ⟨f',e3,e1⟩:=ae e1
  obtain ⟨ks',e4,e1⟩:=ae e1
  injection e1 with e1;subst e1
  rw [aU,dP] at ho
  rw [dQ,kH] at hr
  rw [aI,cX,Bool.and_eq_true] at ha ⊢
  rw [aZ,d8] at hb
  have hb:bd=true→D+db+max (bP ks) (aZ l)≤24:=hb
  exact ⟨af_ hvb (eA kd).2 (h ⟨f,ks⟩ (by simp)) hd hV ho.1.2 hr.1.2 ha.1 (fun e=>by have:=hb e;show D+db+bP ks≤24;omega) e4,ih (fun b hb=>h b (by simp [hb])) hd hV ho.2 hr.2 ha.2 (fun e=>by have:=hb e;omega) e2⟩
theorem IW: ∀ {l l':List Tm} {v d:Int} {i:Nat},c5 vb db v d kd i l= .ok l'→l'.length=l.length:=by
 intro l
 induction l<;>grind [c5,→ae]
theorem abN: ∀ {l l':List (Br Tm)} {v d:Int},cF vb db v d kd l= .ok l'→l'.length=l.length:=by
 intro l
 induction l<;>grind [cF,→ae]
theorem abM: ∀ {l l':List Tm} {v d:Int},c6 vb db v d kd l= .ok l'→l'.length=l.length:=by
 intro l
 induction l<;>grind [c6,→ae]
theorem VF (hdb:0≤db): ∀ {l l':List (Br Tm)} {v d D:Int},0≤d→aU l→l.all (aQ kd D)=true→cF vb db v d kd l= .ok l'→l'.all (aQ kd (D+db))=true:=by
 intro l
 induction l with
 |nil=>intro l' v d D _ _ _ h;rw [cF] at h;injection h with h;subst h;rfl
 |cons b l ih=>
  intro l' v d D hd ho ha hl
  rw [cF] at hl
  obtain ⟨b',e1,hl⟩:=ae hl
  obtain ⟨m,e2,hl⟩:=ae hl
  injection hl with hl;subst hl
  obtain ⟨f,ks⟩:=b
  rw [lk] at e1
  obtain ⟨f',e3,e1⟩:=ae e1
  obtain ⟨ks',e4,e1⟩:=ae e1
  injection e1 with e1;subst e1
  rw [aU,dP] at ho
  rw [List.all_cons,Bool.and_eq_true] at ha ⊢
  refine ⟨?_,ih hd ho.2 ha.2 e2⟩
  have h1:=ha.1
  unfold aQ at h1 ⊢
  simp only [Bool.and_eq_true,decide_eq_true_eq] at h1 ⊢
  have hx:=(kg ho.1.1.1).1 h1.2.1
  exact ⟨by rw [abM e4];exact h1.1,qZ e3 ho.1.1.1 h1.2.1,zb hx.1 hd hdb h1.2.2 e3⟩
theorem uX (hvb:0≤vb) (hdb:0≤db) (t:Tm):vo bd vb db t:=by
 induction t using dr with
 |h kd n nm r ks sys ih1 ih2=>
  intro v d V D t' hd hV hok hro ha hb h
  have hrx:=hro
  rw [RowsT] at hro
  rw [bh] at h
  split at h
  ·cases h
  obtain ⟨r1,e1,h⟩:=ae h
  obtain ⟨ks1,e2,h⟩:=ae h
  obtain ⟨sys1,e3,h⟩:=ae h
  injection h with h;subst h
  rw [ay] at ha ⊢
  rw [aG] at hb
  obtain ⟨o1,o2,o3,o4,o5,o6,o7⟩:=hok.node
  have hok':=hok
  rw [OkT] at hok'
  have b0:=Bn kd ks 0
  simp only [Bool.and_eq_true] at ha ⊢
  obtain ⟨q1,q2,q3,q4⟩:=ha
  refine ⟨?_, ?_,af8 hvb ih1 hd hV hok'.2.1 hro.2.1 q3 (fun e=>by have:=hb e;omega) e2,agd hvb ih2 hd hV hok'.2.2 hro.2.2 q4 (fun e=>by have:=hb e;omega) e3⟩
  ·cases bd with
   |false=>rfl
   |true=>
    have:=hb rfl
    rw [decide_eq_false (by omega)];rfl
  unfold ca at q2 ⊢
  simp only [Bool.and_eq_true,decide_eq_true_eq] at q2 ⊢
  obtain ⟨⟨a1,a2,a3,a4⟩,a5⟩:=q2
  refine ⟨⟨by rw [IW e2];exact a1, ?_,a3,by rw [abN e3];exact a4⟩, ?_⟩
  ·by_cases c:kd=1
   ·exact .inl c
   ·exact .inr (by rw [if_neg (fun h=>c h.1)];exact a2.resolve_left c)
  ·have hlow:=fun h=>zb (D:=D) hro.1.1 hd hdb h e1
   by_cases c1:kd=1
   ·rw [if_pos c1] at a5 ⊢
    simp only [Bool.and_eq_true,decide_eq_true_eq] at a5 ⊢
    refine ⟨uN e1 a5.1, ?_, ?_⟩
    ·split<;>omega
    ·split<;>omega
   ·rw [if_neg c1] at a5 ⊢
    by_cases c2:kd=2
    ·rw [if_pos c2] at a5 ⊢
     simp only [Bool.and_eq_true,decide_eq_true_eq] at a5 ⊢
     exact ⟨uN e1 a5.1,a5.2⟩
    ·rw [if_neg c2] at a5 ⊢
     by_cases c3:kd=13∨kd=21∨kd=26
     ·rw [if_pos c3,Bool.and_eq_true] at a5 ⊢
      exact ⟨Et e1 o4 a5.1,hlow a5.2⟩
     ·rw [if_neg c3] at a5 ⊢
      by_cases c4:kd=14
      ·rw [if_pos c4,Bool.and_eq_true] at a5 ⊢
       exact ⟨qZ e1 o4 a5.1,hlow a5.2⟩
      ·rw [if_neg c4] at a5 ⊢
       simp only [Bool.and_eq_true,decide_eq_true_eq] at a5 ⊢
       exact ⟨VF hdb hd hok'.2.2 a5.1 e3,uN e1 a5.2⟩
end
end Go.Proofs.YtgajalidbabccaaGreatDoor
namespace Go.Proofs.YtgajalidbabccaaGreatDoor
open Go PI
set_option linter.unusedVariables false
set_option linter.unusedSimpArgs false
set_option maxRecDepth 20000
theorem Wc {fa:Bool} {f:List Cl} (hf:RX fa f) {n:Int} (hn:0≤n):RX fa (bn n f):=by
 obtain ⟨n,rfl⟩:=zg hn
 by_cases hn24:n<24
 ·refine ⟨BJ hf.1.len,fun e c hc=> ?_⟩
  have hm:c∈f.map (iN n):=by
   rw [(tK (w8 (j:=n) hf.1.len)).1] at hc
   exact (mem_mins.1 hc).1
  obtain ⟨d,hd,rfl⟩:=List.mem_map.1 hm
  refine calm_bits.2 fun j hj=> ?_
  obtain ⟨x,hx,hxn,h1⟩:=(yq hn24 (hf.1.rc hd).1 j).1 hj.1
  obtain ⟨y,hy,hyn,h2⟩:=(yq hn24 (hf.1.rc hd).2 j).1 hj.2
  have:x=y:=by unfold nz at h1 h2;split at h1<;>split at h2<;>omega
  subst this
  exact calm_bits.1 (hf.2 e d hd) x ⟨hx,hy⟩
 ·rw [Hb hf.1 (by omega)];exact hf
theorem ED {fa:Bool} {r f g:List Cl} {n:Int} (hf:RX fa f) (hr:RF r) (hn:0≤n) (h:dK 0 r fa n f= .ok g):RX fa g:=by
 rw [tz] at h
 obtain ⟨m,h1,h⟩:=ae h
 injection h with h;subst h
 rw [Int.zero_add]
 refine Wc ?_ hn
 unfold a_ at h1
 split at h1
 ·obtain ⟨s,es,h1⟩:=ae h1
  obtain ⟨h0,rfl⟩:=iz es
  obtain ⟨h2,rfl⟩:=iz h1
  exact adN hf.1.2 (i_ h0).2 h2
 ·injection h1 with h1;subst h1;exact hf
theorem Cx {r f g:List Cl} {fa:Bool} {n:Int} (hf:f.length=0) (h:dK 0 r fa n f= .ok g):g.length=0:=by
 rw [List.length_eq_zero_iff.1 hf] at h
 rw [YL h];rfl
abbrev vu (bd:Bool) (r:List Cl) (c:Int) (x:Tm):Prop:= ∀ {n V D:Int} {t':Tm},0≤n→n≤D→D-n=c→OkT x→RowsT x→ay bd V (D+1) x=true→bj (dK 0 r false) (dK 0 r true) n x= .ok t'→ay bd V D t'=true
section
variable {bd:Bool} {r:List Cl} {c kd:Int}
theorem agL: ∀ {l l':List Tm} {i:Nat} {n V D:Int},(∀x∈l,vu bd r c x)→0≤n→n≤D→D-n=c→aL l→cP l→aY bd V (D+1) kd i l=true→bU (dK 0 r false) (dK 0 r true) n kd i l= .ok l'→aY bd V D kd i l'=true∧l'.length=l.length:=by
 intro l
 induction l with
 |nil=>intro l' i n V D _ _ _ _ _ _ _ h;rw [bU] at h;injection h with h;subst h;exact ⟨by rw [aY],rfl⟩
 |cons t l ih=>
  intro l' i n V D h hn hD hc ho hr ha hl
  rw [bU] at hl
  obtain ⟨t',e1,hl⟩:=ae hl
  obtain ⟨m,e2,hl⟩:=ae hl
  injection hl with hl;subst hl
  rw [aL] at ho
  rw [cP] at hr
  rw [aY,Bool.and_eq_true] at ha ⊢
  have:=eo kd i
  obtain ⟨q1,q2⟩:=ih (fun x hx=>h x (by simp [hx])) hn hD hc ho.2 hr.2 ha.2 e2
  refine ⟨⟨h t (by simp) (n:=n+aR kd i) (D:=D+aR kd i) (by omega) (by omega) (by omega) ho.1 hr.1 ?_ e1,q1⟩,by rw [List.length_cons,List.length_cons,q2]⟩
  rw [show D+aR kd i+1=D+1+aR kd i by omega];exact ha.1
theorem agM: ∀ {l l':List Tm} {n V D:Int},(∀x∈l,vu bd r c x)→0≤n→n≤D→D-n=c→aL l→cP l→a8 bd V (D+1) kd l=true→bZ (dK 0 r false) (dK 0 r true) n kd l= .ok l'→a8 bd V D kd l'=true∧l'.length=l.length:=by
 intro l
 induction l with
 |nil=>intro l' n V D _ _ _ _ _ _ _ h;rw [bZ] at h;injection h with h;subst h;exact ⟨by rw [a8],rfl⟩
 |cons t l ih=>
  intro l' n V D h hn hD hc ho hr ha hl
  rw [bZ] at hl
  obtain ⟨t',e1,hl⟩:=ae hl
  obtain ⟨m,e2,hl⟩:=ae hl
  injection hl with hl;subst hl
  rw [aL] at ho
  rw [cP] at hr
  rw [a8,Bool.and_eq_true] at ha ⊢
  have:=eA kd
  obtain ⟨q1,q2⟩:=ih (fun x hx=>h x (by simp [hx])) hn hD hc ho.2 hr.2 ha.2 e2
  refine ⟨⟨h t (by simp) (n:=n+aH kd) (D:=D+aH kd) (by omega) (by omega) (by omega) ho.1 hr.1 ?_ e1,q1⟩,by rw [List.length_cons,List.length_cons,q2]⟩
  rw [show D+aH kd+1=D+1+aH kd by omega];exact ha.1
theorem agN (hr:RF r) (hlr:bB (fun j=>j≠0∧(j:Int)<c+1) r): ∀ {l l':List (Br Tm)} {n V D:Int},(∀b∈l,∀x∈b.kids,vu bd r c x)→0≤n→n≤D→D-n=c→aU l→dQ l→aI bd V (D+1) kd l=true→bm (dK 0 r false) (dK 0 r true) n kd l= .ok l'→
  aI bd V D kd l'=true∧(l.length=0→l'.length=0)∧(l.all (aQ kd (D+1))=true→l'.all (aQ kd D)=true):=by
 intro l
 induction l with
 |nil=>intro l' n V D _ _ _ _ _ _ _ h;rw [bm] at h;injection h with h;subst h;exact ⟨by rw [aI],fun h=>h,fun _=>rfl⟩
 |cons b l ih=>
  intro l' n V D h hn hD hc ho hrw ha hl
  rw [bm] at hl
  obtain ⟨o,e1,hl⟩:=ae hl
  obtain ⟨m,e2,hl⟩:=ae hl
  injection hl with hl;subst hl
  obtain ⟨f,ks⟩:=b
  rw [aU,dP] at ho
  rw [dQ,kH] at hrw
  rw [aI,cX,Bool.and_eq_true] at ha
  obtain ⟨q1,q2,q3⟩:=ih (fun b hb=>h b (by simp [hb])) hn hD hc ho.2 hrw.2 ha.2 e2
  rw [fH] at e1
  obtain ⟨f',e3,e1⟩:=ae e1
  split at e1
  ·injection e1 with e1;subst e1
   exact ⟨q1,(fun h=>by cases h),fun h=>by rw [List.all_cons,Bool.and_eq_true] at h;exact q3 h.2⟩
  ·obtain ⟨ks',e4,e1⟩:=ae e1
   injection e1 with e1;subst e1
   obtain ⟨q4,q5⟩:=agM (kd:=kd) (h ⟨f,ks⟩ (by simp)) hn hD hc ho.1.2 hrw.1.2 ha.1 e4
   refine ⟨?_,(fun h=>by cases h),fun h=> ?_⟩
   ·show aI bd V D kd (⟨f',ks'⟩::m)=true
    rw [aI,cX,Bool.and_eq_true];exact ⟨q4,q1⟩
   ·show (Br.mk f' ks'::m).all (aQ kd D)=true
    rw [List.all_cons,Bool.and_eq_true] at h ⊢
    refine ⟨?_,q3 h.2⟩
    have h1:=h.1
    unfold aQ at h1 ⊢
    simp only [Bool.and_eq_true,decide_eq_true_eq] at h1 ⊢
    have hx:=(kg ho.1.1.1).1 h1.2.1
    have hx':=ED (fa:=true) ⟨hx.1,fun _=>hx.2⟩ hr hn e3
    exact ⟨by rw [q5];exact h1.1,RFa.right ⟨hx'.1,hx'.2 rfl⟩,I4 hx.1 hr hn hD h1.2.2 (by rw [show D-n+1=c+1 by omega];exact hlr) e3⟩
theorem Oe (hr:RF r) (hlr:bB (fun j=>j≠0∧(j:Int)<c+1) r) (t:Tm):vu bd r c t:=by
 induction t using dr with
 |h kd k nm r0 ks sys ih1 ih2=>
  intro n V D t' hn hD hc hok hro ha h
  have hrx:=hro
  rw [RowsT] at hro
  rw [bj] at h
  obtain ⟨r1,e1,h⟩:=ae h
  obtain ⟨ks1,e2,h⟩:=ae h
  obtain ⟨sys1,e3,h⟩:=ae h
  injection h with h;subst h
  rw [ay] at ha ⊢
  obtain ⟨o1,o2,o3,o4,o5,o6,o7⟩:=hok.node
  have hok':=hok
  rw [OkT] at hok'
  simp only [Bool.and_eq_true] at ha ⊢
  obtain ⟨q1,q2,q3,q4⟩:=ha
  obtain ⟨k1,k2⟩:=agL ih1 hn hD hc hok'.2.1 hro.2.1 q3 e2
  obtain ⟨s1,s2,s3⟩:=agN hr hlr ih2 hn hD hc hok'.2.2 hro.2.2 q4 e3
  refine ⟨?_, ?_,k1,s1⟩
  ·cases bd with
   |false=>rfl
   |true=>
    have: ¬D+1>24:=by simpa using q1
    rw [decide_eq_false (by omega)];rfl
  unfold ca at q2 ⊢
  simp only [Bool.and_eq_true,decide_eq_true_eq] at q2 ⊢
  obtain ⟨⟨a1,a2,a3,a4⟩,a5⟩:=q2
  refine ⟨⟨by rw [k2];exact a1,a2,a3,fun h=>s2 (a4 h)⟩, ?_⟩
  have hlow: ∀ {fa:Bool},b_ r0 (D+1)=true→dK 0 r fa n r0= .ok r1→b_ r1 D=true:=fun hl he=>I4 hro.1.1 hr hn hD hl (by rw [show D-n+1=c+1 by omega];exact hlr) he
  by_cases c4:kd=14
  ·subst c4
   rw [if_neg (by decide),if_neg (by decide),if_neg (by decide),if_pos rfl,Bool.and_eq_true] at a5 ⊢
   rw [if_pos rfl] at e1
   have hx:=(kg o4).1 a5.1
   have hx':=ED (fa:=true) ⟨hx.1,fun _=>hx.2⟩ hr hn e1
   exact ⟨RFa.right ⟨hx'.1,hx'.2 rfl⟩,hlow a5.2 e1⟩
  ·rw [if_neg c4] at e1
   rw [if_neg c4] at a5 ⊢
   by_cases c1:kd=1
   ·rw [if_pos c1] at a5 ⊢
    simp only [Bool.and_eq_true,decide_eq_true_eq] at a5 ⊢
    exact ⟨Cx a5.1 e1,a5.2⟩
   ·rw [if_neg c1] at a5 ⊢
    by_cases c2:kd=2
    ·rw [if_pos c2] at a5 ⊢
     simp only [Bool.and_eq_true,decide_eq_true_eq] at a5 ⊢
     exact ⟨Cx a5.1 e1,a5.2⟩
    ·rw [if_neg c2] at a5 ⊢
     by_cases c3:kd=13∨kd=21∨kd=26
     ·rw [if_pos c3,Bool.and_eq_true] at a5 ⊢
      have hx':=ED (fa:=false) ⟨hro.1.1,fun h=>by cases h⟩ hr hn e1
      exact ⟨hx'.1.right,hlow a5.2 e1⟩
     ·rw [if_neg c3] at a5 ⊢
      simp only [Bool.and_eq_true,decide_eq_true_eq] at a5 ⊢
      exact ⟨s3 a5.1,Cx a5.2 e1⟩
end
end Go.Proofs.YtgajalidbabccaaGreatDoor
namespace Go.Proofs.YtgajalidbabccaaGreatDoor
open Go PI
set_option linter.unusedVariables false
set_option linter.unusedSimpArgs false
set_option maxRecDepth 20000
section
variable {vb db kd:Int}
theorem Vf: ∀ {l l':List Tm} {i:Nat} {v d:Int},(∀x∈l,∀ {v d:Int} {t':Tm},bh vb db v d x= .ok t'→aG t'=aG x)→c5 vb db v d kd i l= .ok l'→bO kd i l'=bO kd i l:=by
 intro l
 induction l<;>grind [c5,bO,→ae]
theorem Vg: ∀ {l l':List Tm} {v d:Int},(∀x∈l,∀ {v d:Int} {t':Tm},bh vb db v d x= .ok t'→aG t'=aG x)→c6 vb db v d kd l= .ok l'→bP l'=bP l:=by
 intro l
 induction l<;>grind [c6,bP,→ae]
theorem Vk: ∀ {l l':List (Br Tm)} {v d:Int},(∀b∈l,∀x∈b.kids,∀ {v d:Int} {t':Tm},bh vb db v d x= .ok t'→aG t'=aG x)→cF vb db v d kd l= .ok l'→aZ l'=aZ l:=by
 intro l
 induction l with
 |nil=>grind [cF]
 |cons b l ih=>
  intro l' v d h hl
  rw [cF] at hl
  obtain ⟨b',e1,hl⟩:=ae hl
  obtain ⟨m,e2,hl⟩:=ae hl
  injection hl with hl;subst hl
  obtain ⟨f,ks⟩:=b
  rw [lk] at e1
  obtain ⟨f',e3,e1⟩:=ae e1
  obtain ⟨ks',e4,e1⟩:=ae e1
  injection e1 with e1;subst e1
  rw [aZ,aZ,d8,d8,ih (fun b hb=>h b (by simp [hb])) e2,Vg (h ⟨f,ks⟩ (by simp)) e4]
theorem wN (t:Tm): ∀ {v d:Int} {t':Tm},bh vb db v d t= .ok t'→aG t'=aG t:=by
 induction t using dr with
 |h kd n nm r ks sys ih1 ih2=>
  intro v d t' h
  rw [bh] at h
  split at h
  ·cases h
  obtain ⟨r1,e1,h⟩:=ae h
  obtain ⟨ks1,e2,h⟩:=ae h
  obtain ⟨sys1,e3,h⟩:=ae h
  injection h with h;subst h
  rw [aG,aG,Vf ih1 e2,Vk ih2 e3]
end
theorem iJ {a b:Int} {t t':Tm} (h:aD a b t= .ok t'):aG t'=aG t:=by
 obtain ⟨m,h1,h2⟩:=ae h
 rw [wN m h2,wN t h1]
end Go.Proofs.YtgajalidbabccaaGreatDoor
namespace Go.Proofs.YtgajalidbabccaaGreatDoor
open Go PI
set_option linter.unusedVariables false
set_option linter.unusedSimpArgs false
set_option maxRecDepth 20000
variable {S:Type} {k:Nat}
theorem ag0 (t:Tm):di 0 [⟨0,0⟩] t=bj (dK 0 [⟨0,0⟩] false) (dK 0 [⟨0,0⟩] true) 0 t:=by
 rfl
theorem aeu:RC ⟨0,1⟩:=⟨⟨by decide,by decide⟩,by decide,by decide⟩
theorem aev:RC ⟨1,0⟩:=⟨⟨by decide,by decide⟩,by decide,by decide⟩
end Go.Proofs.YtgajalidbabccaaGreatDoor
namespace Go.Proofs.YtgajalidbabccaaGreatDoor
open Go PI
set_option linter.unusedVariables false
set_option linter.unusedSimpArgs false
set_option maxRecDepth 20000
theorem uW {V D:Int} {t:Tm} (h:aF V D t):D≤24:=by
 cases t
 unfold aF at h
 rw [ay] at h
 simp only [Bool.true_and,Bool.and_eq_true,Bool.not_eq_true',decide_eq_false_iff_not] at h
 omega
theorem eR {V D kd:Int} {l:List Tm} (h1:kd≠1∧kd≠2) (hk:fT kd=l.length) (hD:D≤24) (ha:aY true V D kd 0 l=true):aF V D (aw kd l):=by
 unfold aF aw
 rw [ay,aI]
 simp only [Bool.true_and,Bool.and_eq_true,Bool.not_eq_true',decide_eq_false_iff_not,Bool.and_true]
 refine ⟨by omega, ?_,ha⟩
 unfold ca
 simp only [Bool.and_eq_true,decide_eq_true_eq]
 refine ⟨⟨hk,by simp,by simp,fun _=>rfl⟩, ?_⟩
 rw [if_neg h1.1,if_neg h1.2]
 have hl:b_ [] D=true:=De D [] rfl
 split
 ·rw [hl];rfl
 ·split
  ·rw [hl];rfl
  ·rfl
theorem gX {V D n:Int} (hn:0≤n) (hV:n<V) (hD:D≤24):aF V D (vN n):=by
 unfold aF vN
 rw [ay,aI,aY]
 simp only [Bool.true_and,Bool.and_eq_true,Bool.not_eq_true',decide_eq_false_iff_not,Bool.and_true]
 refine ⟨by omega, ?_⟩
 unfold ca
 simp only [Bool.and_eq_true,decide_eq_true_eq]
 exact ⟨⟨rfl,by simp,by simp,fun _=>rfl⟩,by simp;omega⟩
theorem c8 {V D a b:Int} {t t':Tm} (hf:Fm t) (ha:0≤a∧a≤1000) (hb:0≤b) (hV:0≤V) (hs:aF V D t) (hd:D+b+aG t≤24) (h:aD a b t= .ok t'):aF (V+a) (D+b) t':=by
 unfold aD at h
 obtain ⟨m,h1,h2⟩:=ae h
 have fm:=ja (by omega) hf h1
 have s1:=uX ha.1 (by decide) t (Int.le_refl 0) hV hf.ok hf.rows hs (fun _=>by omega) h1
 have e:aG m=aG t:=wN t h1
 have s2:=uX (Int.le_refl 0) hb m (Int.le_refl 0) (by omega) fm.ok fm.rows s1 (fun _=>by omega) h2
 rw [Int.add_zero,Int.add_zero] at s2;exact s2
theorem Od {V D:Int} {t t':Tm} (hf:Fm t) (hD:0≤D) (hs:aF V (D+1) t) (h:di 0 [⟨0,0⟩] t= .ok t'):aF V D t':=by
 rw [ag0] at h
 refine Oe (c:=D) (gq qU) ?_ t (Int.le_refl 0) hD (by omega) hf.ok hf.rows hs h
 exact lits_one.2 fun j hj=>by rcases hj with hj|hj<;>simp [hp,hn] at hj
theorem N9 {V D:Int} {r s:List Cl} {t t':Tm} (hr:bA r 0 1=(s,0)) (hl:bB (fun j=>j=1∨j=2) s) (hf:Fm t) (hD:0≤D) (hV:0≤V) (hs:aF V (D+1) t) (hd:D+3+aG t≤24) (h:g6 r t= .ok t'):aF V (D+2) t':=by
 have rs:RF s:=by
  have:=i_ (f:=r) (i:=0) (b:=1) (by rw [hr])
  rw [hr] at this;exact this
 unfold g6 at h
 obtain ⟨m,h1,h⟩:=ae h
 unfold di at h
 rw [hr,rq rfl,aN] at h
 have fm:=ja (by omega) hf h1
 have s1:=uX (Int.le_refl 0) (by omega) t (by omega) hV hf.ok hf.rows hs (fun _=>by omega) h1
 rw [Int.add_zero] at s1
 refine Oe (c:=D+2) rs (j0 hl fun j hj=>by omega) m (Int.le_refl 0) (by omega) (by omega) fm.ok fm.rows ?_ h
 rw [show D+2+1=D+1+2 by omega];exact s1
theorem sF (j:Nat):((1:Nat).testBit j=true↔j=0)∧((2:Nat).testBit j=true↔j=1)∧((4:Nat).testBit j=true↔j=2):=by
 refine ⟨?_, ?_, ?_⟩
 ·rw [show 1=2^0 from rfl,Nat.testBit_two_pow,decide_eq_true_eq];exact eq_comm
 ·rw [show 2=2^1 from rfl,Nat.testBit_two_pow,decide_eq_true_eq];exact eq_comm
 ·rw [show 4=2^2 from rfl,Nat.testBit_two_pow,decide_eq_true_eq];exact eq_comm
theorem aca:bB (fun j=>j=1∨j=2) [⟨6,0⟩]:=lits_one.2 fun j hj=>hj.elim (agm j).1 fun h=>absurd h (vl _ _)
theorem ab_:bB (fun j=>j=1∨j=2) [⟨2,0⟩,⟨4,0⟩]:=fun c hc j hj=>by
 simp at hc
 rcases hc with rfl|rfl
 ·exact hj.elim (fun h=> .inl ((sF j).2.1.1 h)) fun h=>absurd h (vl _ _)
 ·exact hj.elim (fun h=> .inr ((sF j).2.2.1 h)) fun h=>absurd h (vl _ _)
theorem all1 {V D kd:Int} {i:Nat} {t:Tm}:aY true V D kd i [t]=true↔ay true (a6 V (be kd i)) (D+aR kd i) t=true:=by
 rw [aY,aY,Bool.and_true]
theorem all2 {V D kd:Int} {i:Nat} {t u:Tm}:aY true V D kd i [t,u]=true↔ay true (a6 V (be kd i)) (D+aR kd i) t=true∧ay true (a6 V (be kd (i+1:Nat))) (D+aR kd (i+1:Nat)) u=true:=by
 rw [aY,Bool.and_eq_true,all1]
theorem all3 {V D kd:Int} {i:Nat} {t u w:Tm}:aY true V D kd i [t,u,w]=true↔ay true (a6 V (be kd i)) (D+aR kd i) t=true∧ay true (a6 V (be kd (i+1:Nat))) (D+aR kd (i+1:Nat)) u=true∧ay true (a6 V (be kd (i+1+1:Nat))) (D+aR kd (i+1+1:Nat)) w=true:=by
 rw [aY,Bool.and_eq_true,all2]
theorem cO (V:Int):a6 V 0=V:=by unfold a6;split<;>omega
theorem kx {V:Int} (h:0≤V):a6 V 1=V+1:=by unfold a6;rw [if_neg (by omega)]
theorem ES {V D:Int} {r:List Cl} {l a:Tm} (hr:cW r=true) (hlow:b_ r D=true) (hD:D≤24) (hl:aF V (D+1) l) (ha:aF V D a):aF V D (.mk 14 0 ByteArray.empty r [l,a] []):=by
 unfold aF
 rw [ay,aI]
 simp only [Bool.true_and,Bool.and_eq_true,Bool.not_eq_true',decide_eq_false_iff_not,Bool.and_true]
 refine ⟨by omega, ?_, ?_⟩
 ·show (true&&(cW r&&b_ r D))=true
  rw [hr,hlow];rfl
 ·rw [all2]
  show ay true (a6 V 0) (D+1) l=true∧ay true (a6 V 0) (D+0) a=true
  rw [cO,Int.add_zero];exact ⟨hl,ha⟩
theorem mJ {V D:Int} {l a:Tm} {sys:List (Br Tm)} (hD:D≤24) (hl:aF V D l) (ha:aF V D a) (hb:sys.all (aQ 15 D)=true) (hs:aI true V D 15 sys=true):aF V D (.mk 15 0 ByteArray.empty [] [l,a] sys):=by
 unfold aF
 rw [ay,hs]
 simp only [Bool.true_and,Bool.and_eq_true,Bool.not_eq_true',decide_eq_false_iff_not,Bool.and_true]
 refine ⟨by omega, ?_, ?_⟩
 ·show (true&&(sys.all (aQ 15 D)&&true))=true
  rw [hb];rfl
 ·rw [all2]
  show ay true (a6 V 0) (D+0) l=true∧ay true (a6 V 0) (D+0) a=true
  rw [cO,Int.add_zero];exact ⟨hl,ha⟩
theorem Qx {V D:Int} {sys:List (Br Tm)} (h:aF V D (a7 sys)):sys.all (aQ 15 D)=true∧aI true V D 15 sys=true:=by
 unfold aF a7 at h
 rw [ay] at h
 simp only [Bool.true_and,Bool.and_eq_true,Bool.not_eq_true',decide_eq_false_iff_not] at h
 obtain ⟨_,h1,_,h2⟩:=h
 have h1:(true&&(sys.all (aQ 15 D)&&true))=true:=h1
 rw [Bool.true_and,Bool.and_true] at h1
 exact ⟨h1,h2⟩
theorem y_ {D:Int} (hD:1≤D):b_ [⟨1,0⟩] D=true:=(j5 (gq aev)).2 (lits_one.2 fun j hj=>by
 rcases hj with hj|hj
 ·have:=(sF j).1.1 hj;omega
 ·exact absurd hj (vl _ _))
theorem Yy:cW [⟨1,0⟩]=true:=by decide
theorem af1 {V D:Int} {line a x:Tm} {sys:List (Br Tm)} (hl:Fm line) (hD:0≤D∧D≤12) (hV:0≤V) (s1:aF V (D+1) line) (s2:aF V D a) (s3:aF V D (a7 sys)) (sy:SyF sys) (hb:aG line≤8) (h:eb line a sys= .ok x):aF V D x:=by
 unfold eb at h
 obtain ⟨l1,e1,h⟩:=ae h
 obtain ⟨l,e2,h⟩:=ae h
 injection h with h;subst h
 obtain ⟨w1,w2⟩:=Qx s3
 have key: ∀ {sys l:List (Br Tm)},(∀b∈sys,b.kids=[ak b])→sys.all (aQ 15 D)=true→aI true V D 15 sys=true→gG line sys= .ok l→l.all (aQ 15 D)=true∧aI true V D 15 l=true:=by
  intro sys
  induction sys with
  |nil=>intro l _ _ _ h;rw [gG] at h;injection h with h;subst h;exact ⟨rfl,by rw [aI]⟩
  |cons b r ih=>
   intro l hk h1 h2 h
   rw [gG] at h
   obtain ⟨u,q1,h⟩:=ae h
   obtain ⟨m,q2,h⟩:=ae h
   injection h with h;subst h
   rw [List.all_cons,Bool.and_eq_true] at h1 ⊢
   rw [aI,Bool.and_eq_true] at h2 ⊢
   obtain ⟨i1,i2⟩:=ih (fun b hb=>hk b (by simp [hb])) h1.2 h2.2 q2
   have hb1:=hk b (by simp)
   have hkid:aF V (D+1) (ak b):=by
    have:=h2.1
    obtain ⟨f,ks⟩:=b
    have hb1:ks=[ak ⟨f,ks⟩]:=hb1
    rw [cX,hb1,a8,Bool.and_eq_true] at this
    exact this.1
   refine ⟨⟨?_,i1⟩, ?_,i2⟩
   ·have:=h1.1
    unfold aQ at this ⊢
    rw [Bool.and_eq_true] at this ⊢
    exact ⟨rfl,this.2⟩
   ·rw [cX,a8,a8,Bool.and_true]
    refine ES Yy (y_ (by show 1≤D+aH 15;have:aH 15=1:=rfl;omega)) (by have:aH 15=1:=rfl;omega) ?_ hkid
    have:=N9 (r:=[⟨1,0⟩,⟨2,0⟩]) (s:=[⟨2,0⟩,⟨4,0⟩]) (by decide) ab_ hl hD.1 hV s1 (by omega) q1
    rw [show D+aH 15+1=D+2 by have:aH 15=1:=rfl;omega];exact this
 obtain ⟨k1,k2⟩:=key (fun b hb=>(sy.kid b hb).1) w1 w2 e2
 exact mJ (by omega) (Od hl hD.1 s1 e1) (ES (by decide) (De _ _ rfl) (by omega) s1 s2) k1 k2
theorem IQ {V D:Int} {b:Br Tm} {r:List (Br Tm)} (hb1:b.kids=[ak b]) (h2:aI true V D 15 (b::r)=true):aF V (D+1) (ak b)∧aI true V D 15 r=true:=by
 rw [aI,Bool.and_eq_true] at h2
 refine ⟨?_,h2.2⟩
 have:=h2.1
 obtain ⟨f,ks⟩:=b
 have hb1:ks=[ak ⟨f,ks⟩]:=hb1
 rw [cX,hb1,a8,Bool.and_eq_true] at this
 exact this.1
theorem I5 {D:Int} (hD:1≤D):b_ [⟨0,1⟩] D=true:=(j5 (gq aeu)).2 (lits_one.2 fun j hj=>by
 rcases hj with hj|hj
 ·simp [hp] at hj
 ·have:=(sF j).1.1 hj;omega)
theorem N_ {V D:Int} {t a x:Tm} {sys:List (Br Tm)} (ht:Fm t) (ha:Fm a) (hD:0≤D∧D≤12) (hV:0≤V) (s1:aF V D t) (s2:aF V D a) (s3:aF V D (a7 sys)) (sy:SyF sys) (hb:aG t≤8) (hba:aG a≤8) (hbs:aZ sys≤8) (h:dp t a sys= .ok x):aF V (D+1) x:=by
 unfold dp at h
 obtain ⟨t',e1,h⟩:=ae h
 obtain ⟨a',e2,h⟩:=ae h
 obtain ⟨l,e3,h⟩:=ae h
 obtain ⟨a2,e4,h⟩:=ae h
 injection h with h;subst h
 obtain ⟨w1,w2⟩:=Qx s3
 have key: ∀ {sys l:List (Br Tm)},(∀b∈sys,b.kids=[ak b]∧Fm (ak b)∧aE b.face∧b.face.length<1073741824)→aZ sys≤8→sys.all (aQ 15 D)=true→aI true V D 15 sys=true→gK sys= .ok l→l.all (aQ 15 (D+1))=true∧aI true V (D+1) 15 l=true:=by
  intro sys
  induction sys with
  |nil=>intro l _ _ _ _ h;rw [gK] at h;injection h with h;subst h;exact ⟨rfl,by rw [aI]⟩
  |cons b r ih=>
   intro l hk hbd h1 h2 h
   rw [gK] at h
   obtain ⟨f,q0,h⟩:=ae h
   obtain ⟨u,q1,h⟩:=ae h
   obtain ⟨m,q2,h⟩:=ae h
   injection h with h;subst h
   rw [List.all_cons,Bool.and_eq_true] at h1 ⊢
   obtain ⟨hb1,hfb,hof,_⟩:=hk b (by simp)
   obtain ⟨hkid,h2r⟩:=IQ hb1 h2
   have hbk:1+aG (ak b)≤8∧aZ r≤8:=by
    rw [aZ] at hbd
    obtain ⟨f,ks⟩:=b
    have hb1:ks=[ak ⟨f,ks⟩]:=hb1
    rw [d8] at hbd
    have:bP ks=max (1+aG (ak ⟨f,ks⟩)) 0:=by rw [hb1,bP,bP];rfl
    omega
   obtain ⟨i1,i2⟩:=ih (fun b hb=>hk b (by simp [hb])) hbk.2 h1.2 h2r q2
   rw [aI,Bool.and_eq_true]
   refine ⟨⟨?_,i1⟩, ?_,i2⟩
   ·have:=h1.1
    unfold aQ at this ⊢
    simp only [Bool.and_eq_true] at this ⊢
    have hr:cL 0 1 b.face= .ok f:=by unfold cL;rw [if_neg (by decide)];exact q0
    exact ⟨rfl,qZ hr hof this.2.1,zb ((kg hof).1 this.2.1).1 (by decide) (by decide) this.2.2 hr⟩
   ·rw [cX,a8,a8,Bool.and_true]
    have:=N9 (r:=[⟨3,0⟩]) (s:=[⟨6,0⟩]) (by decide) aca hfb hD.1 hV hkid (by omega) q1
    rw [show D+1+aH 15=D+2 by have:aH 15=1:=rfl;omega];exact this
 obtain ⟨k1,k2⟩:=key (fun b hb=>sy.kid b hb) hbs w1 w2 e3
 have u1:=c8 ht (by omega) (by omega) hV s1 (by omega) e1
 have u2:=c8 ha (by omega) (by omega) hV s2 (by omega) e2
 have u3:=c8 ha (by omega) (by omega) hV s2 (by omega) e4
 rw [Int.add_zero] at u1 u2 u3
 refine mJ (by omega) u1 u2 ?_ ?_
 ·rw [List.all_append,k1,List.all_cons,Bool.true_and,List.all_nil,Bool.and_true]
  unfold aQ
  simp only [Bool.and_eq_true]
  exact ⟨rfl,by decide,I5 (by omega)⟩
 ·rw [jD,List.all_append,←jD,k2,List.all_cons,Bool.true_and,List.all_nil,Bool.and_true,List.all_cons,List.all_nil,Bool.and_true]
  rw [show D+1+aH 15=D+2 by have:aH 15=1:=rfl;omega];exact u3
theorem af5 {V D:Int} {t a f y x:Tm} (ha:Fm a) (hf:Fm f) (hy:Fm y) (hD:0≤D) (hV:0≤V) (s1:aF V D t) (s2:aF V D a) (s3:aF V D f) (s4:aF V D y) (hb:D+1+aG a≤24) (hbf:D+aG f≤24) (hby:D+aG y≤24) (h:kU t a f y= .ok x):aF V D x:=by
 unfold kU at h
 obtain ⟨a',e1,h⟩:=ae h
 obtain ⟨y',e2,h⟩:=ae h
 obtain ⟨f',e3,h⟩:=ae h
 injection h with h;subst h
 have hle:=uW s1
 have u1:=c8 ha (by omega) (by omega) hV s2 (by omega) e1
 have u2:=c8 hy (by omega) (by omega) hV s4 (by omega) e2
 have u3:=c8 hf (by omega) (by omega) hV s3 (by omega) e3
 rw [Int.add_zero] at u2 u3
 have b11:aR 11 0=1:=rfl
 refine eR (by decide) rfl hle (all2.2 ⟨?_, ?_⟩)
 ·show ay true (a6 V 0) (D+0) t=true
  rw [cO,Int.add_zero];exact s1
 ·show aF (a6 V 1) (D+0) _
  rw [kx hV,Int.add_zero]
  have:=eF a
  refine eR (by decide) rfl hle (all3.2 ⟨?_, ?_, ?_⟩)
  ·show ay true (a6 (V+1) 0) (D+1) a'=true
   rw [cO];exact u1
  ·show ay true (a6 (V+1) 0) (D+0) y'=true
   rw [cO,Int.add_zero];exact u2
  ·show aF (a6 (V+1) 0) (D+0) _
   rw [cO,Int.add_zero]
   refine eR (by decide) rfl hle (all2.2 ⟨?_, ?_⟩)
   ·show ay true (a6 (V+1) 0) (D+0) f'=true
    rw [cO,Int.add_zero];exact u3
   ·show aF (a6 (V+1) 0) (D+0) _
    rw [cO,Int.add_zero];exact gX (by decide) (by omega) hle
theorem af2 {V D:Int} {t x:Tm} (ht:Fm t) (hD:0≤D) (hV:0≤V) (s1:aF V D t) (hb:D+1+aG t≤24) (h:oV t= .ok x):aF V D x:=by
 unfold oV at h
 obtain ⟨t1,e1,h⟩:=ae h
 obtain ⟨t2,e2,h⟩:=ae h
 injection h with h;subst h
 have hle:=uW s1
 have u1:=c8 ht (by omega) (by omega) hV s1 (by omega) e1
 have u2:=c8 ht (by omega) (by omega) hV s1 (by omega) e2
 rw [Int.add_zero] at u1
 refine eR (by decide) rfl hle (all2.2 ⟨?_, ?_⟩)
 ·show ay true (a6 V 0) (D+0) t=true
  rw [cO,Int.add_zero];exact s1
 ·show aF (a6 V 1) (D+0) _
  rw [kx hV,Int.add_zero]
  refine eR (by decide) rfl hle (all2.2 ⟨?_, ?_⟩)
  ·show ay true (a6 (V+1) 0) (D+0) t1=true
   rw [cO,Int.add_zero];exact u1
  ·show aF (a6 (V+1) 1) (D+0) _
   rw [kx (by omega),Int.add_zero,show V+1+1=V+2 by omega]
   refine eR (by decide) rfl hle (all3.2 ⟨?_, ?_, ?_⟩)
   ·show ay true (a6 (V+2) 0) (D+1) t2=true
    rw [cO];exact u2
   ·show aF (a6 (V+2) 0) (D+0) _
    rw [cO,Int.add_zero];exact gX (by decide) (by omega) hle
   ·show aF (a6 (V+2) 0) (D+0) _
    rw [cO,Int.add_zero];exact gX (by decide) (by omega) hle
end Go.Proofs.YtgajalidbabccaaGreatDoor
