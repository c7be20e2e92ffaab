/- Part 8 of a proof: the sources, with their names and remarks, lie in wip/. -/
import Derived.Test.YtapmagaejigpnaaGreatDoorX7
import Derived.KernelRfl
namespace Go.Proofs.YtapmagaejigpnaaGreatDoor
open Go PI
set_option linter.unusedVariables false
set_option linter.unusedSimpArgs false
set_option maxRecDepth 20000
variable {S:Type} {k:Nat}
def pE {α:Type}:Except Int α→Pan Int α
 | .ok a=> .ok a
 | .error e=> .pan e
def eE {α β:Type} (x:Except Int α) (f:α→β) (g:Int→β):β:=match x with
 | .ok a=>f a
 | .error e=>g e
theorem jz {α β:Type} (x:Except Int α) (f:α→β) (g:Int→β):Pan.elim (pE x) f g=eE x f g:=by cases x<;>rfl
theorem bz {α β γ:Type} (x:Except Int α) (f:α→Except Int β) (u:β→γ) (w:Int→γ):eE (bE x f) u w=eE x (fun a=>eE (f a) u w) w:=by cases x<;>rfl
theorem bA {α β:Type} (a:α) (f:α→β) (g:Int→β):eE (.ok a) f g=f a:=rfl
theorem Qd {α:Type} (x:Except Int α) (ret:Pan Int α→Option S):ret (pE x)=eE x (fun a=>ret (.ok a)) fun e=>ret (.pan e):=by cases x<;>rfl
def aG:Tm:= .mk 0 0 ByteArray.empty [] [] []
def tE:Except Int Tm→Tm×Int
 | .ok t=>(t,0)
 | .error e=>(aG,e)
theorem co {α β:Type} {x:Except Int α} {f f':α→β} {g g':Int→β} (h: ∀a,x= .ok a→f a=f' a) (h': ∀e,x= .error e→g e=g' e):eE x f g=eE x f' g':=by
 cases x with
 |ok a=>exact h a rfl
 |error e=>exact h' e rfl
theorem D4 (hk:Fu k) {a b d:Int} {f:List Cl} (hf:ai f) (hl:f.length<1073741824) (hd:aI d) (hb:aI b) (ret:Pan Int (List Cl)→Option S):mP k a b f d ret=ret (pE (bp d b f)):=by
 simp only [mP,Fo,am hk,n4 hk hf hl hd hb,bM,bU,bS (show 0+f.length≤1099511627776 by omega)]
 unfold bp
 by_cases h0:b=0
 ·rw [if_pos h0,if_pos (.inl h0)];rfl
 ·rw [if_neg h0]
  by_cases h1:d≥24
  ·rw [if_pos h1,if_pos (.inr h1)];rfl
  ·rw [if_neg h1,if_neg (show ¬ (b=0∨d≥24) by omega)]
   by_cases h2:(aF f d b).2=0
   ·rw [decide_eq_true h2,g0 h2];rfl
   ·rw [decide_eq_false h2,j7 h2];rfl
section
variable {hd:Int→Int→Tm→Int→Int→(Pan Int Tm→Option S)→Option S} {vb db v d:Int} {t:Tm}
theorem Nw (hk:Fu k) (ret:Pan Int Tm→Option S) (rec2:List (Br Tm)→Int→Int→Option S) {r12 r2:List Cl} {b1 v90:Int} {ks:List Tm} {o:List (Br Tm)} {x:Br Tm} {more:Int} (hm:more=ax t.kind)
  (hd0:0≤d∧d<4611686018427387904) (hQ: ∀y∈x.kids,∀g,hd vb db y v (d+more) g=g (pE (bh vb db v (d+more) y))) (hl:x.kids.length<1073741824) (ho:o.length<1073741824):
  ∀ (r p:List Tm) (m:Nat) (acc:List Tm),x.kids=p++r→r.length<m→acc.length=p.length→
  iH hd k ret rec2 r12 vb db t b1 r2 ks o x more v d v90 m acc (p.length:Int)=eE (dh vb db v d t.kind r) (fun l=>rec2 (o++[⟨r12,acc++l⟩]) more (IntKind.wrap .i64 (v90+1))) fun e=>ret (.pan e):=by
 subst hm
 have hmo:=eQ t.kind
 intro r
 induction r with
 |nil=>
  intro p m acc h hm ha
  obtain ⟨m,rfl,hm'⟩:=ap hm
  simp only [iH,o_,aL h,ac,dh,bA,List.append_nil]
  rw [bS (by simp;omega)]
 |cons y r ih=>
  intro p m acc h hm ha
  obtain ⟨m,rfl,hm'⟩:=ap hm
  obtain ⟨e1,e2,e3,e4⟩:=aK h (by omega)
  have hpl:p.length<x.kids.length:=by rw [h];simp
  have hy:=hQ y (by rw [h];simp)
  simp only [iH,o_,e1,ag,e2,Option.bind_some,a8,cP (n:=d+ax t.kind) (by omega) (by omega),hy,jz,dh,bz,bA]
  refine co (fun t' ht'=> ?_) fun e _=>rfl
  rw [bS (by simp;omega),e3,ih (p++[y]) m (acc++[t']) e4 hm' (by simp;omega)]
  simp
theorem Nv (hk:Fu k) (ret:Pan Int Tm→Option S) {r2:List Cl} {b1:Int} {ks:List Tm} {more:Int} (hm:more=ax t.kind) (ht:OkT t) (hdb:aI db) (hd0:0≤d∧d<4611686018427387904)
  (hQ: ∀b∈t.sys,∀y∈b.kids,∀g,hd vb db y v (d+more) g=g (pE (bh vb db v (d+more) y))):
  ∀ (r p:List (Br Tm)) (m:Nat) (o:List (Br Tm)),t.sys=p++r→r.length<m→o.length=p.length→
  dV hd k ret vb db t b1 r2 ks v d m o more (p.length:Int)=eE (cS vb db v d t.kind r) (fun l=>ret (.ok (.mk t.kind b1 t.name r2 ks (o++l)))) fun e=>ret (.pan e):=by
 obtain ⟨o1,o2,o3,o4,o5,o6,o7⟩:=ht.no
 intro r
 induction r with
 |nil=>
  intro p m o h hml ho
  obtain ⟨m,rfl,hm'⟩:=ap hml
  simp only [dV,mg,aL h,ac,cS,bA,List.append_nil]
 |cons x r ih=>
  intro p m o h hml ho
  obtain ⟨m,rfl,hm'⟩:=ap hml
  obtain ⟨e1,e2,e3,e4⟩:=aK h (by omega)
  have hx:x∈t.sys:=by rw [h];simp
  have hpl:p.length<t.sys.length:=by rw [h];simp
  have hb:=(ht.bi hx).1
  have hrow:=D4 (S:=S) hk (a:=vb) hb.1 hb.2.1 (show aI d by unfold aI;omega) hdb
  have:=fun r12=>Nw hk ret (dV hd k ret vb db t b1 r2 ks v d m) (r12:=r12) (r2:=r2) (b1:=b1) (v90:=(p.length:Int)) (ks:=ks) (o:=o) hm hd0 (hQ x hx) hb.2.2 (by omega) x.kids [] k [] rfl (by have:4294967296≤k:=hk;omega) rfl
  have this: ∀r12,iH hd k ret (dV hd k ret vb db t b1 r2 ks v d m) r12 vb db t b1 r2 ks o x more v d (p.length:Int) k [] 0=_:=this
  have hB:jQ vb db v d t.kind x=bE (bp d db x.face) fun f'=>bE (dh vb db v d t.kind x.kids) fun ks'=> .ok (.mk f' ks'):=by cases x;rw [jQ]
  simp only [dV,mg,e1,ag,e2,Option.bind_some,am hk,hrow,jz,this,cS,hB,bz,bA,List.nil_append,e3]
  refine co (fun f' _=>co (fun ks' _=> ?_) fun e _=>rfl) fun e _=>rfl
  rw [ih (p++[x]) m (o++[Br.mk f' ks']) e4 hm' (by simp;omega)]
  simp
theorem Nu (hk:Fu k) (ret:Pan Int Tm→Option S) {r2:List Cl} {b1:Int} (ht:OkT t) (hdb:aI db) (hd0:0≤d∧d<4611686018427387904) (hv0:0≤v∧v<4611686018427387904)
  (hQ: ∀y∈t.kids,∀a b,0≤a∧a≤1→0≤b∧b≤1→ ∀g,hd vb db y (v+a) (d+b) g=g (pE (bh vb db (v+a) (d+b) y))) (hQ': ∀b∈t.sys,∀y∈b.kids,∀g,hd vb db y v (d+ax t.kind) g=g (pE (bh vb db v (d+ax t.kind) y))):
  ∀ (r p:List Tm) (m:Nat) (acc:List Tm),t.kids=p++r→r.length<m→acc.length=p.length→
  gO hd k ret vb db t b1 r2 v d m acc (p.length:Int)=eE (dg vb db v d t.kind p.length r) (fun l=>eE (cS vb db v d t.kind t.sys) (fun s=>ret (.ok (.mk t.kind b1 t.name r2 (acc++l) s))) fun e=>ret (.pan e)) fun e=>ret (.pan e):=by
 obtain ⟨o1,o2,o3,o4,o5,o6,o7⟩:=ht.no
 intro r
 induction r with
 |nil=>
  intro p m acc h hm ha
  obtain ⟨m,rfl,hm'⟩:=ap hm
  have hs:dV hd k ret vb db t b1 r2 acc v d k [] (ax t.kind) 0=_:=Nv hk ret rfl ht hdb hd0 hQ' t.sys [] k [] rfl (by have:4294967296≤k:=hk;omega) rfl
  simp only [gO,mf,aL h,ac,dg,bA,List.append_nil]
  rw [dZ]
  have he:(if (t.kind==15)=true then dV hd k ret vb db t b1 r2 acc v d k [] 1 0 else dV hd k ret vb db t b1 r2 acc v d k [] 0 0)=dV hd k ret vb db t b1 r2 acc v d k [] (ax t.kind) 0:=by
   unfold ax
   by_cases h15:t.kind=15
   ·rw [if_pos h15,if_pos (by rw [h15];rfl)]
   ·rw [if_neg h15,if_neg (by rw [beq_iff_eq];exact h15)]
  rw [he,hs]
  simp only [List.nil_append]
 |cons y r ih=>
  intro p m acc h hm ha
  obtain ⟨m,rfl,hm'⟩:=ap hm
  obtain ⟨e1,e2,e3,e4⟩:=aK h (by omega)
  have hpl:p.length<t.kids.length:=by rw [h];simp
  have b1':=yq t.kind p.length
  have b2':=g7 t.kind p.length
  have hy:=hQ y (by rw [h];simp) (fI t.kind p.length) (ci t.kind p.length) b1' b2'
  simp only [gO,mf,e1,ag,e2,Option.bind_some,am hk,lG,a8,cP (n:=v+fI t.kind p.length) (by omega) (by omega),cP (n:=d+ci t.kind p.length) (by omega) (by omega),hy,jz,dg,bz,bA]
  refine co (fun t' ht'=> ?_) fun e _=>rfl
  rw [bS (by simp;omega),e3,ih (p++[y]) m (acc++[t']) e4 hm' (by simp;omega),show (p++[y]).length=p.length+1 by simp]
  simp
end
theorem N7 (vb db v d:Int) (t:Tm):bh vb db v d t=if t.kind=1∧t.n≥v∧t.n>1000000000-vb then .error 100 else bE (bp d db t.r) fun r'=>bE (dg vb db v d t.kind 0 t.kids) fun ks'=>bE (cS vb db v d t.kind t.sys) fun sys'=> .ok (.mk t.kind (if t.kind=1∧t.n≥v then t.n+vb else t.n) t.name r' ks' sys'):=by cases t;rw [bh];rfl
theorem RowsT.no {t:Tm} (h:RowsT t):RF t.r∧(t.kind=1→t.r=[])∧0≤t.kind:=by cases t;rw [RowsT] at h;exact h.1
theorem RowsT.ki {t x:Tm} (h:RowsT t) (hx:x∈t.kids):RowsT x:=by cases t;rw [RowsT] at h;exact rowsK_iff.1 h.2.1 x hx
theorem RowsT.bi {t:Tm} {b:Br Tm} (h:RowsT t) (hb:b∈t.sys):RF b.face∧ ∀x∈b.kids,RowsT x:=by cases t;rw [RowsT] at h;exact rowsS_iff.1 h.2.2 b hb
def VP (v d:Int) (n:Nat):Prop:=0≤v∧v+n<4611686018427387904∧0≤d∧d+n<4611686018427387904
theorem wH {vb db:Int} (hvb:0≤vb∧vb≤1000000000) (hdb:aI db) (t:Tm):OkT t→RowsT t→ ∀ {k:Nat} {v d:Int} (ret:Pan Int Tm→Option S),Fd k (ay t)→VP v d (ay t)→cH k vb db t v d ret=ret (pE (bh vb db v d t)):=by
 induction t using gj with
 |h t ih1 ih2=>
  intro ht hro k v d ret hk hv
  obtain ⟨q,rfl,hq,hf⟩:=hk.pos' (dQ t)
  obtain ⟨q',hq'⟩: ∃q',q=q'+1:=⟨q-1,by have:4294967296≤q:=hq;omega⟩
  have hp:=dQ t
  unfold VP at hv
  obtain ⟨o1,o2,o3,o4,o5,o6,o7⟩:=ht.no
  have hmo:=eQ t.kind
  have hQ: ∀y∈t.kids,∀a b,0≤a∧a≤1→0≤b∧b≤1→ ∀g:Pan Int Tm→Option S,cH q vb db y (v+a) (d+b) g=g (pE (bh vb db (v+a) (d+b) y)):=fun y hy a b h1 h2 g=>
   ih1 y hy (ht.ki hy) (hro.ki hy) g (hf _ (ee hy)) (by have:=ee hy;unfold VP;omega)
  have hQ': ∀b∈t.sys,∀y∈b.kids,∀g:Pan Int Tm→Option S,cH q vb db y v (d+ax t.kind) g=g (pE (bh vb db v (d+ax t.kind) y)):=fun b hb y hy g=>
   ih2 b hb y hy ((ht.bi hb).2 y hy) ((hro.bi hb).2 y hy) g (hf _ (d_ hb hy)) (by have:=d_ hb hy;unfold VP;omega)
  have h1:=fun r2 b1=>Nu (r2:=r2) (b1:=b1) hq ret ht hdb (show 0≤d∧d<4611686018427387904 by omega) (show 0≤v∧v<4611686018427387904 by omega) hQ hQ' t.kids [] q [] rfl (by have:4294967296≤q:=hq;omega) rfl
  have h0: ∀r2 b1,nd (cH q) q ret vb db t r2 v d q b1=gO (cH q) q ret vb db t b1 r2 v d q [] 0:=by
   intro r2 b1
   have: ∀j,j=q'+1→nd (cH q) q ret vb db t r2 v d j b1=gO (cH q) q ret vb db t b1 r2 v d q [] 0:=by rintro j rfl;rfl
   exact this q hq'
  have h2: ∀r2 b1,nd (cH q) q ret vb db t r2 v d q b1=_:=fun r2 b1=>(h0 r2 b1).trans (h1 r2 b1)
  have hrow:=D4 (S:=S) hq (a:=vb) o4 o5 (show aI d by unfold aI;omega) hdb
  simp only [cH,xx,am hq,hrow,jz,h2,List.length_nil,List.nil_append]
  rw [Qd _ ret,N7]
  unfold aI at o2
  by_cases hc:t.kind=1
  ·have hr:=hro.no.2.1 hc
   rw [hr,wq,bA,hc,show ((1:Int)==1)=true from rfl,ag,bU]
   by_cases hn:t.n≥v
   ·rw [if_pos hn,cP (n:=1000000000-vb) (by omega) (by omega),bU]
    by_cases hb:t.n>1000000000-vb
    ·rw [if_pos hb,if_pos (show (1:Int)=1∧t.n≥v∧t.n>1000000000-vb from ⟨rfl,hn,hb⟩)];rfl
    ·rw [if_neg hb,if_neg (show ¬ ((1:Int)=1∧t.n≥v∧t.n>1000000000-vb) from fun h=>hb h.2.2),ao,bz]
     rw [if_pos (show (1:Int)=1∧t.n≥v from ⟨rfl,hn⟩),cP (n:=t.n+vb) (by omega) (by omega)]
     simp only [bz,bA]
   ·rw [if_neg hn,if_neg (show ¬ ((1:Int)=1∧t.n≥v∧t.n>1000000000-vb) from fun h=>hn h.2.1),ao,bz]
    rw [if_neg (show ¬ ((1:Int)=1∧t.n≥v) from fun h=>hn h.2)]
    simp only [bz,bA]
  ·have hc':(t.kind==1)=false:=by rw [beq_eq_false_iff_ne];exact hc
   rw [hc',if_neg (show ¬ (t.kind=1∧t.n≥v∧t.n>1000000000-vb) from fun h=>hc h.1)]
   simp only [ac,bz,bA,if_neg (show ¬ (t.kind=1∧t.n≥v) from fun h=>hc h.1)]
section
variable {hd:Tm→Int→Int→Int→Int→(Tm→Option S)→Option S} {vb db v d:Int} {t:Tm}
theorem sF {z:List Cl×Int} {α:Type} (f:List Cl→α) (g:Int→α):ab (!(z.2==0)) (g z.2) (f z.1)=eE (bP z) f g:=by
 rw [bM]
 unfold bP
 by_cases h:z.2=0
 ·rw [decide_eq_true h,if_pos h];rfl
 ·rw [decide_eq_false h,if_neg h];rfl
end
end Go.Proofs.YtapmagaejigpnaaGreatDoor
namespace Go.Proofs.YtapmagaejigpnaaGreatDoor
open Go PI
set_option linter.unusedVariables false
set_option linter.unusedSimpArgs false
set_option maxRecDepth 20000
variable {S:Type} {k:Nat}
theorem kC {t:Tm} (h:cz t=0):ay t≤200∧aQ t≤20000∧bH false (-1) 24 t=true:=by
 unfold cz at h
 split at h
 ·cases h
 ·split at h
  ·cases h
  ·split at h
   ·next h1 h2 h3=>exact ⟨by omega,by omega,h3⟩
   ·cases h
theorem LJ {t:Tm} (h1:ay t≤200) (h2:aQ t≤20000) (h3:bH false (-1) 24 t=true):cz t=0:=by
 unfold cz
 rw [if_neg (by omega),if_neg (by omega),if_pos h3]
theorem LI (t:Tm):0≤cz t∧cz t≤1000:=by
 unfold cz
 split
 ·omega
 ·split
  ·omega
  ·split<;>omega
def Fm (t:Tm):Prop:=OkT t∧cz t=0
theorem Fm.ok {t:Tm} (h:Fm t):OkT t:=h.1
theorem Fm.rows {t:Tm} (h:Fm t):RowsT t:=Jd t h.1 (kC h.2).2.2
theorem Fm.dep {t:Tm} (h:Fm t):ay t≤200:=(kC h.2).1
theorem Fm.siz {t:Tm} (h:Fm t):aQ t≤20000:=(kC h.2).2.1
theorem nj {vb db v d:Int} (hvb:0≤vb∧vb≤1000000000) {t t':Tm} (h:Fm t) (hl:bh vb db v d t= .ok t'):Fm t':=by
 obtain ⟨h1,h2,h3,h4⟩:=N9 hvb.1 hvb.2 t v d t' hl
 obtain ⟨a,b,c⟩:=kC h.2
 have:=h4 h.1
 exact ⟨this.1,LJ (by omega) (by omega) (this.2.2 24 24 (by omega) (by omega) c)⟩
abbrev F3 (k:Nat):Prop:=4294968296≤k
theorem F3.fu (h:F3 k):Fu k:=by have:4294968296≤k:=h;show 4294967296≤k;omega
theorem F3.fd (h:F3 k) {n:Nat} (hn:n≤1000):Fd k n:=by have:4294968296≤k:=h;show 4294967296+n≤k;omega
theorem Fm.fd {t:Tm} (h:Fm t) (hk:F3 k):Fd k (ay t):=hk.fd (by have:=h.dep;omega)
theorem Fm.vp {t:Tm} (h:Fm t) {v d:Int} (hv:0≤v∧v≤4611686018427380000) (hd:0≤d∧d≤4611686018427380000):VP v d (ay t):=by have:=h.dep;unfold VP;omega
theorem gV (x:Except Int Tm) (ret:Tm×Int→Option S):ret (tE x)=eE x (fun t=>ret (t,0)) fun e=>ret (aG,e):=by cases x<;>rfl
theorem Nn (hk:Fu k) (ret:Tm×Int→Option S) {c0 c2:Int} {c1:Tm} {ns:List Int} (hl:ns.length<1000) (hn: ∀x∈ns,0≤x):
  ∀ (r p:List Int) (m:Nat),ns=p++r→r.length<m→jJ k ret c0 c1 c2 ns m (p.length:Int)=p6 k c0 c1 c2 fun r4=>Pan.elim r4 (fun r4=>ret (r4,0)) fun e5=>ret (aG,e5):=by
 intro r
 induction r with
 |nil=>
  intro p m h hm
  obtain ⟨m,rfl,hm'⟩:=ap hm
  simp only [jJ,o8,aL h,ac,am hk,a8];rfl
 |cons x r ih=>
  intro p m h hm
  obtain ⟨m,rfl,hm'⟩:=ap hm
  obtain ⟨e1,e2,e3,e4⟩:=aK h (by omega)
  have hx:=hn x (by rw [h];simp)
  simp only [jJ,o8,e1,ag,e2,Option.bind_some,e3,ih (p++[x]) m e4 hm',bU]
  rw [if_neg (by omega)]
theorem Q0 (hk:F3 k) {t:Tm} (ht:Fm t) {f b:Int} (hf:0≤f∧f≤24) (hb:0≤b∧b<9223372036854775808) (ret:Tm×Int→Option S):p5 k t f b ret=ret (tE (bh 0 b 0 f t)):=by
 have hl:=Nn hk.fu ret (c0:=b) (c2:=f) (c1:=t) (ns:=[f,b]) (by simp) (by simp;omega) [f,b] [] k rfl (by have:4294968296≤k:=hk;simp;omega)
 have hl:jJ k ret b t f [f,b] k 0=_:=hl
 simp only [p5,Fk,am hk.fu,a8,t_,xv,nX ht.ok (ht.fd hk) (show ay t<1099511627776 by have:=ht.dep;omega),ht.2,hl,p6,Fl]
 rw [show ((0:Int)==0)=true from rfl,Bool.not_true,ac,if_neg (by omega),wH (by omega) (by unfold aI;omega) t ht.ok ht.rows _ (ht.fd hk) (ht.vp (by omega) (by omega)),jz,gV _ ret]
 exact co (fun _ _=>rfl) fun _ _=>rfl
def fE (vb db:Int) (t:Tm):Except Int Tm:=bE (bh vb 0 0 0 t) (bh 0 db 0 0)
theorem Sx {vb db:Int} (hvb:0≤vb∧vb≤1000000000) {t t':Tm} (h:Fm t) (hl:fE vb db t= .ok t'):Fm t':=by
 obtain ⟨a,h1,h2⟩:=av hl
 exact nj (by omega) (nj hvb h h1) h2
theorem FV {vb db:Int} {t:Tm} {e:Int} (h:fE vb db t= .error e):0<e∧e≤1000:=by
 rcases bm h with h|⟨a,_,h⟩
 ·exact qX t h
 ·exact qX a h
theorem Np (hk:Fu k) (ret:Tm×Int→Option S) {c0 c1:Int} {c2:Tm} {ns:List Int} (hl:ns.length<1000) (hn: ∀x∈ns,0≤x):
  ∀ (r p:List Int) (m:Nat),ns=p++r→r.length<m→jK k ret c0 c1 c2 ns m (p.length:Int)=p4 k c0 c1 c2 fun r4=>Pan.elim r4 (fun r4=>ret (r4,0)) fun e5=>ret (aG,e5):=by
 intro r
 induction r with
 |nil=>
  intro p m h hm
  obtain ⟨m,rfl,hm'⟩:=ap hm
  simp only [jK,o9,aL h,ac,am hk,a8];rfl
 |cons x r ih=>
  intro p m h hm
  obtain ⟨m,rfl,hm'⟩:=ap hm
  obtain ⟨e1,e2,e3,e4⟩:=aK h (by omega)
  have hx:=hn x (by rw [h];simp)
  simp only [jK,o9,e1,ag,e2,Option.bind_some,e3,ih (p++[x]) m e4 hm',bU]
  rw [if_neg (by omega)]
theorem QZ (hk:F3 k) {t:Tm} (ht:Fm t) {vb db:Int} (hvb:0≤vb∧vb≤1000000) (hdb:0≤db∧db<9223372036854775808) (ret:Tm×Int→Option S):p3 k t vb db ret=ret (tE (fE vb db t)):=by
 have hl:=Np hk.fu ret (c0:=db) (c1:=vb) (c2:=t) (ns:=[vb,db,1000000-vb]) (by simp) (by simp;omega) [vb,db,1000000-vb] [] k rfl (by have:4294968296≤k:=hk;simp;omega)
 have hl:jK k ret db vb t [vb,db,1000000-vb] k 0=_:=hl
 simp only [p3,Fi,am hk.fu,a8,cP (n:=1000000-vb) (by omega) (by omega),ua,xw,nX ht.ok (ht.fd hk) (show ay t<1099511627776 by have:=ht.dep;omega),ht.2,hl,p4,Fj]
 rw [show ((0:Int)==0)=true from rfl,Bool.not_true,ac,wH (show 0≤vb∧vb≤1000000000 by omega) (show aI 0 by unfold aI;omega) t ht.ok ht.rows _ (ht.fd hk) (ht.vp (by omega) (by omega)),jz,gV _ ret]
 unfold fE
 rw [bz]
 refine co (fun y hy=> ?_) fun _ _=>rfl
 have hy':=nj (show 0≤vb∧vb≤1000000000 by omega) ht hy
 rw [wH (show (0:Int)≤0∧(0:Int)≤1000000000 by omega) (show aI db by unfold aI;omega) y hy'.ok hy'.rows _ (hy'.fd hk) (hy'.vp (by omega) (by omega)),jz]
 exact co (fun _ _=>rfl) fun _ _=>rfl
end Go.Proofs.YtapmagaejigpnaaGreatDoor
namespace Go.Proofs.YtapmagaejigpnaaGreatDoor
open Go PI
set_option linter.unusedVariables false
set_option linter.unusedSimpArgs false
set_option maxRecDepth 20000
variable {S:Type} {k:Nat}
def aB (i:Int) (r:List Cl) (fa:Bool):ca:=fun d f=>if bY (dR f) (i+d) then bE (bP (aF r 0 d)) fun s=>bP (if fa then dt f (i+d) s else du f (i+d) s) else .ok f
theorem yX (f:List Cl):U32 (dR f):=by
 have:=yY f
 exact ⟨Int.natCast_nonneg _,by show ((e_ f:Nat):Int)<_;omega⟩
theorem BQ {f r:List Cl} {i:Int} (hr:ai r) (h:(du f i r).2=0):RF (du f i r).1:=by
 unfold du at h ⊢
 split
 ·next hc=>
  rw [if_pos hc] at h
  simp only [Bool.and_eq_true] at hc
  exact zI (fun h c hh h0=>rA ((gf hr).1 hc.1.2) h c hh h0) gc h
 ·next hc=>rw [if_neg hc] at h;exact absurd h (by decide)
theorem vk (f g:List Cl):EN (cV f g).2:=ld _
theorem qL (f g:List Cl):EN (cA f g).2:=ld _
theorem Ok (f g:List Cl):EN (eP f g).2:=ld _
theorem BA (f:List Cl):EN (aU f).2:=qE fun h c=>vk _ _
theorem Pm (i:Int) (r:List Cl) (c:Cl):EN (c8 i r c).2:=by
 unfold c8
 split
 ·exact vk _ _
 ·exact jA
theorem Pn (i:Int) (r:List Cl) (c:Cl) (g:List Cl):EN (eA i r c g).2:=by
 unfold eA
 split
 ·split
  ·exact vk _ _
  ·exact BA _
 ·exact jA
theorem Pk (i:Int) (r h:List Cl) (c:Cl):EN (c7 i r h c).2:=by
 unfold c7
 split
 ·split
  ·exact qL _ _
  ·exact Pn _ _ _ _
 ·exact Pm _ _ _
theorem Pr (f:List Cl) (i:Int) (r:List Cl):EN (du f i r).2:=by
 unfold du
 split
 ·exact qE fun h c=>Pk i r h c
 ·exact gG
theorem OH (f:List Cl):EN (cZ f).2:=by
 unfold cZ
 split
 ·exact ld _
 ·exact gG
theorem OI (f:List Cl):EN (di f).2:=by
 unfold di
 split
 ·split
  ·exact ld _
  ·exact BA _
 ·exact gG
theorem BN {i:Int} {c:Cl} {h:List Cl} {q:List Cl×Int} (hq:EN q.2):EN (cq i c h q).2:=by
 unfold cq
 split
 ·split
  ·exact qL _ _
  ·exact Ok _ _
 ·exact hq
theorem Pq (f:List Cl) (i:Int) (r:List Cl):EN (dt f i r).2:=by
 unfold dt
 split
 ·refine qE fun h c=> ?_
  unfold bR
  split
  ·exact BN (OH _)
  ·split
   ·exact BN (OI _)
   ·exact qL _ _
 ·exact gG
theorem rZ {i:Int} {r:List Cl} {fa:Bool} {d:Int} {f g:List Cl} (hf:RF f) (h:aB i r fa d f= .ok g):RF g:=by
 unfold aB at h
 split at h
 ·obtain ⟨s,h1,h⟩:=av h
  obtain ⟨h0,rfl⟩:=d4 h1
  have hs:=fX h0
  obtain ⟨h2,rfl⟩:=d4 h
  cases fa with
  |true=>exact (BP hf.2 hs.2 h2).1
  |false=>exact BQ hs.2 h2
 ·injection h with h;subst h;exact hf
theorem Du {i:Int} {r:List Cl} {fa:Bool} {d:Int} {f:List Cl} {e:Int} (h:aB i r fa d f= .error e):0<e∧e≤1000:=by
 unfold aB at h
 split at h
 ·rcases bm h with h|⟨s,_,h⟩
  ·obtain ⟨h1,rfl⟩:=ol h
   have:=qW r 0 d
   unfold EN at this;omega
  ·obtain ⟨h1,rfl⟩:=ol h
   cases fa with
   |true=>
    have:=Pq f (i+d) s
    unfold EN at this
    simp only [if_true] at h1 ⊢
    omega
   |false=>
    have:=Pr f (i+d) s
    unfold EN at this
    simp only [Bool.false_eq_true,if_false] at h1 ⊢
    omega
 ·cases h
theorem Dv {i:Int} {r:List Cl} {fa:Bool} {d:Int}:aB i r fa d []= .ok []:=by
 unfold aB
 rw [if_neg]
 intro h
 unfold bY at h
 rw [Bool.and_eq_true] at h
 have:=h.2
 unfold dR at this
 rw [Int.toNat_natCast,yZ] at this
 simp [j8] at this
def iZ (i:Int) (r:List Cl) (fa:Bool) (d:Int) (f:List Cl):List Cl×Int:=if bY (dR f) (i+d) then if (aF r 0 d).2=0 then if fa then dt f (i+d) (aF r 0 d).1 else du f (i+d) (aF r 0 d).1 else ([],(aF r 0 d).2) else (f,0)
theorem xR (i:Int) (r:List Cl) (fa:Bool) (d:Int) (f:List Cl):bP (iZ i r fa d f)=aB i r fa d f:=by
 unfold iZ aB
 split
 ·by_cases h0:(aF r 0 d).2=0
  ·rw [if_pos h0,g0 h0,ao]
  ·rw [if_neg h0,j7 h0,Jo,j7 (show ¬ (([]:List Cl),(aF r 0 d).2).2=0 from h0)]
 ·rfl
section
variable {i d:Int} {r f:List Cl}
theorem D7 (hk:Fu k) (hf:RF f) (hr:RF r) (hi:0≤i∧i<24) (hd:0≤d∧d<4611686018427387000) (ret:List Cl×Int→Option S):mJ k f d i r ret=ret (iZ i r true d f):=by
 have l1:=hf.len;have l2:=hr.len
 simp only [mJ,EQ,am hk,cP (n:=i+d) (by omega) (by omega),wF hk hf.2 (show f.length<4294967296 by omega),lH hk (yX f),mI,wX,bS (show 0+f.length≤1099511627776 by omega),n4 hk hr.2 (show r.length<1073741824 by omega) (show aI 0 by unfold aI;omega) (show aI d by unfold aI;omega)]
 unfold iZ
 cases bY (dR f) (i+d) with
 |false=>rw [Bool.not_false,ag];rfl
 |true=>
  rw [Bool.not_true,ac,bM,if_pos rfl]
  by_cases h0:(aF r 0 d).2=0
  ·have hs:=fX h0
   rw [decide_eq_true h0,Bool.not_true,ac,QS hk hf.2 hs.2 hf.lt hs.lt,if_pos h0,if_pos rfl]
  ·rw [decide_eq_false h0,Bool.not_false,ag,if_neg h0]
theorem Q_ (hk:Fu k) (hf:RF f) (hr:RF r) (hi:0≤i∧i<24) (hd:0≤d∧d<4611686018427387000) (ret:List Cl×Int→Option S):pG k f d i r ret=ret (iZ i r false d f):=by
 have l1:=hf.len;have l2:=hr.len
 simp only [pG,EP,am hk,cP (n:=i+d) (by omega) (by omega),wF hk hf.2 (show f.length<4294967296 by omega),lH hk (yX f),mI,wX,bS (show 0+f.length≤1099511627776 by omega),n4 hk hr.2 (show r.length<1073741824 by omega) (show aI 0 by unfold aI;omega) (show aI d by unfold aI;omega)]
 unfold iZ
 cases bY (dR f) (i+d) with
 |false=>rw [Bool.not_false,ag];rfl
 |true=>
  rw [Bool.not_true,ac,bM,if_pos rfl]
  by_cases h0:(aF r 0 d).2=0
  ·have hs:=fX h0
   rw [decide_eq_true h0,Bool.not_true,ac,QO hk hf.2 hs.2 hf.lt hs.lt,if_pos h0,if_neg (by decide)]
  ·rw [decide_eq_false h0,Bool.not_false,ag,if_neg h0]
end
def dp (j:Int) (c:Cl):Cl:=⟨io c.pos j,io c.neg j⟩
def aD (j:Int) (f:List Cl):List Cl:=(aW (f.map (dp j))).1
theorem y6 (s j:Int):0≤io s j∧io s j<16777216:=by
 have:=JY s.toNat j
 exact ⟨Int.natCast_nonneg _,by show ((il s.toNat j:Nat):Int)<_;omega⟩
theorem yL (j:Int) (c:Cl):RC (dp j c):=⟨y6 _ _,y6 _ _⟩
theorem px (j:Int) (f:List Cl): ∀c∈f.map (dp j),RC c:=fun c hc=>by
 obtain ⟨d,_,rfl⟩:=List.mem_map.1 hc
 exact yL j d
theorem mC {j:Int} {f:List Cl} (hf:f.length≤64):aW (f.map (dp j))=(aD j f,0):=Prod.ext rfl (ni (px j f) (by rw [List.length_map];exact hf))
theorem yM {j:Int} {f:List Cl} (hf:f.length≤64):RF (aD j f):=lf (fun c hc=>(px j f c hc).ok) (by rw [mC hf])
theorem Ou: ∀ (n:Nat) {l:List Cl} {c:Cl},(l.filter fun d=>bn c d&& !decide (d=c)).length≤n→(∀d∈l,RC d)→c∈l→ ∃d∈l,bo l d=true:=by
 have hle: ∀ {a b:Cl},RC a→RC b→(bn a b=true↔(∀j,b.pos.toNat.testBit j=true→a.pos.toNat.testBit j=true)∧ ∀j,b.neg.toNat.testBit j=true→a.neg.toNat.testBit j=true):=by
  intro a b ha hb
  unfold bn ck
  rw [decide_eq_true_eq]
  have hor: ∀ {x y:Int},0≤x→(dj x y=x↔ ∀j,y.toNat.testBit j=true→x.toNat.testBit j=true):=by
   intro x y hx
   unfold dj
   constructor
   ·intro h j hj
    have:(x.toNat|||y.toNat)=x.toNat:=by omega
    rw [←this,Nat.testBit_or,hj,Bool.or_true]
   ·intro h
    have:(x.toNat|||y.toNat)=x.toNat:=by
     apply Nat.eq_of_testBit_eq
     intro j
     rw [Nat.testBit_or]
     cases hy:y.toNat.testBit j with
     |false=>rw [Bool.or_false]
     |true=>rw [h j hy];rfl
    rw [this];omega
  cases a with
  |mk p q=>
   have h1:0≤p:=ha.1.1
   have h2:0≤q:=ha.2.1
   rw [←hor h1,←hor h2]
   constructor
   ·intro h;injection h with h1 h2;exact ⟨h1,h2⟩
   ·rintro ⟨h1,h2⟩;simp only at h1 h2 ⊢;rw [h1,h2]
 have hanti: ∀ {a b:Cl},RC a→RC b→bn a b=true→bn b a=true→a=b:=by
  intro a b ha hb h1 h2
  have e1:=(hle ha hb).1 h1
  have e2:=(hle hb ha).1 h2
  have hx: ∀ {x y:Int},0≤x→0≤y→(∀j,y.toNat.testBit j=true→x.toNat.testBit j=true)→(∀j,x.toNat.testBit j=true→y.toNat.testBit j=true)→x=y:=by
   intro x y hx hy a b
   have:x.toNat=y.toNat:=by
    apply Nat.eq_of_testBit_eq
    intro j
    rw [Bool.eq_iff_iff]
    exact ⟨b j,a j⟩
   omega
  cases a;cases b
  have p1:=hx ha.1.1 hb.1.1 e1.1 e2.1
  have p2:=hx ha.2.1 hb.2.1 e1.2 e2.2
  simp only at p1 p2
  rw [p1,p2]
 intro n
 induction n with
 |zero=>
  intro l c hn hl hc
  refine ⟨c,hc, ?_⟩
  unfold bo
  rw [List.all_eq_true]
  intro d hd
  have:(l.filter fun d=>bn c d&& !decide (d=c))=[]:=List.length_eq_zero_iff.1 (by omega)
  have hnot:=List.filter_eq_nil_iff.1 this d hd
  cases h1:decide (d=c) with
  |true=>rfl
  |false=>
   rw [h1] at hnot
   cases h2:bn c d with
   |false=>rfl
   |true=>rw [h2] at hnot;exact absurd rfl hnot
 |succ n ih=>
  intro l c hn hl hc
  by_cases h:bo l c=true
  ·exact ⟨c,hc,h⟩
  ·unfold bo at h
   rw [List.all_eq_true] at h
   have: ∃d∈l,¬ ((decide (d=c)|| !bn c d)=true):=Classical.byContradiction fun hh=>h fun d hd=>Classical.byContradiction fun h2=>hh ⟨d,hd,h2⟩
   obtain ⟨d,hd,hd'⟩:=this
   have h1:d≠c:=fun h=>hd' (by rw [decide_eq_true h];rfl)
   have h2:bn c d=true:=by
    cases hb:bn c d with
    |true=>rfl
    |false=>exact absurd (by rw [hb,Bool.not_false,Bool.or_true]) hd'
   refine ih (c:=d) ?_ hl hd
   have hsub:(l.filter fun e=>bn d e&& !decide (e=d)).length<(l.filter fun e=>bn c e&& !decide (e=c)).length:=by
    have hc':=hl c hc;have hdr:=hl d hd
    have himp: ∀e∈l,(bn d e&& !decide (e=d))=true→(bn c e&& !decide (e=c))=true:=by
     intro e he hh
     rw [Bool.and_eq_true] at hh ⊢
     have her:=hl e he
     have e1:=(hle hdr her).1 hh.1
     have e2:=(hle hc' hdr).1 h2
     refine ⟨(hle hc' her).2 ⟨fun j hj=>e2.1 j (e1.1 j hj),fun j hj=>e2.2 j (e1.2 j hj)⟩, ?_⟩
     rw [Bool.not_eq_true',decide_eq_false_iff_not]
     intro h3
     subst h3
     exact h1 (hanti hdr hc' hh.1 h2)
    have hle2: ∀ (p q:Cl→Bool) (m:List Cl),(∀e∈m,p e=true→q e=true)→(m.filter p).length≤(m.filter q).length:=by
     intro p q m
     induction m with
     |nil=>intro _;exact Nat.le_refl _
     |cons e m im=>
      intro hm
      have:=im fun e he=>hm e (by simp [he])
      by_cases hp:p e=true
      ·rw [List.filter_cons_of_pos hp,List.filter_cons_of_pos (hm e (by simp) hp),List.length_cons,List.length_cons];omega
      ·rw [List.filter_cons_of_neg hp]
       by_cases hq:q e=true
       ·rw [List.filter_cons_of_pos hq,List.length_cons];omega
       ·rw [List.filter_cons_of_neg hq];omega
    have hlt: ∀ (p q:Cl→Bool) (m:List Cl),(∀e∈m,p e=true→q e=true)→d∈m→p d=false→q d=true→(m.filter p).length<(m.filter q).length:=by
     intro p q m
     induction m with
     |nil=>intro _ h;cases h
     |cons e m im=>
      intro hm hdm hp hq
      have hrest: ∀e∈m,p e=true→q e=true:=fun e he=>hm e (by simp [he])
      have hb:=hle2 p q m hrest
      rcases List.mem_cons.1 hdm with rfl|hdm
      ·rw [List.filter_cons_of_neg (by rw [hp];decide),List.filter_cons_of_pos hq,List.length_cons];omega
      ·have:=im hrest hdm hp hq
       by_cases hp':p e=true
       ·rw [List.filter_cons_of_pos hp',List.filter_cons_of_pos (hm e (by simp) hp'),List.length_cons,List.length_cons];omega
       ·rw [List.filter_cons_of_neg hp']
        by_cases hq':q e=true
        ·rw [List.filter_cons_of_pos hq',List.length_cons];omega
        ·rw [List.filter_cons_of_neg hq'];omega
    exact hlt _ _ l himp hd (by simp) (by rw [h2,decide_eq_false h1];rfl)
   omega
theorem JT {j:Int} {f:List Cl} (hf:RF f):(aD j f).length=0↔f.length=0:=by
 have h:=mC (j:=j) hf.len
 have hm:=(gR h).1
 constructor
 ·intro h0
  apply Classical.byContradiction
  intro hne
  obtain ⟨c,hc⟩:=List.exists_mem_of_length_pos (l:=f.map (dp j)) (by rw [List.length_map];omega)
  obtain ⟨d,hd,hn⟩:=Ou _ (Nat.le_refl _) (px j f) hc
  have:d∈aD j f:=by rw [hm];exact mem_mins.2 ⟨hd,hn⟩
  rw [List.length_eq_zero_iff.1 h0] at this
  cases this
 ·intro h0
  have:=List.length_eq_zero_iff.1 h0
  subst this;rfl
theorem M7 (hk:Fu k) (ret:List Cl×Int→Option S) {i d:Int} (hi:0≤i∧i<24) (hd:0≤d∧d<4611686018427387000) {f:List Cl} (hf:ai f) (hlen:f.length<1073741824):
  ∀ (r p:List Cl) (m:Nat) (o:List Cl),f=p++r→r.length<m→ai o→o.length=p.length→kJ k ret i d f m (p.length:Int) o=ret (aW (o++r.map (dp (i+d)))):=by
 intro r
 induction r with
 |nil=>
  intro p m o h hm hok ho
  obtain ⟨m,rfl,hm'⟩:=ap hm
  have:o.length<1073741824:=by rw [ho];rw [h] at hlen;simpa using hlen
  simp only [kJ,oG,aL h,ac,am hk,gW hk hok (show o.length<2147483648 by omega),List.map_nil,List.append_nil]
 |cons x r ih=>
  intro p m o h hm hok ho
  obtain ⟨m,rfl,hm'⟩:=ap hm
  obtain ⟨e1,e2,e3,e4⟩:=aK h (by omega)
  have hx:aO x:=hf x (by rw [h];simp)
  have hpl:p.length<f.length:=by rw [h];simp
  simp only [kJ,oG,e1,ag,e2,Option.bind_some,am hk,cP (n:=i+d) (by omega) (by omega),DN hk hx.1,DN hk hx.2,e3]
  rw [bS (by simp;omega)]
  have:=ih (p++[x]) m (o++[dp (i+d) x]) e4 hm' (fw hok fun c hc=>by simp at hc;subst hc;exact (yL _ _).ok) (by simp;omega)
  refine Eq.trans this ?_
  simp
theorem DV (hk:Fu k) {i d:Int} (hi:0≤i∧i<24) (hd:0≤d∧d<4611686018427387000) {f:List Cl} (hf:RF f) (ret:List Cl×Int→Option S):kl k f d i ret=ret (aD (i+d) f,0):=by
 have l1:=hf.len
 have:=M7 hk ret hi hd hf.2 (by omega) f [] k [] rfl (by have:4294967296≤k:=hk;omega) (fun c hc=>by cases hc) rfl
 simp only [kl,wW]
 refine Eq.trans this ?_
 rw [List.nil_append,mC l1]
end Go.Proofs.YtapmagaejigpnaaGreatDoor
namespace Go.Proofs.YtapmagaejigpnaaGreatDoor
open Go PI
set_option linter.unusedVariables false
set_option linter.unusedSimpArgs false
set_option maxRecDepth 20000
variable {S:Type} {k:Nat}
theorem F7 (fo fa:ca) (d:Int) (t:Tm):aw fo fa d t=bE (if t.kind=14 then fa d t.r else fo d t.r) fun r'=>bE (aM fo fa d t.kind 0 t.kids) fun ks'=>bE (aA fo fa d t.kind t.sys) fun sys'=> .ok (.mk t.kind t.n t.name r' ks' sys'):=by cases t;rw [aw];rfl
theorem ya (fo fa:ca) (d kd:Int) (b:Br Tm):c_ fo fa d kd b=bE (fa d b.face) fun f'=>if f'.length=0 then .ok [] else bE (aR fo fa d kd b.kids) fun ks'=> .ok [.mk f' ks']:=by cases b;rw [c_]
section
variable {fo fa:ca} (hfo: ∀d f e,fo d f= .error e→0<e∧e≤1000) (hfa: ∀d f e,fa d f= .error e→0<e∧e≤1000)
include hfo hfa
theorem ja (t:Tm): ∀ {d e},aw fo fa d t= .error e→0<e∧e≤1000:=by
 induction t using d3 with
 |h kd n nm r ks sys ih1 ih2=>
  intro d e h
  rw [aw] at h
  rcases bm h with h|⟨_,_,h⟩
  ·split at h
   ·exact hfa _ _ _ h
   ·exact hfo _ _ _ h
  have hkids: ∀ {l:List Tm} {i:Nat},(∀x∈l,∀ {d e},aw fo fa d x= .error e→0<e∧e≤1000)→aM fo fa d kd i l= .error e→0<e∧e≤1000:=by
   intro l
   induction l with
   |nil=>intro i _ h;rw [aM] at h;cases h
   |cons t l ih=>
    intro i hl h
    rw [aM] at h
    rcases bm h with h|⟨_,_,h⟩
    ·exact hl t (by simp) h
    ·rcases bm h with h|⟨_,_,h⟩
     ·exact ih (fun x hx=>hl x (by simp [hx])) h
     ·cases h
  have hmore: ∀ {l:List Tm},(∀x∈l,∀ {d e},aw fo fa d x= .error e→0<e∧e≤1000)→ ∀ {e},aR fo fa d kd l= .error e→0<e∧e≤1000:=by
   intro l
   induction l with
   |nil=>intro _ e h;rw [aR] at h;cases h
   |cons t l ih=>
    intro hl e h
    rw [aR] at h
    rcases bm h with h|⟨_,_,h⟩
    ·exact hl t (by simp) h
    ·rcases bm h with h|⟨_,_,h⟩
     ·exact ih (fun x hx=>hl x (by simp [hx])) h
     ·cases h
  have hsys: ∀ {l:List (Br Tm)},(∀b∈l,∀x∈b.kids,∀ {d e},aw fo fa d x= .error e→0<e∧e≤1000)→aA fo fa d kd l= .error e→0<e∧e≤1000:=by
   intro l
   induction l with
   |nil=>intro _ h;rw [aA] at h;cases h
   |cons b l ih=>
    intro hl h
    rw [aA] at h
    rcases bm h with h|⟨_,_,h⟩
    ·rw [ya] at h
     rcases bm h with h|⟨_,_,h⟩
     ·exact hfa _ _ _ h
     ·split at h
      ·cases h
      ·rcases bm h with h|⟨_,_,h⟩
       ·exact hmore (hl b (by simp)) h
       ·cases h
    ·rcases bm h with h|⟨_,_,h⟩
     ·exact ih (fun b hb=>hl b (by simp [hb])) h
     ·cases h
  rcases bm h with h|⟨_,_,h⟩
  ·exact hkids (fun x hx=>ih1 x hx) h
  ·rcases bm h with h|⟨_,_,h⟩
   ·exact hsys ih2 h
   ·cases h
theorem F4 {kd d:Int}: ∀ {l:List Tm} {i:Nat} {e:Int},aM fo fa d kd i l= .error e→0<e∧e≤1000:=by
 intro l
 induction l with
 |nil=>intro i e h;rw [aM] at h;cases h
 |cons t l ih=>
  intro i e h
  rw [aM] at h
  rcases bm h with h|⟨_,_,h⟩
  ·exact ja hfo hfa t h
  ·rcases bm h with h|⟨_,_,h⟩
   ·exact ih h
   ·cases h
theorem F5 {kd d:Int}: ∀ {l:List Tm} {e:Int},aR fo fa d kd l= .error e→0<e∧e≤1000:=by
 intro l
 induction l with
 |nil=>intro e h;rw [aR] at h;cases h
 |cons t l ih=>
  intro e h
  rw [aR] at h
  rcases bm h with h|⟨_,_,h⟩
  ·exact ja hfo hfa t h
  ·rcases bm h with h|⟨_,_,h⟩
   ·exact ih h
   ·cases h
end
theorem oi {α β:Type} (x:Except Int Tm) (hx: ∀e,x= .error e→0<e∧e≤1000) (f:Tm→α) (g:Int→α):(fun r:Tm×Int=>ab (!(r.2==0)) (g r.2) (f r.1)) (tE x)=eE x f g:=by
 cases x with
 |ok t=>rfl
 |error e=>
  have:=(hx e rfl).1
  show ab (!(e==0)) (g e) (f aG)=g e
  rw [bM,decide_eq_false (by omega),Bool.not_false,ag]
theorem rz {α β γ:Type} (x:Except Int α) (hx: ∀e,x= .error e→0<e∧e≤1000) (z:α) (f:α→β) (g:Int→β):eE x (fun l=>(fun r:α×Int=>ab (!(r.2==0)) (g r.2) (f r.1)) (l,0)) (fun e=>(fun r:α×Int=>ab (!(r.2==0)) (g r.2) (f r.1)) (z,e))=eE x f g:=by
 cases x with
 |ok t=>rfl
 |error e=>
  have:=(hx e rfl).1
  show ab (!(e==0)) (g e) (f z)=g e
  rw [bM,decide_eq_false (by omega),Bool.not_false,ag]
theorem iO {G:Int→List Cl→List Cl}: ∀d f e,aq G d f= .error e→0<e∧e≤1000:=fun d f e h=>by cases h
theorem gg {i:Int} {r:List Cl} {fa:Bool}: ∀d f e,aB i r fa d f= .error e→0<e∧e≤1000:=fun d f e h=>Du h
section
variable {hd:Tm→Int→Int→List Cl→(Tm×Int→Option S)→Option S} {i d:Int} {t:Tm} {r:List Cl}
theorem Px (hk:Fu k) (hi:0≤i∧i<24) (hr:RF r) (hd0:0≤d∧d<4611686018427386000) (hro:RowsT t) (ret:List Cl×Int→Option S): ∃z:List Cl×Int,bP z=(if t.kind=14 then (aB i r true) d t.r else (aB i r false) d t.r)∧pH k t d i r ret=ret z:=by
 have hr0:=hro.no.1
 simp only [pH,EU,am hk,D7 hk hr0 hr hi (show 0≤d∧d<4611686018427387000 by omega),Q_ hk hr0 hr hi (show 0≤d∧d<4611686018427387000 by omega)]
 by_cases h:t.kind=14
 ·rw [h,if_pos rfl,show ((14:Int)==14)=true from rfl,ag]
  exact ⟨_,xR _ _ _ _ _,rfl⟩
 ·rw [if_neg h,show (t.kind==14)=false from by rw [beq_eq_false_iff_ne];exact h,ac]
  exact ⟨_,xR _ _ _ _ _,rfl⟩
theorem Pt (hk:Fu k) (ret:List Tm×Int→Option S) (hd0:0≤d∧d<4611686018427386000) (hQ: ∀y∈t.kids,∀b,0≤b∧b≤1→ ∀g,hd y (d+b) i r g=g (tE (aw (aB i r false) (aB i r true) (d+b) y))) (hl:t.kids.length<1073741824):
  ∀ (r' p:List Tm) (m:Nat) (acc:List Tm),t.kids=p++r'→r'.length<m→acc.length=p.length→
  iE hd k ret i r t t.kids d m acc (p.length:Int)=eE (aM (aB i r false) (aB i r true) d t.kind p.length r') (fun l=>ret (acc++l,0)) fun e=>ret ([],e):=by
 intro r'
 induction r' with
 |nil=>
  intro p m acc h hm ha
  obtain ⟨m,rfl,hm'⟩:=ap hm
  simp only [iE,oK,aL h,ac,aM,bA,List.append_nil]
 |cons y r' ih=>
  intro p m acc h hm ha
  obtain ⟨m,rfl,hm'⟩:=ap hm
  obtain ⟨e1,e2,e3,e4⟩:=aK h (by omega)
  have hpl:p.length<t.kids.length:=by rw [h];simp
  have b2':=g7 t.kind p.length
  have hy:=hQ y (by rw [h];simp) (ci t.kind p.length) b2'
  simp only [iE,oK,e1,ag,e2,Option.bind_some,am hk,mK,w7,lG,a8,cP (n:=d+ci t.kind p.length) (by omega) (by omega),hy]
  refine Eq.trans (oi (β:=Unit) _ (fun e he=>ja gg gg y he) (fun z=>Option.bind (aS 1099511627776 acc.length [z].length) fun _=>iE hd k ret i r t t.kids d m (acc++[z]) (IntKind.wrap .i64 ((p.length:Int)+1))) fun e=>ret ([],e)) ?_
  simp only [aM,bz,bA]
  refine co (fun t' ht'=> ?_) fun e _=>rfl
  rw [bS (by simp;omega),e3,ih (p++[y]) m (acc++[t']) e4 hm' (by simp;omega),show (p++[y]).length=p.length+1 by simp]
  simp
theorem Pu (hk:Fu k) (ret:List Tm×Int→Option S) {x:Br Tm} {kd:Int} (hd0:0≤d∧d<4611686018427386000) (hQ: ∀y∈x.kids,∀g,hd y (d+ax kd) i r g=g (tE (aw (aB i r false) (aB i r true) (d+ax kd) y))) (hl:x.kids.length<1073741824):
  ∀ (r' p:List Tm) (m:Nat) (acc:List Tm),x.kids=p++r'→r'.length<m→acc.length=p.length→
  iD hd k ret i r (ax kd) x.kids d m acc (p.length:Int)=eE (aR (aB i r false) (aB i r true) d kd r') (fun l=>ret (acc++l,0)) fun e=>ret ([],e):=by
 have hmo:=eQ kd
 intro r'
 induction r' with
 |nil=>
  intro p m acc h hm ha
  obtain ⟨m,rfl,hm'⟩:=ap hm
  simp only [iD,oJ,aL h,ac,aR,bA,List.append_nil]
 |cons y r' ih=>
  intro p m acc h hm ha
  obtain ⟨m,rfl,hm'⟩:=ap hm
  obtain ⟨e1,e2,e3,e4⟩:=aK h (by omega)
  have hpl:p.length<x.kids.length:=by rw [h];simp
  have hy:=hQ y (by rw [h];simp)
  simp only [iD,oJ,e1,ag,e2,Option.bind_some,am hk,mL,w8,a8,cP (n:=d+ax kd) (by omega) (by omega),hy]
  refine Eq.trans (oi (β:=Unit) _ (fun e he=>ja gg gg y he) (fun z=>Option.bind (aS 1099511627776 acc.length [z].length) fun _=>iD hd k ret i r (ax kd) x.kids d m (acc++[z]) (IntKind.wrap .i64 ((p.length:Int)+1))) fun e=>ret ([],e)) ?_
  simp only [aR,bz,bA]
  refine co (fun t' ht'=> ?_) fun e _=>rfl
  rw [bS (by simp;omega),e3,ih (p++[y]) m (acc++[t']) e4 hm' (by simp;omega)]
  simp
theorem Pv (hk:Fu k) (ret:Tm×Int→Option S) (hi:0≤i∧i<24) (hr:RF r) (hd0:0≤d∧d<4611686018427386000) {r1:List Cl×Int} {r2:List Tm×Int} (ht:OkT t) (hro:RowsT t) (hQ: ∀b∈t.sys,∀y∈b.kids,∀g,hd y (d+ax t.kind) i r g=g (tE (aw (aB i r false) (aB i r true) (d+ax t.kind) y))):
  ∀ (r' p:List (Br Tm)) (m:Nat) (o:List (Br Tm)),t.sys=p++r'→r'.length<m→o.length≤p.length→
  eh hd k ret i r t r1 r2 d m (ax t.kind) o (p.length:Int)=eE (aA (aB i r false) (aB i r true) d t.kind r') (fun s=>ret (.mk t.kind t.n t.name r1.1 r2.1 (o++s),0)) fun e=>ret (aG,e):=by
 obtain ⟨o1,o2,o3,o4,o5,o6,o7⟩:=ht.no
 intro r'
 induction r' with
 |nil=>
  intro p m o h hml ho
  obtain ⟨m,rfl,hm'⟩:=ap hml
  simp only [eh,oL,aL h,ac,aA,bA,List.append_nil]
 |cons x r' ih=>
  intro p m o h hml ho
  obtain ⟨m,rfl,hm'⟩:=ap hml
  obtain ⟨e1,e2,e3,e4⟩:=aK h (by omega)
  have hx:x∈t.sys:=by rw [h];simp
  have hpl:p.length<t.sys.length:=by rw [h];simp
  have hb:=(ht.bi hx).1
  have hr0:=(hro.bi hx).1
  have hM:=fun g:List Tm×Int→Option S=>Pu (kd:=t.kind) hk g hd0 (hQ x hx) hb.2.2 x.kids [] k [] rfl (by have:4294967296≤k:=hk;omega) rfl
  have hM: ∀g:List Tm×Int→Option S,iD hd k g i r (ax t.kind) x.kids d k [] 0=_:=hM
  simp only [eh,oL,e1,ag,e2,Option.bind_some,am hk,D7 hk hr0 hr hi (show 0≤d∧d<4611686018427387000 by omega),tV,w5,hM,e3,List.nil_append]
  have hin:=fun f':List Cl=>rz (β:=Option S) (γ:=Unit) (aR (aB i r false) (aB i r true) d t.kind x.kids) (fun e he=>F5 gg gg he) [] (fun l=>Option.bind (aS 1099511627776 o.length [Br.mk f' l].length) fun _=>eh hd k ret i r t r1 r2 d m (ax t.kind) (o++[Br.mk f' l]) (((p++[x]).length:Nat):Int)) fun e=>ret (aG,e)
  refine Eq.trans (sF (z:=(iZ i r true d x.face)) (fun f'=>ab (((f'.length:Nat):Int)==0) (eh hd k ret i r t r1 r2 d m (ax t.kind) o (((p++[x]).length:Nat):Int)) (eE (aR (aB i r false) (aB i r true) d t.kind x.kids) (fun l=>(fun r5:List Tm×Int=>ab (!(r5.2==0)) (ret (aG,r5.2)) (Option.bind (aS 1099511627776 o.length [Br.mk f' r5.1].length) fun _=>eh hd k ret i r t r1 r2 d m (ax t.kind) (o++[Br.mk f' r5.1]) (((p++[x]).length:Nat):Int))) (l,0)) fun e=>(fun r5:List Tm×Int=>ab (!(r5.2==0)) (ret (aG,r5.2)) (Option.bind (aS 1099511627776 o.length [Br.mk f' r5.1].length) fun _=>eh hd k ret i r t r1 r2 d m (ax t.kind) (o++[Br.mk f' r5.1]) (((p++[x]).length:Nat):Int))) ([],e))) fun e=>ret (aG,e)) ?_
  rw [show bP (iZ i r true d x.face)=(aB i r true) d x.face from xR _ _ _ _ _]
  rw [aA,ya,bz,bz]
  refine co (fun f' hf'=> ?_) fun e _=>rfl
  rw [qT,bU]
  by_cases h0:f'.length=0
  ·rw [if_pos h0,if_pos h0,bA,bz,ih (p++[x]) m o e4 hm' (by simp;omega)]
   exact co (fun _ _=>rfl) fun _ _=>rfl
  ·rw [if_neg h0,if_neg h0,hin f',bz]
   refine co (fun l hl=> ?_) fun e _=>rfl
   rw [bA,bz,bS (by simp;omega),ih (p++[x]) m (o++[Br.mk f' l]) e4 hm' (by simp;omega)]
   refine co (fun s _=> ?_) fun e _=>rfl
   rw [bA];simp
end
theorem Py {i:Int} {r:List Cl} (hi:0≤i∧i<24) (hr:RF r) (t:Tm):OkT t→RowsT t→ ∀ {k:Nat} {d:Int} (ret:Tm×Int→Option S),Fd k (ay t)→0≤d→d+ay t<4611686018427386000→cX k t d i r ret=ret (tE (aw (aB i r false) (aB i r true) d t)):=by
 induction t using gj with
 |h t ih1 ih2=>
  intro ht hro k d ret hk hv hv'
  obtain ⟨q,rfl,hq,hf⟩:=hk.pos' (dQ t)
  have hp:=dQ t
  have hd0:0≤d∧d<4611686018427386000:=by omega
  obtain ⟨o1,o2,o3,o4,o5,o6,o7⟩:=ht.no
  have hmo:=eQ t.kind
  have hQ: ∀y∈t.kids,∀b,0≤b∧b≤1→ ∀g:Tm×Int→Option S,cX q y (d+b) i r g=g (tE (aw (aB i r false) (aB i r true) (d+b) y)):=fun y hy b h2 g=>
   ih1 y hy (ht.ki hy) (hro.ki hy) g (hf _ (ee hy)) (by omega) (by have:=ee hy;omega)
  have hQ': ∀b∈t.sys,∀y∈b.kids,∀g:Tm×Int→Option S,cX q y (d+ax t.kind) i r g=g (tE (aw (aB i r false) (aB i r true) (d+ax t.kind) y)):=fun b hb y hy g=>
   ih2 b hb y hy ((ht.bi hb).2 y hy) ((hro.bi hb).2 y hy) g (hf _ (d_ hb hy)) (by omega) (by have:=d_ hb hy;omega)
  have hK: ∀g:List Tm×Int→Option S,iE (cX q) q g i r t t.kids d q [] 0=_:=fun g=>Pt hq g hd0 hQ o6 t.kids [] q [] rfl (by have:4294967296≤q:=hq;omega) rfl
  have hS:=fun (r1:List Cl×Int) (r2:List Tm×Int)=>Pv (r1:=r1) (r2:=r2) hq ret hi hr hd0 ht hro hQ' t.sys [] q [] rfl (by have:4294967296≤q:=hq;omega) (Nat.le_refl _)
  have hS: ∀ (r1:List Cl×Int) (r2:List Tm×Int),eh (cX q) q ret i r t r1 r2 d q (ax t.kind) [] 0=_:=hS
  have hcase: ∀ (r1:List Cl×Int) (r2:List Tm×Int),ab (t.kind==15) (eh (cX q) q ret i r t r1 r2 d q 1 [] 0) (eh (cX q) q ret i r t r1 r2 d q 0 [] 0)=eE (aA (aB i r false) (aB i r true) d t.kind t.sys) (fun s=>ret (.mk t.kind t.n t.name r1.1 r2.1 s,0)) fun e=>ret (aG,e):=by
   intro r1 r2
   have:=hS r1 r2
   simp only [List.nil_append] at this
   rw [←this,dZ]
   unfold ax
   by_cases h15:t.kind=15
   ·rw [if_pos h15,if_pos (by rw [h15];rfl)]
   ·rw [if_neg h15,if_neg (by rw [beq_iff_eq];exact h15)]
  obtain ⟨z,hz,hrow⟩:=Px hq hi hr hd0 hro (fun r1=>ab (!(r1.2==0)) (ret (aG,r1.2)) (eE (aM (aB i r false) (aB i r true) d t.kind 0 t.kids) (fun l=>(fun r2:List Tm×Int=>ab (!(r2.2==0)) (ret (aG,r2.2)) (eE (aA (aB i r false) (aB i r true) d t.kind t.sys) (fun s=>ret (.mk t.kind t.n t.name r1.1 r2.1 s,0)) fun e=>ret (aG,e))) (l,0)) fun e=>(fun r2:List Tm×Int=>ab (!(r2.2==0)) (ret (aG,r2.2)) (eE (aA (aB i r false) (aB i r true) d t.kind t.sys) (fun s=>ret (.mk t.kind t.n t.name r1.1 r2.1 s,0)) fun e=>ret (aG,e))) ([],e)))
  simp only [cX,w9,am hq,a8,tW,w6,hK,hcase,List.nil_append,List.length_nil]
  refine Eq.trans hrow ?_
  rw [gV _ ret,F7,←hz]
  refine Eq.trans (sF (z:=z) (fun r'=>eE (aM (aB i r false) (aB i r true) d t.kind 0 t.kids) (fun l=>(fun r2:List Tm×Int=>ab (!(r2.2==0)) (ret (aG,r2.2)) (eE (aA (aB i r false) (aB i r true) d t.kind t.sys) (fun s=>ret (.mk t.kind t.n t.name r' r2.1 s,0)) fun e=>ret (aG,e))) (l,0)) fun e=>(fun r2:List Tm×Int=>ab (!(r2.2==0)) (ret (aG,r2.2)) (eE (aA (aB i r false) (aB i r true) d t.kind t.sys) (fun s=>ret (.mk t.kind t.n t.name r' r2.1 s,0)) fun e=>ret (aG,e))) ([],e)) fun e=>ret (aG,e)) ?_
  rw [bz]
  refine co (fun r' _=> ?_) fun e _=>rfl
  refine Eq.trans (rz (β:=Option S) (γ:=Unit) (aM (aB i r false) (aB i r true) d t.kind 0 t.kids) (fun e he=>F4 gg gg he) [] (fun l=>eE (aA (aB i r false) (aB i r true) d t.kind t.sys) (fun s=>ret (.mk t.kind t.n t.name r' l s,0)) fun e=>ret (aG,e)) fun e=>ret (aG,e)) ?_
  simp only [bz,bA]
section
variable {hd:Tm→Int→Int→(Tm×Int→Option S)→Option S} {i d:Int} {t:Tm}
theorem J6 (hk:Fu k) (hi:0≤i∧i<24) (hd0:0≤d∧d<4611686018427386000) (hro:RowsT t) (ret:List Cl×Int→Option S): ∃z:List Cl×Int,bP z=(if t.kind=14 then (aq fun d f=>aD (i+d) f) d t.r else (aq fun d f=>aD (i+d) f) d t.r)∧pI k t d i ret=ret z:=by
 have hr0:=hro.no.1
 simp only [pI,EV,am hk,DV hk hi (show 0≤d∧d<4611686018427387000 by omega) hr0]
 by_cases h:t.kind=14
 ·rw [h,if_pos rfl,show ((14:Int)==14)=true from rfl,ag]
  exact ⟨_,rfl,rfl⟩
 ·rw [if_neg h,show (t.kind==14)=false from by rw [beq_eq_false_iff_ne];exact h,ac]
  exact ⟨_,rfl,rfl⟩
theorem JZ (hk:Fu k) (ret:List Tm×Int→Option S) (hd0:0≤d∧d<4611686018427386000) (hQ: ∀y∈t.kids,∀b,0≤b∧b≤1→ ∀g,hd y (d+b) i g=g (tE (aw (aq fun d f=>aD (i+d) f) (aq fun d f=>aD (i+d) f) (d+b) y))) (hl:t.kids.length<1073741824):
  ∀ (r' p:List Tm) (m:Nat) (acc:List Tm),t.kids=p++r'→r'.length<m→acc.length=p.length→
  iC hd k ret i t t.kids d m acc (p.length:Int)=eE (aM (aq fun d f=>aD (i+d) f) (aq fun d f=>aD (i+d) f) d t.kind p.length r') (fun l=>ret (acc++l,0)) fun e=>ret ([],e):=by
 intro r'
 induction r' with
 |nil=>
  intro p m acc h hm ha
  obtain ⟨m,rfl,hm'⟩:=ap hm
  simp only [iC,oI,aL h,ac,aM,bA,List.append_nil]
 |cons y r' ih=>
  intro p m acc h hm ha
  obtain ⟨m,rfl,hm'⟩:=ap hm
  obtain ⟨e1,e2,e3,e4⟩:=aK h (by omega)
  have hpl:p.length<t.kids.length:=by rw [h];simp
  have b2':=g7 t.kind p.length
  have hy:=hQ y (by rw [h];simp) (ci t.kind p.length) b2'
  simp only [iC,oI,e1,ag,e2,Option.bind_some,am hk,mK,w7,lG,a8,cP (n:=d+ci t.kind p.length) (by omega) (by omega),hy]
  refine Eq.trans (oi (β:=Unit) _ (fun e he=>ja iO iO y he) (fun z=>Option.bind (aS 1099511627776 acc.length [z].length) fun _=>iC hd k ret i t t.kids d m (acc++[z]) (IntKind.wrap .i64 ((p.length:Int)+1))) fun e=>ret ([],e)) ?_
  simp only [aM,bz,bA]
  refine co (fun t' ht'=> ?_) fun e _=>rfl
  rw [bS (by simp;omega),e3,ih (p++[y]) m (acc++[t']) e4 hm' (by simp;omega),show (p++[y]).length=p.length+1 by simp]
  simp
theorem J4 (hk:Fu k) (ret:List Tm×Int→Option S) {x:Br Tm} {kd:Int} (hd0:0≤d∧d<4611686018427386000) (hQ: ∀y∈x.kids,∀g,hd y (d+ax kd) i g=g (tE (aw (aq fun d f=>aD (i+d) f) (aq fun d f=>aD (i+d) f) (d+ax kd) y))) (hl:x.kids.length<1073741824):
  ∀ (r' p:List Tm) (m:Nat) (acc:List Tm),x.kids=p++r'→r'.length<m→acc.length=p.length→
  iA hd k ret i (ax kd) x.kids d m acc (p.length:Int)=eE (aR (aq fun d f=>aD (i+d) f) (aq fun d f=>aD (i+d) f) d kd r') (fun l=>ret (acc++l,0)) fun e=>ret ([],e):=by
 have hmo:=eQ kd
 intro r'
 induction r' with
 |nil=>
  intro p m acc h hm ha
  obtain ⟨m,rfl,hm'⟩:=ap hm
  simp only [iA,oH,aL h,ac,aR,bA,List.append_nil]
 |cons y r' ih=>
  intro p m acc h hm ha
  obtain ⟨m,rfl,hm'⟩:=ap hm
  obtain ⟨e1,e2,e3,e4⟩:=aK h (by omega)
  have hpl:p.length<x.kids.length:=by rw [h];simp
  have hy:=hQ y (by rw [h];simp)
  simp only [iA,oH,e1,ag,e2,Option.bind_some,am hk,mL,w8,a8,cP (n:=d+ax kd) (by omega) (by omega),hy]
  refine Eq.trans (oi (β:=Unit) _ (fun e he=>ja iO iO y he) (fun z=>Option.bind (aS 1099511627776 acc.length [z].length) fun _=>iA hd k ret i (ax kd) x.kids d m (acc++[z]) (IntKind.wrap .i64 ((p.length:Int)+1))) fun e=>ret ([],e)) ?_
  simp only [aR,bz,bA]
  refine co (fun t' ht'=> ?_) fun e _=>rfl
  rw [bS (by simp;omega),e3,ih (p++[y]) m (acc++[t']) e4 hm' (by simp;omega)]
  simp
theorem J5 (hk:Fu k) (ret:Tm×Int→Option S) (hi:0≤i∧i<24) (hd0:0≤d∧d<4611686018427386000) {r1:List Cl×Int} {r2:List Tm×Int} (ht:OkT t) (hro:RowsT t) (hQ: ∀b∈t.sys,∀y∈b.kids,∀g,hd y (d+ax t.kind) i g=g (tE (aw (aq fun d f=>aD (i+d) f) (aq fun d f=>aD (i+d) f) (d+ax t.kind) y))):
  ∀ (r' p:List (Br Tm)) (m:Nat) (o:List (Br Tm)),t.sys=p++r'→r'.length<m→o.length≤p.length→
  ei hd k ret i t r1 r2 d m (ax t.kind) o (p.length:Int)=eE (aA (aq fun d f=>aD (i+d) f) (aq fun d f=>aD (i+d) f) d t.kind r') (fun s=>ret (.mk t.kind t.n t.name r1.1 r2.1 (o++s),0)) fun e=>ret (aG,e):=by
 obtain ⟨o1,o2,o3,o4,o5,o6,o7⟩:=ht.no
 intro r'
 induction r' with
 |nil=>
  intro p m o h hml ho
  obtain ⟨m,rfl,hm'⟩:=ap hml
  simp only [ei,oM,aL h,ac,aA,bA,List.append_nil]
 |cons x r' ih=>
  intro p m o h hml ho
  obtain ⟨m,rfl,hm'⟩:=ap hml
  obtain ⟨e1,e2,e3,e4⟩:=aK h (by omega)
  have hx:x∈t.sys:=by rw [h];simp
  have hpl:p.length<t.sys.length:=by rw [h];simp
  have hb:=(ht.bi hx).1
  have hr0:=(hro.bi hx).1
  have hM:=fun g:List Tm×Int→Option S=>J4 (kd:=t.kind) hk g hd0 (hQ x hx) hb.2.2 x.kids [] k [] rfl (by have:4294967296≤k:=hk;omega) rfl
  have hM: ∀g:List Tm×Int→Option S,iA hd k g i (ax t.kind) x.kids d k [] 0=_:=hM
  simp only [ei,oM,e1,ag,e2,Option.bind_some,am hk,DV hk hi (show 0≤d∧d<4611686018427387000 by omega) hr0,tT,wY,hM,e3,List.nil_append]
  have hin:=fun f':List Cl=>rz (β:=Option S) (γ:=Unit) (aR (aq fun d f=>aD (i+d) f) (aq fun d f=>aD (i+d) f) d t.kind x.kids) (fun e he=>F5 iO iO he) [] (fun l=>Option.bind (aS 1099511627776 o.length [Br.mk f' l].length) fun _=>ei hd k ret i t r1 r2 d m (ax t.kind) (o++[Br.mk f' l]) (((p++[x]).length:Nat):Int)) fun e=>ret (aG,e)
  refine Eq.trans (sF (z:=(aD (i+d) x.face,(0:Int))) (fun f'=>ab (((f'.length:Nat):Int)==0) (ei hd k ret i t r1 r2 d m (ax t.kind) o (((p++[x]).length:Nat):Int)) (eE (aR (aq fun d f=>aD (i+d) f) (aq fun d f=>aD (i+d) f) d t.kind x.kids) (fun l=>(fun r5:List Tm×Int=>ab (!(r5.2==0)) (ret (aG,r5.2)) (Option.bind (aS 1099511627776 o.length [Br.mk f' r5.1].length) fun _=>ei hd k ret i t r1 r2 d m (ax t.kind) (o++[Br.mk f' r5.1]) (((p++[x]).length:Nat):Int))) (l,0)) fun e=>(fun r5:List Tm×Int=>ab (!(r5.2==0)) (ret (aG,r5.2)) (Option.bind (aS 1099511627776 o.length [Br.mk f' r5.1].length) fun _=>ei hd k ret i t r1 r2 d m (ax t.kind) (o++[Br.mk f' r5.1]) (((p++[x]).length:Nat):Int))) ([],e))) fun e=>ret (aG,e)) ?_
  rw [show bP (aD (i+d) x.face,(0:Int))=(aq fun d f=>aD (i+d) f) d x.face from rfl]
  rw [aA,ya,bz,bz]
  refine co (fun f' hf'=> ?_) fun e _=>rfl
  rw [qT,bU]
  by_cases h0:f'.length=0
  ·rw [if_pos h0,if_pos h0,bA,bz,ih (p++[x]) m o e4 hm' (by simp;omega)]
   exact co (fun _ _=>rfl) fun _ _=>rfl
  ·rw [if_neg h0,if_neg h0,hin f',bz]
   refine co (fun l hl=> ?_) fun e _=>rfl
   rw [bA,bz,bS (by simp;omega),ih (p++[x]) m (o++[Br.mk f' l]) e4 hm' (by simp;omega)]
   refine co (fun s _=> ?_) fun e _=>rfl
   rw [bA];simp
end
theorem J7 {i:Int} (hi:0≤i∧i<24) (t:Tm):OkT t→RowsT t→ ∀ {k:Nat} {d:Int} (ret:Tm×Int→Option S),Fd k (ay t)→0≤d→d+ay t<4611686018427386000→cR k t d i ret=ret (tE (aw (aq fun d f=>aD (i+d) f) (aq fun d f=>aD (i+d) f) d t)):=by
 induction t using gj with
 |h t ih1 ih2=>
  intro ht hro k d ret hk hv hv'
  obtain ⟨q,rfl,hq,hf⟩:=hk.pos' (dQ t)
  have hp:=dQ t
  have hd0:0≤d∧d<4611686018427386000:=by omega
  obtain ⟨o1,o2,o3,o4,o5,o6,o7⟩:=ht.no
  have hmo:=eQ t.kind
  have hQ: ∀y∈t.kids,∀b,0≤b∧b≤1→ ∀g:Tm×Int→Option S,cR q y (d+b) i g=g (tE (aw (aq fun d f=>aD (i+d) f) (aq fun d f=>aD (i+d) f) (d+b) y)):=fun y hy b h2 g=>
   ih1 y hy (ht.ki hy) (hro.ki hy) g (hf _ (ee hy)) (by omega) (by have:=ee hy;omega)
  have hQ': ∀b∈t.sys,∀y∈b.kids,∀g:Tm×Int→Option S,cR q y (d+ax t.kind) i g=g (tE (aw (aq fun d f=>aD (i+d) f) (aq fun d f=>aD (i+d) f) (d+ax t.kind) y)):=fun b hb y hy g=>
   ih2 b hb y hy ((ht.bi hb).2 y hy) ((hro.bi hb).2 y hy) g (hf _ (d_ hb hy)) (by omega) (by have:=d_ hb hy;omega)
  have hK: ∀g:List Tm×Int→Option S,iC (cR q) q g i t t.kids d q [] 0=_:=fun g=>JZ hq g hd0 hQ o6 t.kids [] q [] rfl (by have:4294967296≤q:=hq;omega) rfl
  have hS:=fun (r1:List Cl×Int) (r2:List Tm×Int)=>J5 (r1:=r1) (r2:=r2) hq ret hi hd0 ht hro hQ' t.sys [] q [] rfl (by have:4294967296≤q:=hq;omega) (Nat.le_refl _)
  have hS: ∀ (r1:List Cl×Int) (r2:List Tm×Int),ei (cR q) q ret i t r1 r2 d q (ax t.kind) [] 0=_:=hS
  have hcase: ∀ (r1:List Cl×Int) (r2:List Tm×Int),ab (t.kind==15) (ei (cR q) q ret i t r1 r2 d q 1 [] 0) (ei (cR q) q ret i t r1 r2 d q 0 [] 0)=eE (aA (aq fun d f=>aD (i+d) f) (aq fun d f=>aD (i+d) f) d t.kind t.sys) (fun s=>ret (.mk t.kind t.n t.name r1.1 r2.1 s,0)) fun e=>ret (aG,e):=by
   intro r1 r2
   have:=hS r1 r2
   simp only [List.nil_append] at this
   rw [←this,dZ]
   unfold ax
   by_cases h15:t.kind=15
   ·rw [if_pos h15,if_pos (by rw [h15];rfl)]
   ·rw [if_neg h15,if_neg (by rw [beq_iff_eq];exact h15)]
  obtain ⟨z,hz,hrow⟩:=J6 hq hi hd0 hro (fun r1=>ab (!(r1.2==0)) (ret (aG,r1.2)) (eE (aM (aq fun d f=>aD (i+d) f) (aq fun d f=>aD (i+d) f) d t.kind 0 t.kids) (fun l=>(fun r2:List Tm×Int=>ab (!(r2.2==0)) (ret (aG,r2.2)) (eE (aA (aq fun d f=>aD (i+d) f) (aq fun d f=>aD (i+d) f) d t.kind t.sys) (fun s=>ret (.mk t.kind t.n t.name r1.1 r2.1 s,0)) fun e=>ret (aG,e))) (l,0)) fun e=>(fun r2:List Tm×Int=>ab (!(r2.2==0)) (ret (aG,r2.2)) (eE (aA (aq fun d f=>aD (i+d) f) (aq fun d f=>aD (i+d) f) d t.kind t.sys) (fun s=>ret (.mk t.kind t.n t.name r1.1 r2.1 s,0)) fun e=>ret (aG,e))) ([],e)))
  simp only [cR,w_,am hq,a8,tU,wZ,hK,hcase,List.nil_append,List.length_nil]
  refine Eq.trans hrow ?_
  rw [gV _ ret,F7,←hz]
  refine Eq.trans (sF (z:=z) (fun r'=>eE (aM (aq fun d f=>aD (i+d) f) (aq fun d f=>aD (i+d) f) d t.kind 0 t.kids) (fun l=>(fun r2:List Tm×Int=>ab (!(r2.2==0)) (ret (aG,r2.2)) (eE (aA (aq fun d f=>aD (i+d) f) (aq fun d f=>aD (i+d) f) d t.kind t.sys) (fun s=>ret (.mk t.kind t.n t.name r' r2.1 s,0)) fun e=>ret (aG,e))) (l,0)) fun e=>(fun r2:List Tm×Int=>ab (!(r2.2==0)) (ret (aG,r2.2)) (eE (aA (aq fun d f=>aD (i+d) f) (aq fun d f=>aD (i+d) f) d t.kind t.sys) (fun s=>ret (.mk t.kind t.n t.name r' r2.1 s,0)) fun e=>ret (aG,e))) ([],e)) fun e=>ret (aG,e)) ?_
  rw [bz]
  refine co (fun r' _=> ?_) fun e _=>rfl
  refine Eq.trans (rz (β:=Option S) (γ:=Unit) (aM (aq fun d f=>aD (i+d) f) (aq fun d f=>aD (i+d) f) d t.kind 0 t.kids) (fun e he=>F4 iO iO he) [] (fun l=>eE (aA (aq fun d f=>aD (i+d) f) (aq fun d f=>aD (i+d) f) d t.kind t.sys) (fun s=>ret (.mk t.kind t.n t.name r' l s,0)) fun e=>ret (aG,e)) fun e=>ret (aG,e)) ?_
  simp only [bz,bA]
end Go.Proofs.YtapmagaejigpnaaGreatDoor
namespace Go.Proofs.YtapmagaejigpnaaGreatDoor
open Go PI
set_option linter.unusedVariables false
set_option linter.unusedSimpArgs false
set_option maxRecDepth 20000
variable {S:Type} {k:Nat}
def pw (i:Int):Int→List Cl→List Cl:=fun d f=>aD (i+d) f
def aY (i:Int) (r:List Cl) (fa:Bool):ca:=ce (aB i r fa) (pw i)
theorem jB (i:Int) (r:List Cl) (fa:Bool) (d:Int) (f:List Cl):aY i r fa d f=bE (aB i r fa d f) fun m=> .ok (aD (i+d) m):=rfl
theorem zD {i:Int} {r:List Cl} {fa:Bool}: ∀d f e,aY i r fa d f= .error e→0<e∧e≤1000:=fun d f e h=>by
 rw [jB] at h
 rcases bm h with h|⟨_,_,h⟩
 ·exact Du h
 ·cases h
section
variable {hd:Tm→Int→List Cl→Int→Bool→(Tm→Option S)→Option S} {i d:Int} {r:List Cl} {t:Tm}
end
def eT (i:Int) (r:List Cl) (t:Tm):Except Int Tm:=bE (bP (aF r i 1)) fun s=>aw (aY i s false) (aY i s true) 0 t
theorem Sc {i:Int} {r:List Cl} {t:Tm} {e:Int} (h:eT i r t= .error e):0<e∧e≤1000:=by
 rcases bm h with h|⟨s,_,h⟩
 ·obtain ⟨h1,rfl⟩:=ol h
  have:=qW r i 1
  unfold EN at this;omega
 ·exact ja zD zD t h
theorem sb (hk:F3 k) {t:Tm} (ht:Fm t) {i:Int} (hi:0≤i∧i<24) {r:List Cl} (hr:RF r) (ret:Tm×Int→Option S):hX k t i r ret=ret (tE (eT i r t)):=by
 have l2:=hr.len
 have hdp:=ht.dep
 simp only [hX,EJ,am hk.fu,a8,tX,EW,nX ht.ok (ht.fd hk) (show ay t<1099511627776 by omega),ht.2,QK hk.fu,lJ hk.fu hr.2 hr.lt,hr.right,decide_eq_true hi,n4 hk.fu hr.2 (show r.length<1073741824 by omega) (show aI i by unfold aI;omega) (show aI 1 by unfold aI;omega),tP,EO,tQ,ER,tR,ES,tO,EM]
 rw [show ((0:Int)==0)=true from rfl,Bool.not_true,ac,ac,ac,ac]
 rw [gV _ ret]
 unfold eT
 rw [bz]
 by_cases h0:(aF r i 1).2=0
 ·have hs:=fX h0
  rw [bM,decide_eq_true h0,Bool.not_true,ac,g0 h0,bA,Py hi hs t ht.ok ht.rows _ (ht.fd hk) (by omega) (by omega)]
  refine Eq.trans (oi (α:=Option S) (β:=Unit) _ (fun e he=>ja gg gg t he) (fun x=>cR k x 0 i fun r6=>ret (r6.1,r6.2)) fun e=>ret (aG,e)) ?_
  have htw:=SV (fo:=aB i (aF r i 1).1 false) (fa:=aB i (aF r i 1).1 true) (G:=pw i) (fun d f g hf h=>rZ hf h) (fun d f hf=>JT hf) t 0 ht.rows
  show _=eE (aw (ce (aB i (aF r i 1).1 false) (pw i)) (ce (aB i (aF r i 1).1 true) (pw i)) 0 t) _ _
  rw [←htw,bz]
  refine co (fun x hx=> ?_) fun e _=>rfl
  have hw:=F8 (fun d f g hf h=>rZ hf h) (fun d f g hf h=>rZ hf h) (fun d=>Dv) t 0 x hx
  obtain ⟨w1,w2,w3,w4⟩:=hw
  obtain ⟨hox,hrx⟩:=w4 ht.ok ht.rows
  rw [J7 hi x hox hrx _ (hk.fd (by omega)) (by omega) (by omega)]
  exact gV _ ret
 ·rw [bM,decide_eq_false h0,Bool.not_false,ag,j7 h0];rfl
end Go.Proofs.YtapmagaejigpnaaGreatDoor
namespace Go.Proofs.YtapmagaejigpnaaGreatDoor
open Go PI
set_option linter.unusedVariables false
set_option linter.unusedSimpArgs false
set_option maxRecDepth 20000
variable {S:Type} {k:Nat}
def In (k:Nat) (t:Tm):Prop:=OkT t∧Fd k (ay t)∧aQ t<1073741824
theorem In.dep {t:Tm} (h:In k t):ay t<1099511627776:=by have:=yV t;have:=h.2.2;omega
def fA:List Tm→Int
 |[]=>0
 |t::l=>if cz t=0 then fA l else cz t
theorem Ep {l:List Tm} (hl: ∀t∈l,OkT t) (h:fA l=0): ∀t∈l,Fm t:=by
 induction l with
 |nil=>intro t h;cases h
 |cons x l ih=>
  intro t ht
  unfold fA at h
  split at h
  ·next h0=>
   rcases List.mem_cons.1 ht with rfl|ht
   ·exact ⟨hl _ (by simp),h0⟩
   ·exact ih (fun t ht=>hl t (by simp [ht])) h t ht
  ·next h0=>exact absurd h h0
theorem j4 (c e:Int) (ret:Int→Option S):eX k e c ret=ret (if c=0 then e else c):=by
 simp only [eX,EB,bM,bU]
 split<;>rfl
theorem M1 (hk:Fu k) (ret:Int→Option S) {l:List Tm} (hl: ∀t∈l,In k t) (hlen:l.length<1000):
  ∀ (r p:List Tm) (m:Nat) (b:Int),l=p++r→r.length<m→kH k ret l m b (p.length:Int)=ret (if b=0 then fA r else b):=by
 intro r
 induction r with
 |nil=>
  intro p m b h hm
  obtain ⟨m,rfl,hm'⟩:=ap hm
  simp only [kH,oE,aL h,ac,fA]
  split
  ·next h=>rw [h]
  ·rfl
 |cons x r ih=>
  intro p m b h hm
  obtain ⟨m,rfl,hm'⟩:=ap hm
  obtain ⟨e1,e2,e3,e4⟩:=aK h (by omega)
  have hx:=hl x (by rw [h];simp)
  simp only [kH,oE,e1,ag,e2,Option.bind_some,am hk,a8,nX hx.1 hx.2.1 hx.dep,j4,e3,ih (p++[x]) m _ e4 hm',fA]
  congr 1
  have:=LI x
  by_cases hb:b=0
  ·rw [if_pos hb,if_pos hb]
  ·rw [if_neg hb,if_neg hb,if_neg hb]
theorem QG (hk:F3 k) {l:List Tm} (hl: ∀t∈l,In k t) (hlen:l.length<1000) (ret:Int→Option S):mF k l ret=ret (fA l):=by
 simp only [mF,wP]
 have:=M1 hk.fu ret hl hlen l [] k 0 rfl (by have:4294968296≤k:=hk;omega)
 exact this
def fH (r:List Cl) (line:Tm):Except Int Tm:=bE (bh 0 2 0 1 line) (eT 0 r)
theorem ym {r:List Cl} {t:Tm} {e:Int} (h:fH r t= .error e):0<e∧e≤1000:=by
 rcases bm h with h|⟨s,_,h⟩
 ·exact qX t h
 ·exact Sc h
theorem zF {i:Int} {r:List Cl} {fa:Bool} {d:Int} {f g:List Cl} (hf:RF f) (h:aY i r fa d f= .ok g):RF g:=by
 rw [jB] at h
 obtain ⟨m,h1,h⟩:=av h
 injection h with h;subst h
 exact yM (rZ hf h1).len
theorem zE {i:Int} {r:List Cl} {fa:Bool} (d:Int):aY i r fa d []= .ok []:=by
 rw [jB,Dv,ao];rfl
theorem Sd {i:Int} {r:List Cl} {t y:Tm} (h:eT i r t= .ok y):Wk t y:=by
 obtain ⟨s,_,h⟩:=av h
 exact F8 (fun d f g hf h=>zF hf h) (fun d f g hf h=>zF hf h) zE t 0 y h
theorem Jm {r:List Cl} {t y:Tm} (ht:Fm t) (h:fH r t= .ok y):OkT y∧RowsT y∧ay y≤200∧aQ y≤20000:=by
 obtain ⟨s,h1,h⟩:=av h
 have hs:=nj (by omega) ht h1
 obtain ⟨w1,w2,w3,w4⟩:=Sd h
 have h4:=w4 hs.ok hs.rows
 have:=hs.dep;have:=hs.siz
 exact ⟨h4.1,h4.2,by omega,by omega⟩
section
variable {c:Int}
theorem Rc (hc:c≠0) (hk:F3 k) (f:List Cl) (ret:List Cl×Int→Option S):gA k f c ret=ret ([],c):=by
 simp only [gA,wT,am hk.fu,cG,fC,bM,decide_eq_false hc,Bool.not_false,ag]
theorem D5 (hc:c≠0) (hk:F3 k) (f g:List Cl) (ret:List Cl×Int→Option S):hU k f g c ret=ret ([],c):=by
 simp only [hU,wS,am hk.fu,cG,fC,bM,decide_eq_false hc,Bool.not_false,ag]
theorem wD (hc:c≠0) (hk:F3 k) (l:Tm) (r:List Cl) (ret:Tm×Int→Option S):gz k l r c ret=ret (aG,c):=by
 simp only [gz,wQ,am hk.fu,cG,fC,bM,decide_eq_false hc,Bool.not_false,ag];rfl
theorem sg (hc:c≠0) (hk:F3 k) (l:Tm) (a b:Int) (ret:Tm×Int→Option S):dN k l a b c ret=ret (aG,c):=by
 simp only [dN,wU,am hk.fu,cG,fC,bM,decide_eq_false hc,Bool.not_false,ag];rfl
theorem n1 (hc:c≠0) (hk:F3 k) (l:Tm) (ret:Tm×Int×Int→Option S):eK k l c ret=ret (aG,c,c):=by
 simp only [eK,wR,am hk.fu,cG,fC,bM,decide_eq_false hc,Bool.not_false,ag,ac];rfl
end
theorem Ra (hk:F3 k) {f:List Cl} (hf:ai f) (hl:f.length<1073741824) (ret:List Cl×Int→Option S):gA k f 0 ret=ret (aF f 0 1):=by
 simp only [gA,wT,am hk.fu,cG,fC,n4 hk.fu hf hl (show aI 0 by unfold aI;omega) (show aI 1 by unfold aI;omega),j4,if_true]
 rfl
theorem Q6 (hk:F3 k) {f g:List Cl} (hf:ai f) (hg:ai g) (h1:f.length<1073741824) (h2:g.length<1073741824) (ret:List Cl×Int→Option S):hU k f g 0 ret=ret (dE f g):=by
 simp only [hU,wS,am hk.fu,cG,fC,QP hk.fu hf hg h1 h2,j4,if_true]
 rfl
theorem Rg (hk:F3 k) {t:Tm} (ht:Fm t) {a b:Int} (ha:0≤a∧a≤1000000) (hb:0≤b∧b<9223372036854775808) (ret:Tm×Int→Option S):dN k t a b 0 ret=ret (tE (fE a b t)):=by
 simp only [dN,wU,am hk.fu,cG,fC,a8,QZ hk ht ha hb,j4,if_true]
 rfl
theorem QF (hk:F3 k) {t:Tm} (ht:Fm t) {r:List Cl} (hr:RF r) (ret:Tm×Int→Option S):gz k t r 0 ret=ret (tE (fH r t)):=by
 simp only [gz,wQ,am hk.fu,cG,fC,a8,Q0 hk ht (show (0:Int)≤1∧(1:Int)≤24 by omega) (show (0:Int)≤2∧(2:Int)<9223372036854775808 by omega),j4,if_true]
 rw [show ((0:Int)==0)=true from rfl,Bool.not_true,ac,gV _ ret]
 unfold fH
 rw [bz]
 cases hx:bh 0 2 0 1 t with
 |error e=>
  have:=qX t hx
  show ab (!(e==0)) (ret (aG,e)) _=_
  rw [bM,decide_eq_false (by omega),Bool.not_false,ag];rfl
 |ok y=>
  have hy:=nj (by omega) ht hx
  show ab (!((0:Int)==0)) _ (hX k y 0 r fun r5=>ret (r5.1,if (0:Int)=0 then r5.2 else 0))=_
  rw [show ((0:Int)==0)=true from rfl,Bool.not_true,ac,sb hk hy (by omega) hr,bA]
  exact gV _ ret
theorem QM (hk:F3 k) {t:Tm} (ht:In k t) (ret:Tm×Int×Int→Option S):eK k t 0 ret=ret (if cz t=0 then (t,0,0) else (aG,cz t,cz t)):=by
 simp only [eK,wR,am hk.fu,cG,fC,a8,nX ht.1 ht.2.1 ht.dep,j4,if_true]
 rw [show ((0:Int)==0)=true from rfl,ag,bM]
 by_cases h0:cz t=0
 ·rw [decide_eq_true h0,if_pos h0,Bool.not_true,ac,h0]
 ·rw [decide_eq_false h0,if_neg h0,Bool.not_false,ag];rfl
def jm (line:Tm) (phi:List Cl) (a:Tm) (en:Cl) (r:List Cl):Except Int Tm:=
 bE (bP (aF phi 0 1)) fun f1=>bE (bP (dE f1 [en])) fun f=>bE (fH r line) fun l=>bE (fE 0 1 a) fun a'=> .ok (.mk 14 0 ByteArray.empty f [l,a'] [])
def qf (x:Except Int Tm):Except Int Tm:=bE x fun t=>if cz t=0 then .ok t else .error (cz t)
def fG (line:Tm) (phi:List Cl) (a:Tm) (en:Cl) (r:List Cl):Except Int Tm:=
 if fA [line,a]=0 then if bj phi then qf (jm line phi a en r) else .error 2 else .error (fA [line,a])
theorem Mf (f g:List Cl):EN (dE f g).2:=by
 unfold dE
 split
 ·exact qL _ _
 ·exact gG
theorem Aa {f g:List Cl} (hf:ai f) (hg:ai g) (h:(dE f g).2=0):RFa (dE f g).1:=by
 unfold dE at h ⊢
 split
 ·next hc=>
  rw [if_pos hc] at h
  rw [Bool.and_eq_true] at hc
  exact qM ((j0 hf).1 hc.1) ((j0 hg).1 hc.2) h
 ·next hc=>rw [if_neg hc] at h;exact absurd h (by decide)
theorem FP {z:List Cl×Int} (hz:EN z.2) {e:Int} (h:bP z= .error e):0<e∧e≤1000:=by
 obtain ⟨h1,rfl⟩:=ol h
 unfold EN at hz;omega
theorem Jf {line:Tm} {phi:List Cl} {a:Tm} {en:Cl} {r:List Cl} {e:Int} (h:jm line phi a en r= .error e):0<e∧e≤1000:=by
 rcases bm h with h|⟨_,_,h⟩
 ·exact FP (qW _ _ _) h
 rcases bm h with h|⟨_,_,h⟩
 ·exact FP (Mf _ _) h
 rcases bm h with h|⟨_,_,h⟩
 ·exact ym h
 rcases bm h with h|⟨_,_,h⟩
 ·exact FV h
 ·cases h
theorem tu (hk:F3 k) {line:Tm} {phi:List Cl} {a:Tm} {en:Cl} {r:List Cl} (hl:Fm line) (ha:Fm a) (hp:RF phi) (he:aO en) {t:Tm} (h:jm line phi a en r= .ok t):In k t∧t.kind=14:=by
 obtain ⟨f1,h1,h⟩:=av h
 obtain ⟨f,h2,h⟩:=av h
 obtain ⟨l,h3,h⟩:=av h
 obtain ⟨a',h4,h⟩:=av h
 injection h with h;subst h
 obtain ⟨g1,rfl⟩:=d4 h1
 obtain ⟨g2,rfl⟩:=d4 h2
 have hf1:=fX g1
 have hf:=(Aa hf1.2 (fun c hc=>by simp at hc;subst hc;exact he) g2).1
 obtain ⟨l1,l2,l3,l4⟩:=Jm hl h3
 have ha':=Sx (by omega) ha h4
 have:=hf.len;have:=ha'.dep;have:=ha'.siz
 refine ⟨⟨?_,hk.fd ?_, ?_⟩,rfl⟩
 ·rw [OkT,bt,bt,bt,bG]
  refine ⟨⟨by unfold aI;omega,by unfold aI;omega,by show 0<_;omega,hf.2,by omega,by simp,by simp⟩,⟨l1,ha'.ok,trivial⟩,trivial⟩
 ·rw [ay,bJ,bJ,bJ,bX];omega
 ·rw [aQ,aZ,aZ,aZ,a_];omega
theorem DS (hk:F3 k) {line a:Tm} {phi r:List Cl} {en:Cl} (hl:In k line) (ha:In k a) (hp:ai phi) (hpl:phi.length<1073741824) (he:aO en) (hr:RF r) (ret:Tm×Int→Option S):mE k line phi a en r ret=ret (tE (fG line phi a en r)):=by
 have hin: ∀t∈[line,a],In k t:=fun t ht=>by
  simp at ht
  rcases ht with rfl|rfl
  ·exact hl
  ·exact ha
 have hen:ai [en]:=fun c hc=>by simp at hc;subst hc;exact he
 have bad: ∀c:Int,c≠0→(gA k phi c fun r4=>hU k r4.1 [en] r4.2 fun r5=>gz k line r r5.2 fun r6=>dN k a 0 1 r6.2 fun r7=>
   bN k 14 [r6.1,r7.1] fun r8=>eK k (Tm.mk r8.1 r8.2.1 r8.2.2.1 r5.1 r8.2.2.2 []) r7.2 fun r9=>ret (r9.1,r9.2.1))=ret (aG,c):=by
  intro c hc
  simp only [Rc hc hk,D5 hc hk,wD hc hk,sg hc hk,bN,j6,n1 hc hk]
 simp only [mE,EA,am hk.fu,a8,QG hk hin (by simp),n5 hk.fu hp (show phi.length<2147483648 by omega),j4]
 unfold fG
 by_cases h0:fA [line,a]=0
 ·simp only [h0,if_true]
  have hfm:=Ep (fun t ht=>(hin t ht).1) h0
  have hl':=hfm line (by simp)
  have ha':=hfm a (by simp)
  cases hph:bj phi with
  |false=>
   rw [Bool.not_false,ag,if_neg (show ¬ (false=true) by decide)]
   exact bad 2 (by decide)
  |true=>
   have hrf:=(j0 hp).1 hph
   rw [Bool.not_true,ac,if_pos (show true=true from rfl),Ra hk hp hpl,gV _ ret]
   unfold qf
   rw [bz]
   have hal: ∀t,jm line phi a en r= .ok t→In k t:=fun t h=>(tu hk hl' ha' hrf.1 he h).1
   revert hal
   unfold jm
   intro hal
   by_cases h1:(aF phi 0 1).2=0
   ·have hf1:=fX h1
    have hlen1:=hf1.len
    rw [g0 h1,ao] at hal ⊢
    rw [h1,Q6 hk hf1.2 hen (by omega) (by simp)]
    by_cases h2:(dE (aF phi 0 1).1 [en]).2=0
    ·rw [g0 h2,ao] at hal ⊢
     rw [h2,QF hk hl' hr]
     cases h3:fH r line with
     |error e=>
      have hc:=(ym h3).1
      show dN k a 0 1 e _=ret (aG,e)
      simp only [sg (show e≠0 by omega) hk,bN,j6,n1 (show e≠0 by omega) hk]
     |ok l=>
      rw [h3,ao] at hal
      show dN k a 0 1 0 _=_
      rw [Rg hk ha' (by omega) (by omega),ao]
      cases h4:fE 0 1 a with
      |error e=>
       have hc:=(FV h4).1
       show bN k 14 _ _=ret (aG,e)
       simp only [bN,j6]
       show eK k _ e _=_
       simp only [n1 (show e≠0 by omega) hk]
      |ok a'=>
       rw [h4,ao] at hal
       show bN k 14 _ _=_
       simp only [bN,j6]
       show eK k (Tm.mk 14 0 ByteArray.empty (dE (aF phi 0 1).1 [en]).1 [l,a'] []) 0 _=_
       rw [QM hk (hal _ rfl),ao,bA]
       by_cases h5:cz (Tm.mk 14 0 ByteArray.empty (dE (aF phi 0 1).1 [en]).1 [l,a'] [])=0
       ·rw [if_pos h5,if_pos h5];rfl
       ·rw [if_neg h5,if_neg h5];rfl
    ·rw [j7 h2]
     show _=ret (aG,(dE (aF phi 0 1).1 [en]).2)
     simp only [wD h2 hk,sg h2 hk,bN,j6,n1 h2 hk]
   ·rw [j7 h1]
    show _=ret (aG,(aF phi 0 1).2)
    simp only [D5 h1 hk,wD h1 hk,sg h1 hk,bN,j6,n1 h1 hk]
 ·simp only [if_neg h0]
  cases bj phi with
  |false=>rw [Bool.not_false,ag];exact bad _ h0
  |true=>rw [Bool.not_true,ac];exact bad _ h0
end Go.Proofs.YtapmagaejigpnaaGreatDoor
namespace Go.Proofs.YtapmagaejigpnaaGreatDoor
open Go PI
set_option maxRecDepth 100000
theorem S0 {S:Type} (q:Nat) (ret:Bool→Option S):pZ (q+400) ret=ret true:=by kernel_rfl
end Go.Proofs.YtapmagaejigpnaaGreatDoor
namespace Go.Proofs.YtapmagaejigpnaaGreatDoor
open Go PI
set_option linter.unusedVariables false
set_option linter.unusedSimpArgs false
set_option maxRecDepth 20000
variable {S:Type} {k:Nat}
theorem Rh (hk:F3 k) (ret:Bool→Option S):pZ k ret=ret true:=by
 obtain ⟨q,rfl⟩: ∃q,k=q+400:=⟨k-400,by have:4294968296≤k:=hk;omega⟩
 exact S0 q ret
theorem Qf:RF [⟨3,0⟩]:=cD ⟨⟨by decide,by decide⟩,by decide,by decide⟩
theorem Qg:RF [⟨0,1⟩,⟨2,0⟩]:=by
 refine ⟨by rfl,fun c hc=> ?_⟩
 simp only [List.mem_cons,List.not_mem_nil,or_false] at hc
 rcases hc with rfl|rfl
 ·exact ⟨⟨by decide,by decide⟩,by decide,by decide⟩
 ·exact ⟨⟨by decide,by decide⟩,by decide,by decide⟩
theorem BE:aO ⟨0,1⟩:=⟨⟨by decide,by decide⟩,by decide,by decide⟩
theorem BF:aO ⟨1,0⟩:=⟨⟨by decide,by decide⟩,by decide,by decide⟩
theorem QD (hk:F3 k) {line a:Tm} {phi:List Cl} (hl:In k line) (ha:In k a) (hp:ai phi) (hpl:phi.length<1073741824) (ret:Tm×Int→Option S):mD k line phi a ret=ret (tE (fG line phi a ⟨0,1⟩ [⟨3,0⟩])):=by
 simp only [mD,Ez,am hk.fu,a8,DS hk hl ha hp hpl BE Qf]
theorem Qu (hk:F3 k) {line a:Tm} {phi:List Cl} (hl:In k line) (ha:In k a) (hp:ai phi) (hpl:phi.length<1073741824) (ret:Tm×Int→Option S):pz k line phi a ret=ret (tE (fG line phi a ⟨1,0⟩ [⟨0,1⟩,⟨2,0⟩])):=by
 simp only [pz,Ew,am hk.fu,a8,DS hk hl ha hp hpl BF Qg]
theorem OA:OkT aG:=by
 unfold aG
 rw [OkT,bt,bG]
 exact ⟨⟨by unfold aI;omega,by unfold aI;omega,by show 0<_;omega,fun c hc=>(by cases hc),by simp,by simp,by simp⟩,trivial,trivial⟩
theorem Oz (hk:F3 k):In k aG:=⟨OA,hk.fd (by unfold aG;rw [ay,bJ,bX];omega),by unfold aG;rw [aQ,aZ,a_];omega⟩
theorem QW (hk:F3 k) {a b:Tm} {sys:List (Br Tm)} (ha:In k a) (hb:In k b) (hs:In k (.mk 0 0 ByteArray.empty [] [] sys)) (ret:Bool→Option S): ∃c,pY k a b sys ret=ret c:=by
 simp only [pY,Fg,a8]
 obtain ⟨w,hw⟩:=wI a ha.1 150 (fun r1=>ab (decide (r1>150)) (ret true) (de k b 150 fun r2=>ab (decide (r2>150)) (ret true) (de k (.mk 0 0 ByteArray.empty [] [] sys) 150 fun r3=>ret (decide (r3>150))))) ha.2.1
 rw [hw]
 cases decide (w>150) with
 |true=>exact ⟨true,rfl⟩
 |false=>
  rw [ac]
  obtain ⟨w',hw'⟩:=wI b hb.1 150 (fun r2=>ab (decide (r2>150)) (ret true) (de k (.mk 0 0 ByteArray.empty [] [] sys) 150 fun r3=>ret (decide (r3>150)))) hb.2.1
  rw [hw']
  cases decide (w'>150) with
  |true=>exact ⟨true,rfl⟩
  |false=>
   rw [ac]
   obtain ⟨w'',hw''⟩:=wI _ hs.1 150 (fun r3=>ret (decide (r3>150))) hs.2.1
   exact ⟨_,hw''⟩
end Go.Proofs.YtapmagaejigpnaaGreatDoor
namespace Go.Proofs.YtapmagaejigpnaaGreatDoor
open Go PI
set_option linter.unusedVariables false
set_option linter.unusedSimpArgs false
set_option maxRecDepth 20000
abbrev En:=Nat→Prop
def hp (c:Cl) (j:Nat):Prop:=c.pos.toNat.testBit j=true
def hn (c:Cl) (j:Nat):Prop:=c.neg.toNat.testBit j=true
def a7 (c:Cl) (P N:En):Prop:=(∀j,hp c j→P j)∧ ∀j,hn c j→N j
def ak (f:List Cl) (P N:En):Prop:= ∃c∈f,a7 c P N
theorem JL {c:Cl} {P N P' N':En} (h:a7 c P N) (hP: ∀j,P j→P' j) (hN: ∀j,N j→N' j):a7 c P' N':=⟨fun j hj=>hP j (h.1 j hj),fun j hj=>hN j (h.2 j hj)⟩
theorem Ee {f:List Cl} {P N P' N':En} (h:ak f P N) (hP: ∀j,P j→P' j) (hN: ∀j,N j→N' j):ak f P' N':=by
 obtain ⟨c,hc,hs⟩:=h
 exact ⟨c,hc,JL hs hP hN⟩
theorem BJ {x y:Int} (hx:0≤x):dj x y=x↔ ∀j,y.toNat.testBit j=true→x.toNat.testBit j=true:=by
 unfold dj
 constructor
 ·intro h j hj
  have:(x.toNat|||y.toNat)=x.toNat:=by omega
  rw [←this,Nat.testBit_or,hj,Bool.or_true]
 ·intro h
  have:(x.toNat|||y.toNat)=x.toNat:=by
   apply Nat.eq_of_testBit_eq
   intro j
   rw [Nat.testBit_or]
   cases hy:y.toNat.testBit j with
   |false=>rw [Bool.or_false]
   |true=>rw [h j hy];rfl
  rw [this];omega
theorem mw {a b:Cl} (ha:aO a):bn a b=true↔a7 b (hp a) (hn a):=by
 unfold bn ck a7 hp hn
 rw [decide_eq_true_eq,←BJ ha.1.1,←BJ ha.2.1]
 cases a
 constructor
 ·intro h;injection h with h1 h2;exact ⟨h1,h2⟩
 ·rintro ⟨h1,h2⟩;simp only at h1 h2 ⊢;rw [h1,h2]
theorem z6 {x y:Int} (hx:0≤x) (hy:0≤y) (h: ∀j,x.toNat.testBit j=true↔y.toNat.testBit j=true):x=y:=by
 have:x.toNat=y.toNat:=by
  apply Nat.eq_of_testBit_eq
  intro j
  rw [Bool.eq_iff_iff]
  exact h j
 omega
theorem yC {a b:Cl} (ha:aO a) (hb:aO b) (h1:a7 b (hp a) (hn a)) (h2:a7 a (hp b) (hn b)):a=b:=
 Cl.ext' (z6 ha.1.1 hb.1.1 fun j=>⟨h2.1 j,h1.1 j⟩) (z6 ha.2.1 hb.2.1 fun j=>⟨h2.2 j,h1.2 j⟩)
theorem hJ (c:Cl):a7 c (hp c) (hn c):=⟨fun _ h=>h,fun _ h=>h⟩
theorem pr {a b:Cl} {P N:En} (h:a7 b (hp a) (hn a)) (h':a7 a P N):a7 b P N:=⟨fun j hj=>h'.1 j (h.1 j hj),fun j hj=>h'.2 j (h.2 j hj)⟩
theorem Oq: ∀ (n:Nat) {l:List Cl} {c:Cl},(l.filter fun d=>bn c d&& !decide (d=c)).length≤n→ai l→c∈l→ ∃d∈cB l,a7 d (hp c) (hn c):=by
 intro n
 induction n with
 |zero=>
  intro l c h hl hc
  refine ⟨c,mem_mins.2 ⟨hc, ?_⟩,hJ c⟩
  unfold bo
  rw [List.all_eq_true]
  intro d hd
  have hnil:=List.length_eq_zero_iff.1 (Nat.le_zero.1 h)
  by_cases hdc:d=c
  ·rw [decide_eq_true hdc];rfl
  ·cases hb:bn c d with
   |false=>rw [decide_eq_false hdc];rfl
   |true=>
    have:d∈l.filter fun d=>bn c d&& !decide (d=c):=List.mem_filter.2 ⟨hd,by rw [hb,decide_eq_false hdc];rfl⟩
    rw [hnil] at this;cases this
 |succ n ih=>
  intro l c h hl hc
  by_cases hnd:bo l c=true
  ·exact ⟨c,mem_mins.2 ⟨hc,hnd⟩,hJ c⟩
  ·have: ∃d∈l,d≠c∧bn c d=true:=by
    unfold bo at hnd
    rw [List.all_eq_true] at hnd
    apply Classical.byContradiction
    intro hno
    apply hnd
    intro d hd
    by_cases hdc:d=c
    ·rw [decide_eq_true hdc];rfl
    ·cases hb:bn c d with
     |false=>rw [decide_eq_false hdc];rfl
     |true=>exact absurd ⟨d,hd,hdc,hb⟩ hno
   obtain ⟨d,hd,hdc,hb⟩:=this
   have hbd:=(mw (hl c hc)).1 hb
   have hlt:(l.filter fun e=>bn d e&& !decide (e=d)).length<(l.filter fun e=>bn c e&& !decide (e=c)).length:=by
    have hsub: ∀e∈l,(bn d e&& !decide (e=d))=true→(bn c e&& !decide (e=c))=true:=by
     intro e he h1
     rw [Bool.and_eq_true] at h1 ⊢
     have h2:=(mw (hl d hd)).1 h1.1
     refine ⟨(mw (hl c hc)).2 (pr h2 hbd), ?_⟩
     rw [Bool.not_eq_true',decide_eq_false_iff_not]
     rintro rfl
     have:=yC (hl e he) (hl d hd) hbd h2
     exact hdc this.symm
    have hmem:d∈l.filter fun e=>bn c e&& !decide (e=c):=List.mem_filter.2 ⟨hd,by rw [hb,decide_eq_false hdc];rfl⟩
    have e1:(l.filter fun e=>bn d e&& !decide (e=d))=(l.filter fun e=>bn c e&& !decide (e=c)).filter fun e=>bn d e&& !decide (e=d):=by
     rw [List.filter_filter]
     apply List.filter_congr
     intro e he
     rw [Bool.eq_iff_iff]
     refine ⟨fun h=>by rw [h,hsub e he h];rfl,fun h=> ?_⟩
     generalize (bn d e&& !decide (e=d))=u at h
     cases u with
     |true=>rfl
     |false=>exact absurd h (by simp)
    rw [e1]
    apply List.length_filter_lt_length_iff_exists.2
    exact ⟨d,hmem,by simp⟩
   obtain ⟨e,he,hs⟩:=ih (Nat.le_of_lt_succ (Nat.lt_of_lt_of_le hlt h)) hl hd
   exact ⟨e,he,pr hs hbd⟩
theorem Ru {l:List Cl} (hl:ai l) (P N:En):ak (cB l) P N↔ak l P N:=by
 constructor
 ·rintro ⟨c,hc,hs⟩;exact ⟨c,(mem_mins.1 hc).1,hs⟩
 ·rintro ⟨c,hc,hs⟩
  obtain ⟨d,hd,hb⟩:=Oq _ (Nat.le_refl _) hl hc
  exact ⟨d,hd,pr hb hs⟩
theorem lM {l:List Cl} (hl:ai l) (h:(aW l).2=0) (P N:En):ak (aW l).1 P N↔ak l P N:=by
 have:=gR (l:=l) (o:=(aW l).1) (Prod.ext rfl h)
 rw [this.1]
 exact Ru hl P N
theorem RF.mins {f:List Cl} (h:RF f):cB f=f:=(gR h.1).1.symm
theorem Eb {f g:List Cl} (hf:RF f) (hg:RF g) (h1: ∀c∈f,ak g (hp c) (hn c)) (h2: ∀c∈g,ak f (hp c) (hn c)):f=g:=by
 have key: ∀ {f g:List Cl},RF f→RF g→(∀c∈f,ak g (hp c) (hn c))→(∀c∈g,ak f (hp c) (hn c))→ ∀c∈f,c∈g:=by
  intro f g hf hg h1 h2 c hc
  obtain ⟨d,hd,hs⟩:=h1 c hc
  obtain ⟨e,he,hs'⟩:=h2 d hd
  have hec:a7 e (hp c) (hn c):=pr hs' hs
  have hmin:bo f c=true:=(mem_mins.1 (by rw [hf.mins];exact hc)).2
  unfold bo at hmin
  have:=List.all_eq_true.1 hmin e he
  rw [(mw (hf.2 c hc)).2 hec,Bool.not_true,Bool.or_false,decide_eq_true_eq] at this
  subst this
  have hdc:=yC (hf.2 e hc) (hg.2 d hd) hs hs'
  subst hdc
  exact hd
 have s1:fF f:=by rw [←hf.mins];exact lk _
 have s2:fF g:=by rw [←hg.mins];exact lk _
 exact su s1 s2 fun c=>⟨key hf hg h1 h2 c,key hg hf h2 h1 c⟩
theorem Rp {f g:List Cl} (hf:RF f) (hg:RF g) (h: ∀P N,ak f P N↔ak g P N):f=g:=
 Eb hf hg (fun c hc=>(h _ _).1 ⟨c,hc,hJ c⟩) fun c hc=>(h _ _).2 ⟨c,hc,hJ c⟩
def dy (P N:En):Prop:= ∀j,¬ (P j∧N j)
theorem tI {c:Cl} (h:bv c=false):dy (hp c) (hn c):=fun j hj=>calm_bits.1 h j hj
theorem Rq {f g:List Cl} (hf:RFa f) (hg:RFa g) (h: ∀P N,dy P N→(ak f P N↔ak g P N)):f=g:=
 Eb hf.1 hg.1 (fun c hc=>(h _ _ (tI (hf.2 c hc))).1 ⟨c,hc,hJ c⟩) fun c hc=>(h _ _ (tI (hg.2 c hc))).2 ⟨c,hc,hJ c⟩
theorem Rj (f g:List Cl) (P N:En):ak (f++g) P N↔ak f P N∨ak g P N:=by
 unfold ak
 constructor
 ·rintro ⟨c,hc,hs⟩
  rcases List.mem_append.1 hc with hc|hc
  ·exact .inl ⟨c,hc,hs⟩
  ·exact .inr ⟨c,hc,hs⟩
 ·rintro (⟨c,hc,hs⟩|⟨c,hc,hs⟩)
  ·exact ⟨c,List.mem_append_left _ hc,hs⟩
  ·exact ⟨c,List.mem_append_right _ hc,hs⟩
theorem lN (P N:En): ¬ak [] P N:=by rintro ⟨c,hc,_⟩;cases hc
theorem i8 (c:Cl) (P N:En):ak [c] P N↔a7 c P N:=by
 constructor
 ·rintro ⟨d,hd,hs⟩;simp at hd;subst hd;exact hs
 ·intro h;exact ⟨c,by simp,h⟩
theorem LX (a b:Cl) (j:Nat):hp (ck a b) j↔hp a j∨hp b j:=by
 unfold hp ck dj
 simp [Nat.testBit_or]
theorem LU (a b:Cl) (j:Nat):hn (ck a b) j↔hn a j∨hn b j:=by
 unfold hn ck dj
 simp [Nat.testBit_or]
theorem yH (a b:Cl) (P N:En):a7 (ck a b) P N↔a7 a P N∧a7 b P N:=by
 unfold a7
 simp only [LX,LU]
 constructor
 ·rintro ⟨h1,h2⟩;exact ⟨⟨fun j h=>h1 j (.inl h),fun j h=>h2 j (.inl h)⟩,fun j h=>h1 j (.inr h),fun j h=>h2 j (.inr h)⟩
 ·rintro ⟨⟨h1,h2⟩,h3,h4⟩;exact ⟨fun j h=>h.elim (h1 j) (h3 j),fun j h=>h.elim (h2 j) (h4 j)⟩
theorem Ed (f g:List Cl) (P N:En):ak (meets f g) P N↔ak f P N∧ak g P N:=by
 unfold ak meets
 constructor
 ·rintro ⟨c,hc,hs⟩
  obtain ⟨a,ha,hc⟩:=List.mem_flatMap.1 hc
  obtain ⟨b,hb,rfl⟩:=List.mem_map.1 hc
  have:=(yH a b P N).1 hs
  exact ⟨⟨a,ha,this.1⟩,⟨b,hb,this.2⟩⟩
 ·rintro ⟨⟨a,ha,h1⟩,b,hb,h2⟩
  exact ⟨ck a b,List.mem_flatMap.2 ⟨a,ha,List.mem_map.2 ⟨b,hb,rfl⟩⟩,(yH a b P N).2 ⟨h1,h2⟩⟩
theorem sk {f g:List Cl} (hf:ai f) (hg:ai g) (h:(cA f g).2=0) (P N:En):ak (cA f g).1 P N↔ak f P N∨ak g P N:=
 (lM (fw hf hg) h P N).trans (Rj f g P N)
theorem wK {f g:List Cl} (hf:ai f) (hg:ai g) (h:(cV f g).2=0) (P N:En):ak (cV f g).1 P N↔ak f P N∧ak g P N:=
 (lM (rd hf hg) h P N).trans (Ed f g P N)
theorem Rk {l:List Cl} {P N:En} (hc:dy P N):ak (cm l) P N↔ak l P N:=by
 constructor
 ·rintro ⟨c,h,hs⟩;exact ⟨c,(mA h).1,hs⟩
 ·rintro ⟨c,h,hs⟩
  refine ⟨c,List.mem_filter.2 ⟨h, ?_⟩,hs⟩
  unfold jq
  have:bv c=false:=calm_bits.2 fun j hj=>hc j ⟨hs.1 j hj.1,hs.2 j hj.2⟩
  rw [this];rfl
theorem wJ {l:List Cl} (hl:ai l) (h:(eo l).2=0) {P N:En} (hc:dy P N):ak (eo l).1 P N↔ak l P N:=
 (lM (tH hl) h P N).trans (Rk hc)
end Go.Proofs.YtapmagaejigpnaaGreatDoor
namespace Go.Proofs.YtapmagaejigpnaaGreatDoor
open Go PI
set_option linter.unusedVariables false
set_option linter.unusedSimpArgs false
set_option maxRecDepth 20000
theorem wi {c:Cl} (h:RC c) {j:Nat} (hj:hp c j):j<24:=g9 (by have:=h.1;omega) hj
theorem wh {c:Cl} (h:RC c) {j:Nat} (hj:hn c j):j<24:=g9 (by have:=h.2;omega) hj
theorem qI {s:Int} {n:Nat} (hn:n<24):bY s (n:Int)=s.toNat.testBit n:=by
 unfold bY
 rw [decide_eq_true (show (0:Int)≤(n:Int)∧(n:Int)<24 by omega),Bool.true_and,Int.toNat_natCast]
theorem Ge {s:Int} {n:Nat} (hn:n<24) (j:Nat):(dl s (n:Int)).toNat.testBit j=(s.toNat.testBit j&&decide (j<24)&& !decide (j=n)):=by
 unfold dl
 rw [if_pos (by omega),Int.toNat_natCast,Int.toNat_natCast,lm,Nat.testBit_and,g8,Nat.testBit_two_pow]
 congr 2
 rw [Bool.eq_iff_iff,decide_eq_true_eq,decide_eq_true_eq]
 exact eq_comm
def ba (P:En) (n:Nat) (A:Prop):En:=fun j=>(j≠n∧P j)∨(j=n∧A)
theorem yE {c:Cl} (hc:RC c) {n:Nat} (hn24:n<24) (P N:En) (A B:Prop):a7 c (ba P n A) (ba N n B)↔a7 (bK n c) P N∧(hp c n→A)∧(hn c n→B):=by
 have g1: ∀j,hp (bK n c) j↔hp c j∧j≠n:=fun j=>by
  unfold hp bK
  rw [Ge hn24]
  constructor
  ·intro h
   rw [Bool.and_eq_true,Bool.and_eq_true,Bool.not_eq_true',decide_eq_false_iff_not] at h
   exact ⟨h.1.1,h.2⟩
  ·rintro ⟨h1,h2⟩
   rw [h1,decide_eq_true (wi hc h1),decide_eq_false h2];rfl
 have g2: ∀j,hn (bK n c) j↔hn c j∧j≠n:=fun j=>by
  unfold hn bK
  rw [Ge hn24]
  constructor
  ·intro h
   rw [Bool.and_eq_true,Bool.and_eq_true,Bool.not_eq_true',decide_eq_false_iff_not] at h
   exact ⟨h.1.1,h.2⟩
  ·rintro ⟨h1,h2⟩
   rw [h1,decide_eq_true (wh hc h1),decide_eq_false h2];rfl
 unfold a7 ba
 constructor
 ·rintro ⟨h1,h2⟩
  refine ⟨⟨fun j hj=> ?_,fun j hj=> ?_⟩,fun h=> ?_,fun h=> ?_⟩
  ·obtain ⟨a,b⟩:=(g1 j).1 hj
   rcases h1 j a with h|h
   ·exact h.2
   ·exact absurd h.1 b
  ·obtain ⟨a,b⟩:=(g2 j).1 hj
   rcases h2 j a with h|h
   ·exact h.2
   ·exact absurd h.1 b
  ·rcases h1 n h with h|h
   ·exact absurd rfl h.1
   ·exact h.2
  ·rcases h2 n h with h|h
   ·exact absurd rfl h.1
   ·exact h.2
 ·rintro ⟨⟨h1,h2⟩,h3,h4⟩
  refine ⟨fun j hj=> ?_,fun j hj=> ?_⟩
  ·by_cases he:j=n
   ·subst he;exact .inr ⟨rfl,h3 hj⟩
   ·exact .inl ⟨he,h1 j ((g1 j).2 ⟨hj,he⟩)⟩
  ·by_cases he:j=n
   ·subst he;exact .inr ⟨rfl,h4 hj⟩
   ·exact .inl ⟨he,h2 j ((g2 j).2 ⟨hj,he⟩)⟩
theorem RA {n:Nat} (hn24:n<24) {r h:List Cl} {c:Cl} (hr:RF r) (hh:RF h) (hc:RC c) (h0:(c7 n r h c).2=0) (P N:En):
  ak (c7 n r h c).1 P N↔ak h P N∨a7 c (ba P n (ak r P N)) (ba N n (ak (aU r).1 P N)):=by
 have og:ai [bK n c]:=fun d hd=>by simp at hd;subst hd;exact (dU _ _).ok
 rw [yE hc hn24]
 unfold c7 at h0 ⊢
 split at h0
 case isFalse ha=>exact absurd h0 ha
 rename_i ha
 rw [if_pos ha]
 split at h0
 case isFalse hb=>exact absurd h0 hb
 rename_i hb
 rw [if_pos hb]
 have ra:=vE hr ha
 have rb:=vF ra hb
 rw [sk hh.2 rb.2 h0]
 refine or_congr Iff.rfl ?_
 have sa:ak (c8 n r c).1 P N↔a7 (bK n c) P N∧(hp c n→ak r P N):=by
  unfold c8 at ha ⊢
  rw [qI hn24] at ha ⊢
  by_cases hpn:hp c n
  ·have hpn':c.pos.toNat.testBit n=true:=hpn
   rw [if_pos hpn'] at ha ⊢
   rw [wK og hr.2 ha,i8]
   exact and_congr Iff.rfl ⟨fun h _=>h,fun h=>h hpn⟩
  ·have hpn': ¬c.pos.toNat.testBit n=true:=hpn
   rw [if_neg hpn',i8]
   exact ⟨fun h=>⟨h,fun h'=>absurd h' hpn⟩,fun h=>h.1⟩
 unfold eA at hb ⊢
 rw [qI hn24] at hb ⊢
 by_cases hnn:hn c n
 ·have hnn':c.neg.toNat.testBit n=true:=hnn
  rw [if_pos hnn'] at hb ⊢
  split at hb
  case isFalse hz=>exact absurd hb hz
  rename_i hz
  rw [if_pos hz,wK ra.2 (f0 hz).2 hb,sa]
  constructor
  ·rintro ⟨⟨h1,h2⟩,h3⟩;exact ⟨h1,h2,fun _=>h3⟩
  ·rintro ⟨h1,h2,h3⟩;exact ⟨⟨h1,h2⟩,h3 hnn⟩
 ·have hnn': ¬c.neg.toNat.testBit n=true:=hnn
  rw [if_neg hnn',sa]
  constructor
  ·rintro ⟨h1,h2⟩;exact ⟨h1,h2,fun h=>absurd h hnn⟩
  ·rintro ⟨h1,h2,h3⟩;exact ⟨h1,h2⟩
theorem Rt {n:Nat} (hn24:n<24) {r:List Cl} (hr:RF r) (P N:En): ∀ {l h:List Cl},(∀c∈l,RC c)→RF h→(aH (c7 n r) h l).2=0→
  (ak (aH (c7 n r) h l).1 P N↔ak h P N∨ak l (ba P n (ak r P N)) (ba N n (ak (aU r).1 P N))):=by
 intro l
 induction l with
 |nil=>
  intro h _ _ _
  exact ⟨.inl,fun h=>h.elim id fun h=>absurd h (lN _ _)⟩
 |cons c l ih=>
  intro h hl hh h0
  unfold aH at h0 ⊢
  split at h0
  case isFalse h1=>exact absurd h0 h1
  rename_i h1
  rw [if_pos h1,ih (fun d hd=>hl d (by simp [hd])) (rA hr h c hh h1) h0,RA hn24 hr hh (hl c (by simp)) h1]
  unfold ak
  constructor
  ·rintro ((h|h)|⟨d,hd,hs⟩)
   ·exact .inl h
   ·exact .inr ⟨c,by simp,h⟩
   ·exact .inr ⟨d,by simp [hd],hs⟩
  ·rintro (h|⟨d,hd,hs⟩)
   ·exact .inl (.inl h)
   ·rcases List.mem_cons.1 hd with rfl|hd
    ·exact .inl (.inr hs)
    ·exact .inr ⟨d,hd,hs⟩
theorem Rz {n:Nat} (hn24:n<24) {f r:List Cl} (hf:RF f) (hr:RF r) (h:(du f n r).2=0) (P N:En):
  ak (du f n r).1 P N↔ak f (ba P n (ak r P N)) (ba N n (ak (aU r).1 P N)):=by
 unfold du at h ⊢
 rw [hf.right,hr.right,show gE (n:Int)=true from decide_eq_true (by omega)] at h ⊢
 simp only [Bool.and_self,if_true] at h ⊢
 rw [Rt hn24 hr P N (fun c hc=>hf.rc hc) gc h]
 exact ⟨fun h=>h.elim (fun h=>absurd h (lN _ _)) id,.inr⟩
theorem LY (n:Nat) (hn24:n<24) (j:Nat): ¬hp (nl n) j:=by
 unfold hp nl;simp
theorem zV (n:Nat) (hn24:n<24) (j:Nat):hn (nl n) j↔j=n:=by
 unfold hn nl
 show (dH 0 (n:Int)).toNat.testBit j=true↔_
 rw [F_ 0 n hn24 j]
 simp
theorem zW (n:Nat) (hn24:n<24) (j:Nat):hp (pl n) j↔j=n:=by
 unfold hp pl
 show (dH 0 (n:Int)).toNat.testBit j=true↔_
 rw [F_ 0 n hn24 j]
 simp
theorem LV (n:Nat) (hn24:n<24) (j:Nat): ¬hn (pl n) j:=by
 unfold hn pl;simp
theorem Ry {c:Cl} (hc:RC c) (P N:En):ak (iQ c).1 P N↔ ∃j,(hp c j∧N j)∨(hn c j∧P j):=by
 unfold iQ
 rw [lM (fun d hd=>(vz hd).ok) (vA c)]
 have hl: ∀ {s:Int} {x:Int},x∈eN s↔ ∃n:Nat,n<24∧s.toNat.testBit n=true∧x=n:=by
  intro s x
  unfold eN ints
  rw [List.mem_map]
  constructor
  ·rintro ⟨n,hn,rfl⟩
   have:=mem_bitsN.1 hn
   exact ⟨n,this.1,this.2,rfl⟩
  ·rintro ⟨n,h1,h2,rfl⟩
   exact ⟨n,mem_bitsN.2 ⟨h1,h2⟩,rfl⟩
 unfold ln ak
 constructor
 ·rintro ⟨d,hd,hs⟩
  rcases List.mem_append.1 hd with hd|hd
  ·obtain ⟨x,hx,rfl⟩:=List.mem_map.1 hd
   obtain ⟨n,h1,h2,rfl⟩:=hl.1 hx
   exact ⟨n,.inl ⟨h2,hs.2 n ((zV n h1 n).2 rfl)⟩⟩
  ·obtain ⟨x,hx,rfl⟩:=List.mem_map.1 hd
   obtain ⟨n,h1,h2,rfl⟩:=hl.1 hx
   exact ⟨n,.inr ⟨h2,hs.1 n ((zW n h1 n).2 rfl)⟩⟩
 ·rintro ⟨j,⟨h1,h2⟩|⟨h1,h2⟩⟩
  ·have h24:=wi hc h1
   exact ⟨nl j,List.mem_append_left _ (List.mem_map.2 ⟨j,hl.2 ⟨j,h24,h1,rfl⟩,rfl⟩),fun x hx=>absurd hx (LY j h24 x),fun x hx=>by rw [(zV j h24 x).1 hx];exact h2⟩
  ·have h24:=wh hc h1
   exact ⟨pl j,List.mem_append_right _ (List.mem_map.2 ⟨j,hl.2 ⟨j,h24,h1,rfl⟩,rfl⟩),fun x hx=>by rw [(zW j h24 x).1 hx];exact h2,fun x hx=>absurd hx (LV j h24 x)⟩
theorem Rs (P N:En): ∀ {l h:List Cl},(∀c∈l,RC c)→RF h→(aH fZ h l).2=0→(ak (aH fZ h l).1 P N↔ak h P N∧ ∀c∈l,∃j,(hp c j∧N j)∨(hn c j∧P j)):=by
 intro l
 induction l with
 |nil=>intro h _ _ _;exact ⟨fun h=>⟨h,fun c hc=>by cases hc⟩,fun h=>h.1⟩
 |cons c l ih=>
  intro h hl hh h0
  unfold aH at h0 ⊢
  split at h0
  case isFalse h1=>exact absurd h0 h1
  rename_i h1
  rw [if_pos h1,ih (fun d hd=>hl d (by simp [hd])) (vr h c hh h1) h0]
  unfold fZ at h1 ⊢
  rw [wK hh.2 (nH c).2 h1,Ry (hl c (by simp))]
  constructor
  ·rintro ⟨⟨h2,h3⟩,h4⟩
   exact ⟨h2,fun d hd=>by
    rcases List.mem_cons.1 hd with rfl|hd
    ·exact h3
    ·exact h4 d hd⟩
  ·rintro ⟨h2,h3⟩
   exact ⟨⟨h2,h3 c (by simp)⟩,fun d hd=>h3 d (by simp [hd])⟩
theorem yB (P N:En):a7 ⟨0,0⟩ P N:=⟨fun j hj=>by simp [hp] at hj,fun j hj=>by simp [hn] at hj⟩
theorem Ef {f:List Cl} (hf:RF f) (h:(aU f).2=0) (P N:En):ak (aU f).1 P N↔ ∀c∈f,∃j,(hp c j∧N j)∨(hn c j∧P j):=by
 unfold aU at h ⊢
 rw [Rs P N (fun c hc=>hf.rc hc) (cD fy) h,i8]
 exact ⟨fun h=>h.2,fun h=>⟨yB P N,h⟩⟩
end Go.Proofs.YtapmagaejigpnaaGreatDoor
namespace Go.Proofs.YtapmagaejigpnaaGreatDoor
open Go PI
set_option linter.unusedVariables false
set_option linter.unusedSimpArgs false
set_option maxRecDepth 20000
theorem uA (n:Int) (c:Cl):ai [bK n c]:=fun d hd=>by simp at hd;subst hd;exact (dU _ _).ok
theorem JQ {P N:En} (h:dy P N) {n:Nat} {A B:Prop} (hab: ¬ (A∧B)):dy (ba P n A) (ba N n B):=by
 rintro j ⟨h1,h2⟩
 rcases h1 with h1|h1
 ·rcases h2 with h2|h2
  ·exact h j ⟨h1.2,h2.2⟩
  ·exact h1.1 h2.1
 ·rcases h2 with h2|h2
  ·exact h2.1 h1.1
  ·exact hab ⟨h1.2,h2.2⟩
theorem Rv {r:List Cl} (hr:RF r) (h:(cZ r).2=0) {P N:En} (hc:dy P N):ak (cZ r).1 P N↔ak r P N:=by
 unfold cZ at h ⊢
 rw [if_pos hr.right] at h ⊢
 exact wJ hr.2 h hc
theorem Rx {r:List Cl} (hr:RF r) (h:(di r).2=0) {P N:En} (hc:dy P N):ak (di r).1 P N↔ak (aU r).1 P N:=by
 unfold di at h ⊢
 rw [if_pos hr.right] at h ⊢
 split at h
 case isFalse hz=>exact absurd h hz
 rename_i hz
 rw [if_pos hz]
 exact wJ (f0 hz).2 h hc
theorem Eg {n:Nat} (hn24:n<24) {c:Cl} {h q:List Cl} {e:Int} (hh:RF h) (hq:e=0→RF q) (h0:(cq n c h (q,e)).2=0) {P N:En} (hc:dy P N):
  ak (cq n c h (q,e)).1 P N↔ak h P N∨(a7 (bK n c) P N∧ak q P N):=by
 unfold cq at h0 ⊢
 split at h0
 case isFalse h1=>exact absurd h0 h1
 rename_i h1
 rw [if_pos h1]
 split at h0
 case isFalse h2=>exact absurd h0 h2
 rename_i h2
 rw [if_pos h2]
 have rq:=hq h1
 rw [sk hh.2 (li (uA n c) rq.2 h2).1.2 h0]
 refine or_congr Iff.rfl ?_
 unfold eP at h2 ⊢
 rw [wJ (rd (uA n c) rq.2) h2 hc,Ed,i8]
theorem RD {n:Nat} (hn24:n<24) {r h:List Cl} {c:Cl} (hr:RF r) (hh:RFa h) (hc:RC c) (hcc:bv c=false) (h0:(bR n r h c).2=0) {P N:En} (hC:dy P N):
  ak (bR n r h c).1 P N↔ak h P N∨a7 c (ba P n (ak r P N)) (ba N n (ak (aU r).1 P N)):=by
 rw [yE hc hn24]
 have hcl:=calm_bits.1 hcc n
 unfold bR at h0 ⊢
 rw [qI hn24,qI hn24] at h0 ⊢
 by_cases hpn:hp c n
 ·have hpn':c.pos.toNat.testBit n=true:=hpn
  have hnn: ¬hn c n:=fun h=>hcl ⟨hpn,h⟩
  rw [if_pos hpn'] at h0 ⊢
  have e0:(cZ r).2=0:=by
   unfold cq at h0
   split at h0
   ·assumption
   ·next hh=>exact absurd h0 hh
  rw [show cZ r=((cZ r).1,(cZ r).2) from rfl] at h0 ⊢
  rw [Eg hn24 hh.1 (fun e=>(ri e hr.2).1) h0 hC,Rv hr e0 hC]
  refine or_congr Iff.rfl ⟨fun h=>⟨h.1,fun _=>h.2,fun h'=>absurd h' hnn⟩,fun h=>⟨h.1,h.2.1 hpn⟩⟩
 ·have hpn': ¬c.pos.toNat.testBit n=true:=hpn
  rw [if_neg hpn'] at h0 ⊢
  by_cases hnn:hn c n
  ·have hnn':c.neg.toNat.testBit n=true:=hnn
   rw [if_pos hnn'] at h0 ⊢
   have e0:(di r).2=0:=by
    unfold cq at h0
    split at h0
    ·assumption
    ·next hh=>exact absurd h0 hh
   rw [show di r=((di r).1,(di r).2) from rfl] at h0 ⊢
   rw [Eg hn24 hh.1 (fun e=>(rk e hr.2).1) h0 hC,Rx hr e0 hC]
   refine or_congr Iff.rfl ⟨fun h=>⟨h.1,fun h'=>absurd h' hpn,fun _=>h.2⟩,fun h=>⟨h.1,h.2.2 hnn⟩⟩
  ·have hnn': ¬c.neg.toNat.testBit n=true:=hnn
   rw [if_neg hnn'] at h0 ⊢
   rw [sk hh.1.2 (uA n c) h0,i8]
   refine or_congr Iff.rfl ⟨fun h=>⟨h,fun h'=>absurd h' hpn,fun h'=>absurd h' hnn⟩,fun h=>h.1⟩
theorem Rr {n:Nat} (hn24:n<24) {r:List Cl} (hr:RF r) {P N:En} (hC:dy P N): ∀ {l h:List Cl},(∀c∈l,RC c)→(∀c∈l,bv c=false)→RFa h→(aH (bR n r) h l).2=0→
  (ak (aH (bR n r) h l).1 P N↔ak h P N∨ak l (ba P n (ak r P N)) (ba N n (ak (aU r).1 P N))):=by
 intro l
 induction l with
 |nil=>
  intro h _ _ _ _
  exact ⟨.inl,fun h=>h.elim id fun h=>absurd h (lN _ _)⟩
 |cons c l ih=>
  intro h hl hcl hh h0
  unfold aH at h0 ⊢
  split at h0
  case isFalse h1=>exact absurd h0 h1
  rename_i h1
  rw [if_pos h1,ih (fun d hd=>hl d (by simp [hd])) (fun d hd=>hcl d (by simp [hd])) (BM hr hh (hcl c (by simp)) h1) h0,RD hn24 hr hh (hl c (by simp)) (hcl c (by simp)) h1 hC]
  unfold ak
  constructor
  ·rintro ((h|h)|⟨d,hd,hs⟩)
   ·exact .inl h
   ·exact .inr ⟨c,by simp,h⟩
   ·exact .inr ⟨d,by simp [hd],hs⟩
  ·rintro (h|⟨d,hd,hs⟩)
   ·exact .inl (.inl h)
   ·rcases List.mem_cons.1 hd with rfl|hd
    ·exact .inl (.inr hs)
    ·exact .inr ⟨d,hd,hs⟩
theorem RB {n:Nat} (hn24:n<24) {f r:List Cl} (hf:RFa f) (hr:RF r) (h:(dt f n r).2=0) {P N:En} (hC:dy P N):
  ak (dt f n r).1 P N↔ak f (ba P n (ak r P N)) (ba N n (ak (aU r).1 P N)):=by
 unfold dt at h ⊢
 rw [hf.right,hr.right,show gE (n:Int)=true from decide_eq_true (by omega)] at h ⊢
 simp only [Bool.and_self,if_true] at h ⊢
 rw [Rr hn24 hr hC (fun c hc=>hf.1.rc hc) hf.2 wk h]
 exact ⟨fun h=>h.elim (fun h=>absurd h (lN _ _)) id,.inr⟩
def cY (n x:Nat):Nat:=if n<x then x-1 else x
def lP (P:En) (n:Nat):En:=fun x=>x=n∨P (cY n x)
theorem qh {s:Int} {n:Nat} (hn24:n<24) (h:0≤s∧s<16777216) (y:Nat):(io s (n:Int)).toNat.testBit y=true↔ ∃x,s.toNat.testBit x=true∧x≠n∧cY n x=y:=by
 have hs:s.toNat<16777216:=by omega
 have hM:s.toNat&&&M24=s.toNat:=by
  apply Nat.eq_of_testBit_eq
  intro j
  rw [Nat.testBit_and,g8]
  cases hj:s.toNat.testBit j with
  |false=>rfl
  |true=>rw [decide_eq_true (g9 hs hj)];rfl
 unfold io
 rw [Int.toNat_natCast]
 unfold il
 rw [if_pos (by omega),Int.toNat_natCast,hM,Nat.testBit_or,tB,Nat.testBit_mul_two_pow,Nat.testBit_div_two_pow,Bool.or_eq_true,Bool.and_eq_true,Bool.and_eq_true,decide_eq_true_eq,decide_eq_true_eq]
 unfold cY
 constructor
 ·rintro (⟨h1,h2⟩|⟨h1,h2⟩)
  ·exact ⟨y,h1,by omega,if_neg (by omega)⟩
  ·rw [show y-n+(n+1)=y+1 by omega] at h2
   exact ⟨y+1,h2,by omega,by rw [if_pos (by omega)];omega⟩
 ·rintro ⟨x,h1,h2,h3⟩
  have:=g9 hs h1
  split at h3
  ·refine .inr ⟨by omega, ?_⟩
   rw [show y-n+(n+1)=x by omega];exact h1
  ·subst h3;exact .inl ⟨h1,by omega,by omega⟩
theorem yD {c:Cl} (hc:RC c) {n:Nat} (hn24:n<24) (P N:En):a7 (dp n c) P N↔a7 c (lP P n) (lP N n):=by
 unfold a7 lP
 have h1: ∀y,hp (dp n c) y↔ ∃x,hp c x∧x≠n∧cY n x=y:=fun y=>qh hn24 hc.1 y
 have h2: ∀y,hn (dp n c) y↔ ∃x,hn c x∧x≠n∧cY n x=y:=fun y=>qh hn24 hc.2 y
 constructor
 ·rintro ⟨a,b⟩
  refine ⟨fun x hx=> ?_,fun x hx=> ?_⟩
  ·by_cases he:x=n
   ·exact .inl he
   ·exact .inr (a _ ((h1 _).2 ⟨x,hx,he,rfl⟩))
  ·by_cases he:x=n
   ·exact .inl he
   ·exact .inr (b _ ((h2 _).2 ⟨x,hx,he,rfl⟩))
 ·rintro ⟨a,b⟩
  refine ⟨fun y hy=> ?_,fun y hy=> ?_⟩
  ·obtain ⟨x,hx,he,rfl⟩:=(h1 y).1 hy
   exact (a x hx).resolve_left he
  ·obtain ⟨x,hx,he,rfl⟩:=(h2 y).1 hy
   exact (b x hx).resolve_left he
theorem Rn {f:List Cl} (hf:RF f) {n:Nat} (hn24:n<24) (P N:En):ak (aD n f) P N↔ak f (lP P n) (lP N n):=by
 have h0:(aW (f.map (dp n))).2=0:=by rw [mC hf.len]
 unfold aD
 rw [lM (fun c hc=>(px _ _ c hc).ok) h0]
 unfold ak
 constructor
 ·rintro ⟨c,hc,hs⟩
  obtain ⟨d,hd,rfl⟩:=List.mem_map.1 hc
  exact ⟨d,hd,(yD (hf.rc hd) hn24 P N).1 hs⟩
 ·rintro ⟨d,hd,hs⟩
  exact ⟨dp n d,List.mem_map.2 ⟨d,hd,rfl⟩,(yD (hf.rc hd) hn24 P N).2 hs⟩
theorem AC {s:Int} {n b:Nat} (h:0≤s∧s<16777216) (h0:(bB s n b).2=0) (y:Nat):(bB s n b).1.toNat.testBit y=true↔ ∃x,s.toNat.testBit x=true∧aV n b x=y:=by
 have hs:s.toNat<16777216:=by omega
 unfold bB at h0 ⊢
 rw [if_neg (by omega)] at h0 ⊢
 simp only [Int.toNat_natCast] at h0 ⊢
 rw [Ax] at h0 ⊢
 split at h0
 ·exact absurd h0 (by decide)
 ·rename_i hno
  rw [if_neg hno]
  have hnd:((dB s.toNat).map (aV n b)).Nodup:=by
   have: ∀x y,aV n b x=aV n b y→x=y:=by
    intro x y h;unfold aV at h;split at h<;>split at h<;>omega
   exact List.Pairwise.map (S:=fun a b=>a≠b) (R:=fun a b=>a≠b) _ (fun x y hxy h=>hxy (this x y h)) (tC _)
  show (gX ((dB s.toNat).map (aV n b))).testBit y=true↔_
  rw [wN _ hnd,decide_eq_true_eq,List.mem_map]
  constructor
  ·rintro ⟨x,hx,rfl⟩;exact ⟨x,(mem_bitsN.1 hx).2,rfl⟩
  ·rintro ⟨x,hx,rfl⟩;exact ⟨x,mem_bitsN.2 ⟨g9 hs hx,hx⟩,rfl⟩
theorem NW {c:Cl} {n b:Nat} (h0:(b7 c n b).2=0):(bB c.pos n b).2=0∧(bB c.neg n b).2=0∧(b7 c n b).1=⟨(bB c.pos n b).1,(bB c.neg n b).1⟩:=by
 unfold b7 at h0 ⊢
 split at h0
 case isFalse=>exact absurd h0 (by decide)
 rename_i hr
 rw [if_pos hr]
 split at h0
 case isFalse h1=>exact absurd h0 h1
 rename_i h1
 rw [if_pos h1]
 split at h0
 case isFalse h2=>exact absurd h0 h2
 rename_i h2
 rw [if_pos h2]
 exact ⟨h1,h2,rfl⟩
theorem yG {c:Cl} (hc:RC c) {n b:Nat} (h0:(b7 c n b).2=0) (P N:En):a7 (b7 c n b).1 P N↔a7 c (fun x=>P (aV n b x)) fun x=>N (aV n b x):=by
 obtain ⟨h1,h2,h3⟩:=NW h0
 rw [h3]
 have e1: ∀y,hp ⟨(bB c.pos n b).1,(bB c.neg n b).1⟩ y↔ ∃x,hp c x∧aV n b x=y:=fun y=>AC hc.1 h1 y
 have e2: ∀y,hn ⟨(bB c.pos n b).1,(bB c.neg n b).1⟩ y↔ ∃x,hn c x∧aV n b x=y:=fun y=>AC hc.2 h2 y
 unfold a7
 constructor
 ·rintro ⟨a,b⟩
  exact ⟨fun x hx=>a _ ((e1 _).2 ⟨x,hx,rfl⟩),fun x hx=>b _ ((e2 _).2 ⟨x,hx,rfl⟩)⟩
 ·rintro ⟨a,b⟩
  refine ⟨fun y hy=> ?_,fun y hy=> ?_⟩
  ·obtain ⟨x,hx,rfl⟩:=(e1 y).1 hy;exact a x hx
  ·obtain ⟨x,hx,rfl⟩:=(e2 y).1 hy;exact b x hx
theorem LD {n b:Nat}: ∀ {l h:List Cl},(aH (cK n b) h l).2=0→(aH (cK n b) h l).1=h++l.map (fun c=>(b7 c n b).1)∧ ∀c∈l,(b7 c n b).2=0:=by
 intro l
 induction l with
 |nil=>intro h _;exact ⟨by simp [aH],fun c hc=>by cases hc⟩
 |cons c l ih=>
  intro h h0
  unfold aH at h0 ⊢
  split at h0
  case isFalse h1=>exact absurd h0 h1
  rename_i h1
  rw [if_pos h1]
  obtain ⟨e1,e2⟩:=ih h0
  refine ⟨by rw [e1];simp [cK],fun d hd=> ?_⟩
  rcases List.mem_cons.1 hd with rfl|hd
  ·exact h1
  ·exact e2 d hd
theorem Ec {f:List Cl} (hf:RF f) {n b:Nat} (h:(aF f n b).2=0) (P N:En):ak (aF f n b).1 P N↔ak f (fun x=>P (aV n b x)) fun x=>N (aV n b x):=by
 unfold aF at h ⊢
 rw [if_pos hf.right] at h ⊢
 split at h
 case isFalse h1=>exact absurd h h1
 rename_i h1
 rw [if_pos h1]
 obtain ⟨e1,e2⟩:=LD h1
 have hok:=(qF (i:=(n:Int)) (b:=(b:Int)) (r:=f) (h:=[]) fun c hc=>by cases hc).1
 rw [lM hok h,e1,List.nil_append]
 unfold ak
 constructor
 ·rintro ⟨c,hc,hs⟩
  obtain ⟨d,hd,rfl⟩:=List.mem_map.1 hc
  exact ⟨d,hd,(yG (hf.rc hd) (e2 d hd) P N).1 hs⟩
 ·rintro ⟨d,hd,hs⟩
  exact ⟨_,List.mem_map.2 ⟨d,hd,rfl⟩,(yG (hf.rc hd) (e2 d hd) P N).2 hs⟩
end Go.Proofs.YtapmagaejigpnaaGreatDoor
namespace Go.Proofs.YtapmagaejigpnaaGreatDoor
open Go PI
set_option linter.unusedVariables false
set_option linter.unusedSimpArgs false
set_option maxRecDepth 20000
def Cq (fa:Bool) (P N:En):Prop:=fa=true→dy P N
def RX (fa:Bool) (f:List Cl):Prop:=RF f∧(fa=true→ ∀c∈f,bv c=false)
theorem lK {fa:Bool} {f g:List Cl} (hf:RX fa f) (hg:RX fa g) (h: ∀P N,Cq fa P N→(ak f P N↔ak g P N)):f=g:=by
 cases fa
 ·exact Rp hf.1 hg.1 fun P N=>h P N fun h=>by cases h
 ·exact Rq ⟨hf.1,hf.2 rfl⟩ ⟨hg.1,hg.2 rfl⟩ fun P N hc=>h P N fun _=>hc
def eB (fa:Bool) (f:List Cl) (i:Int) (r:List Cl):List Cl×Int:=if fa then dt f i r else du f i r
theorem BR {fa:Bool} {f r:List Cl} {i:Int} (hf:ai f) (hr:ai r) (h:(eB fa f i r).2=0):RX fa (eB fa f i r).1:=by
 unfold eB at h ⊢
 cases fa
 ·exact ⟨BQ hr h,fun h=>by cases h⟩
 ·have:=BP hf hr h
  exact ⟨this.1,fun _=>this.2⟩
theorem wL {fa:Bool} {n:Nat} (hn:n<24) {f r:List Cl} (hf:RX fa f) (hr:RF r) (h:(eB fa f n r).2=0) {P N:En} (hC:Cq fa P N):
  ak (eB fa f n r).1 P N↔ak f (ba P n (ak r P N)) (ba N n (ak (aU r).1 P N)):=by
 unfold eB at h ⊢
 cases fa
 ·exact Rz hn hf.1 hr h P N
 ·exact RB hn ⟨hf.1,hf.2 rfl⟩ hr h (hC rfl)
def cJ (f:List Cl) (n:Nat):Prop:= ∀c∈f,¬hp c n∧ ¬hn c n
def same (n:Nat) (P P':En):Prop:= ∀j,j≠n→(P j↔P' j)
theorem yF {c:Cl} {n:Nat} (h: ¬hp c n∧ ¬hn c n) {P N P' N':En} (hP:same n P P') (hN:same n N N') (hs:a7 c P N):a7 c P' N':=
 ⟨fun j hj=>(hP j (fun e=>h.1 (e▸hj))).1 (hs.1 j hj),fun j hj=>(hN j (fun e=>h.2 (e▸hj))).1 (hs.2 j hj)⟩
theorem same.symm {n:Nat} {P P':En} (h:same n P P'):same n P' P:=fun j hj=>(h j hj).symm
theorem sm {f:List Cl} {n:Nat} (h:cJ f n) {P N P' N':En} (hP:same n P P') (hN:same n N N'):ak f P N↔ak f P' N':=
 ⟨fun ⟨c,hc,hs⟩=>⟨c,hc,yF (h c hc) hP hN hs⟩,fun ⟨c,hc,hs⟩=>⟨c,hc,yF (h c hc) hP.symm hN.symm hs⟩⟩
theorem qS {fa:Bool} {f:List Cl} {n:Nat} (hf:RX fa f) (h: ∀P N P' N',Cq fa P N→Cq fa P' N'→same n P P'→same n N N'→ak f P N→ak f P' N'):cJ f n:=by
 intro c hc
 have hcon: ∀P' N':En,(∀j,P' j→hp c j)→(∀j,N' j→hn c j)→Cq fa P' N':=fun P' N' h1 h2 e j hj=>tI (hf.2 e c hc) j ⟨h1 j hj.1,h2 j hj.2⟩
 obtain ⟨d,hd,hs⟩:=h (hp c) (hn c) (fun j=>j≠n∧hp c j) (fun j=>j≠n∧hn c j) (hcon _ _ (fun _ h=>h) fun _ h=>h) (hcon _ _ (fun _ h=>h.2) fun _ h=>h.2)
  (fun j hj=>⟨fun h=>⟨hj,h⟩,fun h=>h.2⟩) (fun j hj=>⟨fun h=>⟨hj,h⟩,fun h=>h.2⟩) ⟨c,hc,hJ c⟩
 have hmin:bo f c=true:=(mem_mins.1 (by rw [hf.1.mins];exact hc)).2
 unfold bo at hmin
 have:=List.all_eq_true.1 hmin d hd
 rw [(mw (hf.1.2 c hc)).2 ⟨fun j hj=>(hs.1 j hj).2,fun j hj=>(hs.2 j hj).2⟩,Bool.not_true,Bool.or_false,decide_eq_true_eq] at this
 subst this
 exact ⟨fun h=>(hs.1 n h).1 rfl,fun h=>(hs.2 n h).1 rfl⟩
theorem F1 (P:En) (n:Nat) (A:Prop):same n P (ba P n A):=fun j hj=>⟨fun h=> .inl ⟨hj,h⟩,fun h=>h.elim (fun h=>h.2) fun h=>absurd h.1 hj⟩
theorem sI {P P':En} {n:Nat} {A A':Prop} (h:same n P P') (ha:A↔A'): ∀j,ba P n A j↔ba P' n A' j:=by
 intro j
 unfold ba
 by_cases hj:j=n
 ·subst hj;simp [ha]
 ·simp only [hj,ne_eq,not_false_eq_true,true_and,false_and,or_false];exact h j hj
theorem lL {f:List Cl} {P N P' N':En} (hP: ∀j,P j↔P' j) (hN: ∀j,N j↔N' j):ak f P N↔ak f P' N':=
 ⟨fun h=>Ee h (fun j=>(hP j).1) fun j=>(hN j).1,fun h=>Ee h (fun j=>(hP j).2) fun j=>(hN j).2⟩
theorem OC {r:List Cl} {n:Nat} (hr:RF r) (h0:(aU r).2=0) (h:cJ r n):cJ (aU r).1 n:=by
 refine qS (fa:=false) ⟨f0 h0,fun h=>by cases h⟩ fun P N P' N' _ _ hP hN hs=> ?_
 rw [Ef hr h0] at hs ⊢
 intro c hc
 obtain ⟨j,hj⟩:=hs c hc
 refine ⟨j,hj.imp (fun h'=>⟨h'.1,(hN j fun e=>(h c hc).1 (e▸h'.1)).1 h'.2⟩) fun h'=>⟨h'.1,(hP j fun e=>(h c hc).2 (e▸h'.1)).1 h'.2⟩⟩
theorem Pw {fa:Bool} {n:Nat} (hn:n<24) {f r:List Cl} (hf:RX fa f) (hr:RF r) (hl:cJ r n) (hz:(aU r).2=0) (h:(eB fa f n r).2=0):cJ (eB fa f n r).1 n:=by
 refine qS (BR hf.1.2 hr.2 h) fun P N P' N' hC hC' hP hN hs=> ?_
 rw [wL hn hf hr h hC] at hs
 rw [wL hn hf hr h hC']
 exact (lL (sI hP (sm hl hP hN)) (sI hN (sm (OC hr hz hl) hP hN))).1 hs
def bV (P:En) (n:Nat):En:=fun x=>x≠n∧P (cY n x)
theorem FT (P:En) (n:Nat):same n (lP P n) (bV P n):=fun j hj=>⟨fun h=>h.elim (fun h=>absurd h hj) fun h=>⟨hj,h⟩,fun h=> .inr h.2⟩
theorem JP {P N:En} (h:dy P N) (n:Nat):dy (bV P n) (bV N n):=fun j hj=>h _ ⟨hj.1.2,hj.2.2⟩
theorem yK {fa:Bool} {P N:En} (h:Cq fa P N) (n:Nat):Cq fa (bV P n) (bV N n):=fun e=>JP (h e) n
theorem si {f:List Cl} (hf:RF f) {n:Nat} (hn24:n<24) (hl:cJ f n) (P N:En):ak (aD n f) P N↔ak f (bV P n) (bV N n):=
 (Rn hf hn24 P N).trans (sm hl (FT P n) (FT N n))
theorem py {fa:Bool} {f:List Cl} (hf:RX fa f) {n:Nat} (hn24:n<24) (hl:cJ f n):RX fa (aD n f):=by
 refine ⟨yM hf.1.len,fun e c hc=> ?_⟩
 have hm:c∈f.map (dp n):=by
  have:=(gR (mC (j:=n) hf.1.len)).1
  rw [this] at hc
  exact (mem_mins.1 hc).1
 obtain ⟨d,hd,rfl⟩:=List.mem_map.1 hm
 refine calm_bits.2 fun j hj=> ?_
 obtain ⟨x,hx,hxn,h1⟩:=(qh hn24 (hf.1.rc hd).1 j).1 hj.1
 obtain ⟨y,hy,hyn,h2⟩:=(qh hn24 (hf.1.rc hd).2 j).1 hj.2
 have:x=y:=by unfold cY at h1 h2;split at h1<;>split at h2<;>omega
 subst this
 exact calm_bits.1 (hf.2 e d hd) x ⟨hx,hy⟩
theorem SJ {f:List Cl} {n:Nat}:j8 f n=true↔ ¬cJ f n:=by
 unfold j8 cJ hp hn
 rw [List.any_eq_true]
 constructor
 ·rintro ⟨c,hc,h⟩ hl
  rw [Bool.or_eq_true] at h
  exact h.elim (hl c hc).1 (hl c hc).2
 ·intro h
  apply Classical.byContradiction
  intro hno
  refine h fun c hc=>⟨fun h'=>hno ⟨c,hc,by rw [h'];rfl⟩,fun h'=>hno ⟨c,hc,by rw [h',Bool.or_true]⟩⟩
theorem has_dims {f:List Cl} {n:Nat}:bY (dR f) (n:Int)=true↔n<24∧ ¬cJ f n:=by
 unfold bY dR
 rw [Int.toNat_natCast,Int.toNat_natCast,yZ,Bool.and_eq_true,Bool.and_eq_true,decide_eq_true_eq,decide_eq_true_eq,SJ]
 constructor
 ·exact fun h=>⟨h.2.2,h.2.1⟩
 ·exact fun h=>⟨by omega,h.2,h.1⟩
theorem n8 {fa:Bool} {r f g:List Cl} {n:Nat} (hn24:n<24) (hf:RX fa f) {A B:En→En→Prop}
  (hs: ¬cJ f n→ ∀s,bP (aF r 0 n)= .ok s→cJ s n∧(aU s).2=0∧ ∀P N,(ak s P N↔A P N)∧(ak (aU s).1 P N↔B P N)) (h:aY 0 r fa n f= .ok g):
  RX fa g∧ ∀P N,Cq fa P N→(ak g P N↔ak f (ba (bV P n) n (A (bV P n) (bV N n))) (ba (bV N n) n (B (bV P n) (bV N n)))):=by
 rw [jB] at h
 obtain ⟨m,h1,h⟩:=av h
 injection h with h;subst h
 unfold aB at h1
 rw [Int.zero_add] at h1 ⊢
 by_cases hl:cJ f n
 ·rw [if_neg (fun h'=>(has_dims.1 h').2 hl)] at h1
  injection h1 with h1;subst h1
  refine ⟨py hf hn24 hl,fun P N hC=> ?_⟩
  rw [si hf.1 hn24 hl]
  exact sm hl (F1 _ _ _) (F1 _ _ _)
 ·rw [if_pos (has_dims.2 ⟨hn24,hl⟩)] at h1
  obtain ⟨s,es,h1⟩:=av h1
  obtain ⟨hsl,hsz,hAB⟩:=hs hl s es
  have rs:RF s:=by obtain ⟨h0,rfl⟩:=d4 es;exact fX h0
  obtain ⟨h2,rfl⟩:=d4 h1
  have h3:(eB fa f n s).2=0:=h2
  have rp:=BR hf.1.2 rs.2 h3
  have lp:=Pw hn24 hf rs hsl hsz h3
  refine ⟨py rp hn24 lp,fun P N hC=> ?_⟩
  show ak (aD n (eB fa f n s).1) P N↔_
  rw [si rp.1 hn24 lp,wL hn24 hf rs h3 (yK hC n)]
  exact lL (sI (fun _ _=>Iff.rfl) (hAB _ _).1) (sI (fun _ _=>Iff.rfl) (hAB _ _).2)
end Go.Proofs.YtapmagaejigpnaaGreatDoor
namespace Go.Proofs.YtapmagaejigpnaaGreatDoor
open Go PI
set_option linter.unusedVariables false
set_option linter.unusedSimpArgs false
set_option maxRecDepth 20000
theorem JS {f:List Cl} (hf:RF f) {i:Int} (hi:24≤i):aD i f=f:=by
 have: ∀c∈f,dp i c=c:=fun c hc=>by
  obtain ⟨p,q⟩:=c
  obtain ⟨h1,h2⟩:=hf.rc hc
  simp only at h1 h2
  unfold dp io il
  rw [if_neg (by omega),if_neg (by omega)]
  simp only
  rw [yj (by omega),yj (by omega)]
  congr 1<;>omega
 unfold aD
 rw [show f.map (dp i)=f from (List.map_congr_left this).trans (List.map_id f),hf.1]
theorem qD {fa:Bool} {r f:List Cl} {d:Int} (h:bY (dR f) d=false):aY 0 r fa d f= .ok (aD d f):=by
 rw [jB];unfold aB;rw [Int.zero_add,if_neg (by rw [h];decide),ao]
theorem LS {f:List Cl} {d:Int} (hd:24≤d):bY (dR f) d=false:=by
 unfold bY;rw [decide_eq_false (by omega),Bool.false_and]
theorem uw {fa:Bool} {r f:List Cl} (hf:RF f) {d:Int} (hd:24≤d):aY 0 r fa d f= .ok f:=by
 rw [qD (LS hd),JS hf hd]
theorem zU {f:List Cl} {n:Nat} (h:cJ f n):bY (dR f) n=false:=by
 rw [Bool.eq_false_iff];exact fun h'=>(has_dims.1 h').2 h
theorem wC {fa:Bool} {f g:List Cl} {d b:Int} (hf:RX fa f) (h:bp d b f= .ok g):RX fa g:=
 ⟨nU hf.1 h,fun e c hc=>by
  have:=Dp (List.all_eq_true.2 fun c hc=>by rw [hf.2 e c hc];rfl) h
  have:=List.all_eq_true.1 this c hc
  simpa using this⟩
theorem sn {f g:List Cl} (hf:RF f) {n b:Nat} (hn:n<24) (hb:b≠0) (h:bp n b f= .ok g) (P N:En):ak g P N↔ak f (fun x=>P (aV n b x)) fun x=>N (aV n b x):=by
 unfold bp at h
 rw [if_neg (by omega)] at h
 obtain ⟨h0,rfl⟩:=d4 h
 exact Ec hf h0 P N
theorem NM {f g:List Cl} (hf:RF f) {n b:Nat} (hn:n<24) (hb:b≠0) (h:bp n b f= .ok g) {m:Nat} (hm:n≤m∧m<n+b):cJ g m:=by
 refine qS (fa:=false) ⟨nU hf h,fun h=>by cases h⟩ fun P N P' N' _ _ hP hN hs=> ?_
 rw [sn hf hn hb h] at hs ⊢
 have hu: ∀x,aV n b x≠m:=fun x=>by unfold aV;split<;>omega
 exact (lL (fun j=>hP _ (hu j)) fun j=>hN _ (hu j)).1 hs
theorem zH {fa:Bool} {r f g:List Cl} {n:Nat} (hf:RX fa f) (h:bp n 1 f= .ok g):aY 0 r fa n g= .ok f:=by
 by_cases hn:n<24
 ·have hl:=NM (b:=1) hf.1 hn (by omega) h (m:=n) (by omega)
  have hg:=wC hf h
  rw [qD (zU hl)]
  congr 1
  refine lK (fa:=fa) (py hg hn hl) hf fun P N hC=> ?_
  rw [si hg.1 hn hl,sn hf.1 hn (b:=1) (by omega) h]
  have: ∀ (P:En) j,bV P n (aV n 1 j)↔P j:=fun P j=>by
   unfold bV
   have h1:aV n 1 j≠n:=by unfold aV;split<;>omega
   have h2:cY n (aV n 1 j)=j:=by unfold aV cY;split<;>split<;>omega
   rw [h2];exact ⟨fun h=>h.2,fun h=>⟨h1,h⟩⟩
  exact lL (this P) (this N)
 ·have:f=g:=by unfold bp at h;rw [if_pos (by omega)] at h;injection h
  subst this
  exact uw hf.1 (by omega)
theorem OD:aU []=([⟨0,0⟩],0):=rfl
theorem qU {l:List Cl}:(aW l).1.length≤l.length:=by
 unfold aW
 split
 ·split
  ·exact Nat.zero_le _
  ·exact Bv l
 ·exact Nat.zero_le _
theorem qV (f g:List Cl):(meets f g).length=f.length*g.length:=by
 unfold meets
 induction f with
 |nil=>simp
 |cons c f ih=>rw [List.flatMap_cons,List.length_append,ih,List.length_map,List.length_cons,Nat.succ_mul,Nat.add_comm]
theorem De {f g:List Cl} (hf: ∀c∈f,RC c) (hg: ∀c∈g,RC c): ∀c∈meets f g,RC c:=fun c hc=>by
 unfold meets at hc
 obtain ⟨a,ha,hc⟩:=List.mem_flatMap.1 hc
 obtain ⟨b,hb,rfl⟩:=List.mem_map.1 hc
 exact Oj (hf a ha) (hg b hb)
theorem vl {f g:List Cl} (hf:RF f) (hg:RF g) (h:f.length≤1∨g.length≤1):(cV f g).2=0∧(cV f g).1.length≤f.length*g.length:=by
 have h1:=hf.len;have h2:=hg.len
 refine ⟨ni (De (fun c=>hf.rc) fun c=>hg.rc) ?_,Nat.le_trans qU (Nat.le_of_eq (qV f g))⟩
 rw [qV]
 rcases h with h|h
 ·exact Nat.le_trans (Nat.mul_le_mul_right _ h) (by omega)
 ·exact Nat.le_trans (Nat.mul_le_mul_left _ h) (by omega)
theorem OF {s:List Cl} (hs:RF s) (h:s.length≤1):(aU s).2=0:=by
 cases s with
 |nil=>rfl
 |cons c s=>
  have:s=[]:=by cases s with
   |nil=>rfl
   |cons=>simp at h
  subst this
  have h1:(fZ [⟨0,0⟩] c).2=0:=(vl (cD fy) (nH c) (.inl (by simp))).1
  unfold aU aH
  rw [if_pos h1];rfl
def ji (r:List Cl):Prop:=RF r∧r.length≤1∧(aU r).2=0∧(aU r).1.length≤1
theorem Oo:ji []:=⟨gc,by decide,rfl,by rw [OD];decide⟩
theorem OE:aU [⟨0,0⟩]=([],0):=rfl
theorem Bu:ji [⟨0,0⟩]:=⟨cD fy,by decide,rfl,by rw [OE];decide⟩
theorem uN {h g:List Cl} (hh:RF h) (hg:RF g) (hl:h.length+g.length≤64):(cA h g).2=0∧(cA h g).1.length≤h.length+g.length:=by
 refine ⟨ni (fun c hc=> ?_) (by rw [List.length_append];exact hl),Nat.le_trans qU (by rw [List.length_append];exact Nat.le_refl _)⟩
 rcases List.mem_append.1 hc with hc|hc
 ·exact hh.rc hc
 ·exact hg.rc hc
theorem Pl {r:List Cl} (hr:ji r) {n:Int} {h:List Cl} {c:Cl} (hh:RF h) (hl:h.length<64):(c7 n r h c).2=0∧(c7 n r h c).1.length≤h.length+1:=by
 have ra:(c8 n r c).2=0∧(c8 n r c).1.length≤1:=by
  unfold c8
  split
  ·have:=vl (cD (dU n c)) hr.1 (.inl (by simp))
   have h2:=hr.2.1
   simp only [List.length_singleton,Nat.one_mul] at this
   exact ⟨this.1,by omega⟩
  ·exact ⟨rfl,by simp⟩
 have fa:=vE hr.1 ra.1
 have rb:(eA n r c (c8 n r c).1).2=0∧(eA n r c (c8 n r c).1).1.length≤1:=by
  unfold eA
  split
  ·rw [if_pos hr.2.2.1]
   have:=vl fa (f0 hr.2.2.1) (.inl ra.2)
   exact ⟨this.1,Nat.le_trans this.2 (Nat.mul_le_mul ra.2 hr.2.2.2)⟩
  ·exact ⟨rfl,ra.2⟩
 have fb:=vF fa rb.1
 unfold c7
 rw [if_pos ra.1,if_pos rb.1]
 have:=uN hh fb (by omega)
 exact ⟨this.1,by omega⟩
theorem Aw (l:List Cl):(eo l).1.length≤l.length:=by
 unfold eo
 exact Nat.le_trans qU (List.length_filter_le _ _)
theorem As {l:List Cl} (h: ∀c∈l,RC c) (hl:l.length≤64):(eo l).2=0:=
 ni (fun c hc=>h c (mA hc).1) (Nat.le_trans (List.length_filter_le _ _) hl)
theorem Pp {r:List Cl} (hr:ji r) {n:Int} {h:List Cl} {c:Cl} (hh:RF h) (hl:h.length<64):(bR n r h c).2=0∧(bR n r h c).1.length≤h.length+1:=by
 have hG: ∀ {q:List Cl×Int},q.2=0→RF q.1→q.1.length≤1→(cq n c h q).2=0∧(cq n c h q).1.length≤h.length+1:=by
  intro q h0 hq hq1
  have hm:(eP [bK n c] q.1).2=0:=As (De (fun d hd=>by simp at hd;subst hd;exact dU _ _) fun c=>hq.rc) (by rw [qV];simp only [List.length_singleton,Nat.one_mul];omega)
  have hl1:(eP [bK n c] q.1).1.length≤1:=Nat.le_trans (Aw _) (by rw [qV];simp only [List.length_singleton,Nat.one_mul];exact hq1)
  have hf:=(li (cD (dU n c)).2 hq.2 hm).1
  unfold cq
  rw [if_pos h0,if_pos hm]
  have:=uN hh hf (by omega)
  exact ⟨this.1,by omega⟩
 have hL: ∀ {l:List Cl},RF l→l.length≤1→(eo l).2=0∧(eo l).1.length≤1:=fun hl h1=>⟨As (fun c=>hl.rc) (by omega),Nat.le_trans (Aw _) h1⟩
 unfold bR
 split
 ·unfold cZ
  rw [if_pos hr.1.right]
  have:=hL hr.1 hr.2.1
  exact hG this.1 (nh hr.1.2 this.1).1 this.2
 ·split
  ·unfold di
   rw [if_pos hr.1.right,if_pos hr.2.2.1]
   have hz:=f0 hr.2.2.1
   have:=hL hz hr.2.2.2
   exact hG this.1 (nh hz.2 this.1).1 this.2
  ·have:=uN hh (cD (dU n c)) (by simp;omega)
   exact ⟨this.1,by simpa using this.2⟩
theorem zJ {step:List Cl→Cl→List Cl×Int} (hs: ∀h c,RF h→h.length<64→(step h c).2=0∧(step h c).1.length≤h.length+1) (hr: ∀h c,RF h→(step h c).2=0→RF (step h c).1): ∀ {l h:List Cl},RF h→h.length+l.length≤64→(aH step h l).2=0:=by
 intro l
 induction l with
 |nil=>intro h _ _;rfl
 |cons c l ih=>
  intro h hh hl
  rw [List.length_cons] at hl
  have h1:=hs h c hh (by omega)
  unfold aH
  rw [if_pos h1.1]
  exact ih (hr h c hh h1.1) (by omega)
theorem Po {r h:List Cl} {n:Int} {c:Cl} (hh:RF h) (hr:RF r) (h0:(bR n r h c).2=0):RF (bR n r h c).1:=by
 have hG: ∀ {q:List Cl×Int},(q.2=0→ai q.1)→(cq n c h q).2=0→RF (cq n c h q).1:=by
  intro q hq h0
  unfold cq at h0 ⊢
  split at h0
  case isFalse h1=>exact absurd h0 h1
  rename_i h1
  rw [if_pos h1]
  split at h0
  case isFalse h2=>exact absurd h0 h2
  rename_i h2
  rw [if_pos h2]
  exact uM hh.2 (li (cD (dU n c)).2 (hq h1) h2).1.2 h0
 unfold bR at h0 ⊢
 split at h0
 ·rename_i h1
  rw [if_pos h1]
  exact hG (fun e=>(ri e hr.2).1.2) h0
 ·rename_i h1
  rw [if_neg h1]
  split at h0
  ·rename_i h2
   rw [if_pos h2]
   exact hG (fun e=>(rk e hr.2).1.2) h0
  ·rename_i h2
   rw [if_neg h2]
   exact uM hh.2 (cD (dU n c)).2 h0
theorem Ps {fa:Bool} {f r:List Cl} (hf:RX fa f) (hr:ji r) {n:Nat} (hn:n<24):(eB fa f n r).2=0:=by
 have hd:gE (n:Int)=true:=decide_eq_true (by omega)
 unfold eB
 cases fa
 ·show (du f n r).2=0
  unfold du
  rw [hf.1.right,hr.1.right,hd]
  exact zJ (fun h c hh hl=>Pl hr hh hl) (fun h c hh h0=>rA hr.1 h c hh h0) gc (by have:=hf.1.len;simpa using this)
 ·show (dt f n r).2=0
  have:bj f=true:=RFa.right ⟨hf.1,hf.2 rfl⟩
  unfold dt
  rw [this,hr.1.right,hd]
  exact zJ (fun h c hh hl=>Pp hr hh hl) (fun h c hh h0=>Po hh hr.1 h0) gc (by have:=hf.1.len;simpa using this)
theorem u3 {n:Nat} (hn:n<24):aF [⟨0,0⟩] 0 n=([⟨0,0⟩],0):=by
 have: ∀m:Fin 24,aF [⟨0,0⟩] 0 ((m.1:Nat):Int)=([⟨0,0⟩],0):=by decide
 exact this ⟨n,hn⟩
theorem zG {fa:Bool} {f r:List Cl} (hf:RX fa f) (hr:ji r) {n:Nat} (hl:n<24→aF r 0 n=(r,0)): ∃g,aY 0 r fa n f= .ok g:=by
 by_cases h:bY (dR f) (n:Int)=true
 ·have hn:=(has_dims.1 h).1
  rw [jB];unfold aB
  rw [Int.zero_add,if_pos h,hl hn,g0 rfl,ao]
  exact ⟨_,by rw [show (if fa=true then dt f (n:Int) r else du f n r)=eB fa f n r from rfl,g0 (Ps hf hr hn),ao]⟩
 ·exact ⟨_,qD (Bool.eq_false_iff.2 h)⟩
end Go.Proofs.YtapmagaejigpnaaGreatDoor
