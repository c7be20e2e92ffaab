/- Part 6 of a proof: the sources, with their names and remarks, lie in wip/. -/
import Derived.Test.YtapmagaejigpnaaGreatDoorX5
namespace Go.Proofs.YtapmagaejigpnaaGreatDoor
open Go PI
set_option linter.unusedVariables false
set_option linter.unusedSimpArgs false
set_option maxRecDepth 100000
noncomputable section
abbrev Rw (S:Type):=List PU→List (Box UU)→(Out UU→Option S)→Option S
abbrev Kn (S:Type):=(Out UU→Option S)→Option S
noncomputable def iI (n:Int):PU:= .int .i64 n
noncomputable def iU (n:Int):PU:= .int .u32 n
noncomputable def pt (i:Nat):PU:= .ptr i 0
noncomputable def aT (t:Tm):PU:= .agg [.int .i64 t.kind,.int .i64 t.n,.str t.name,cE t.r .none,gE t.kids .none,fy t.sys .none]
noncomputable def aC (c:Cl):PU:= .agg [.int .u32 c.pos,.int .u32 c.neg]
noncomputable def aB (b:Br Tm):PU:= .agg [cE b.face .none,gE b.kids .none]
noncomputable def bT (t:Tm):Box UU:= .cells [.int .i64 t.kind,.int .i64 t.n,.str t.name,cE t.r .none,gE t.kids .none,fy t.sys .none]
noncomputable def bC (c:Cl):Box UU:= .cells [.int .u32 c.pos,.int .u32 c.neg]
noncomputable def bB (b:Br Tm):Box UU:= .cells [cE b.face .none,gE b.kids .none]
noncomputable def bI (n:Int):Box UU:= .cells [.int .i64 n]
noncomputable def bb (b:Bool):Box UU:= .cells [.bool b]
noncomputable def sC (l:List Cl):PU:=cE l .none
noncomputable def sT (l:List Tm):PU:=gE l .none
noncomputable def sB (l:List (Br Tm)):PU:=fy l .none
structure Cd where
 D:Type→Type
 k:{ρ:Type}→ρ→D ρ
 dec:{ρ:Type}→D ρ→PU→Option ρ
 A:{ρ:Type}→D ρ→(PU→ρ→Prop)→Prop
 law: ∀ {ρ:Type} (f:D ρ) (v:PU) (r:ρ) (Q:PU→ρ→Prop),A f Q→dec f v=some r→Q v r
structure Cs where
 D:Type→Type
 n:Nat
 k:{ρ:Type}→ρ→D ρ
 dec:{ρ:Type}→D ρ→List PU→Option ρ
 A:{ρ:Type}→D ρ→(List PU→ρ→Prop)→Prop
 law: ∀ {ρ:Type} (f:D ρ) (v:List PU) (r:ρ) (Q:List PU→ρ→Prop),A f Q→dec f v=some r→Q v r
 len: ∀ {ρ:Type} (f:D ρ) (v:List PU) (r:ρ),dec f v=some r→v.length=n
structure Bs where
 D:Type→Type
 n:Nat
 k:{ρ:Type}→ρ→D ρ
 dec:{ρ:Type}→D ρ→List (Box UU)→Option ρ
 A:{ρ:Type}→D ρ→(List (Box UU)→ρ→Prop)→Prop
 law: ∀ {ρ:Type} (f:D ρ) (v:List (Box UU)) (r:ρ) (Q:List (Box UU)→ρ→Prop),A f Q→dec f v=some r→Q v r
 len: ∀ {ρ:Type} (f:D ρ) (v:List (Box UU)) (r:ρ),dec f v=some r→v.length=n
noncomputable def cn:Cs where
 D ρ:=ρ
 n:=0
 k r:=r
 dec f:=fun|[]=>some f|_=> .none
 A f Q:=Q [] f
 law f v r Q h e:=by split at e<;>cases e;exact h
 len f v r e:=by split at e<;>cases e;rfl
noncomputable def cc (c:Cd) (s:Cs):Cs where
 D ρ:=c.D (s.D ρ)
 n:=s.n+1
 k r:=c.k (s.k r)
 dec f:=fun|v::l=>(c.dec f v).bind fun g=>s.dec g l|[]=> .none
 A f Q:=c.A f fun v g=>s.A g fun l r=>Q (v::l) r
 law f v r Q h e:=by
  split at e
  ·obtain ⟨g,h1,h2⟩:=Option.bind_eq_some_iff.1 e
   have:=s.law g _ r _ (c.law f _ g _ h h1) h2;exact this
  ·cases e
 len f v r e:=by
  split at e
  ·obtain ⟨g,h1,h2⟩:=Option.bind_eq_some_iff.1 e
   simp [s.len g _ r h2]
  ·cases e
noncomputable def xn:Bs where
 D ρ:=ρ
 n:=0
 k r:=r
 dec f:=fun|[]=>some f|_=> .none
 A f Q:=Q [] f
 law f v r Q h e:=by split at e<;>cases e;exact h
 len f v r e:=by split at e<;>cases e;rfl
noncomputable def xc (c:Cs) (s:Bs):Bs where
 D ρ:=c.D (s.D ρ)
 n:=s.n+1
 k r:=c.k (s.k r)
 dec f:=fun| .cells v::l=>(c.dec f v).bind fun g=>s.dec g l|_=> .none
 A f Q:=c.A f fun v g=>s.A g fun l r=>Q (.cells v::l) r
 law f v r Q h e:=by
  split at e
  ·obtain ⟨g,h1,h2⟩:=Option.bind_eq_some_iff.1 e
   have:=s.law g _ r _ (c.law f _ g _ h h1) h2;exact this
  ·cases e
 len f v r e:=by
  split at e
  ·obtain ⟨g,h1,h2⟩:=Option.bind_eq_some_iff.1 e
   simp [s.len g _ r h2]
  ·cases e
noncomputable def xm (s:Bs):Bs where
 D ρ:=List (Cl×Bool)→s.D ρ
 n:=s.n+1
 k r:=fun _=>s.k r
 dec f:=fun| .map .C m::l=>s.dec (f m) l|_=> .none
 A f Q:= ∀m:List (Cl×Bool),s.A (f m) fun l r=>Q (.map (U:=UU) ET.C m::l) r
 law f v r Q h e:=by
  split at e
  ·have:=s.law _ _ r _ (h _) e;exact this
  ·cases e
 len f v r e:=by
  split at e
  ·simp [s.len _ _ r e]
  ·cases e
noncomputable def cI:Cd where
 D ρ:=Int→ρ
 k r:=fun _=>r
 dec f:=fun| .int .i64 n=>some (f n)|_=> .none
 A f Q:= ∀n:Int,Q (iI n) (f n)
 law f v r Q h e:=by split at e<;>cases e;exact h _
noncomputable def cU:Cd where
 D ρ:=Int→ρ
 k r:=fun _=>r
 dec f:=fun| .int .u32 n=>some (f n)|_=> .none
 A f Q:= ∀n:Int,Q (iU n) (f n)
 law f v r Q h e:=by split at e<;>cases e;exact h _
noncomputable def cN (kd:IntKind):Cd where
 D ρ:=Int→ρ
 k r:=fun _=>r
 dec f:=fun| .int q n=>(match decEq q kd with| .isTrue _=>some (f n)| .isFalse _=> .none)|_=> .none
 A f Q:= ∀n:Int,Q (.int kd n) (f n)
 law f v r Q h e:=by
  split at e
  ·split at e
   ·rename_i hq _;subst hq;cases e;exact h _
   ·cases e
  ·cases e
noncomputable def cb:Cd where
 D ρ:=Bool→ρ
 k r:=fun _=>r
 dec f:=fun| .bool n=>some (f n)|_=> .none
 A f Q:= ∀n:Bool,Q (.bool n) (f n)
 law f v r Q h e:=by split at e<;>cases e;exact h _
noncomputable def cs:Cd where
 D ρ:=ByteArray→ρ
 k r:=fun _=>r
 dec f:=fun| .str n=>some (f n)|_=> .none
 A f Q:= ∀n:ByteArray,Q (.str n) (f n)
 law f v r Q h e:=by split at e<;>cases e;exact h _
noncomputable def lC:Cd where
 D ρ:=List Cl→ρ
 k r:=fun _=>r
 dec f:=fun| .sl .C n .none=>some (f n)|_=> .none
 A f Q:= ∀n:List Cl,Q (sC n) (f n)
 law f v r Q h e:=by split at e<;>cases e;exact h _
noncomputable def lT:Cd where
 D ρ:=List Tm→ρ
 k r:=fun _=>r
 dec f:=fun| .sl .T n .none=>some (f n)|_=> .none
 A f Q:= ∀n:List Tm,Q (sT n) (f n)
 law f v r Q h e:=by split at e<;>cases e;exact h _
noncomputable def lB:Cd where
 D ρ:=List (Br Tm)→ρ
 k r:=fun _=>r
 dec f:=fun| .sl .B n .none=>some (f n)|_=> .none
 A f Q:= ∀n:List (Br Tm),Q (sB n) (f n)
 law f v r Q h e:=by split at e<;>cases e;exact h _
noncomputable def lI:Cd where
 D ρ:=List Int→ρ
 k r:=fun _=>r
 dec f:=fun| .sl .I n .none=>some (f n)|_=> .none
 A f Q:= ∀n:List Int,Q (mb n .none) (f n)
 law f v r Q h e:=by split at e<;>cases e;exact h _
noncomputable def lF:Cd where
 D ρ:=List (List Cl)→ρ
 k r:=fun _=>r
 dec f:=fun| .sl .F n .none=>some (f n)|_=> .none
 A f Q:= ∀n:List (List Cl),Q (zP n .none) (f n)
 law f v r Q h e:=by split at e<;>cases e;exact h _
noncomputable def hC:Cd where
 D ρ:=List Cl→ρ
 k r:=fun _=>r
 dec f:=fun| .fresh .C n=>some (f n)|_=> .none
 A f Q:= ∀n:List Cl,Q (CF n) (f n)
 law f v r Q h e:=by split at e<;>cases e;exact h _
noncomputable def cT:Cd where
 D ρ:=Tm→ρ
 k r:=fun _=>r
 dec f:=fun| .agg [.int .i64 a,.int .i64 b,.str c,.sl .C d .none,.sl .T e .none,.sl .B g .none]=>some (f (Tm.mk a b c d e g))|_=> .none
 A f Q:= ∀t:Tm,Q (aT t) (f t)
 law f v r Q h e:=by split at e<;>cases e;exact h (Tm.mk _ _ _ _ _ _)
noncomputable def cC:Cd where
 D ρ:=Cl→ρ
 k r:=fun _=>r
 dec f:=fun| .agg [.int .u32 a,.int .u32 b]=>some (f ⟨a,b⟩)|_=> .none
 A f Q:= ∀t:Cl,Q (aC t) (f t)
 law f v r Q h e:=by split at e<;>cases e;exact h (⟨_,_⟩)
noncomputable def cB:Cd where
 D ρ:=Br Tm→ρ
 k r:=fun _=>r
 dec f:=fun| .agg [.sl .C a .none,.sl .T b .none]=>some (f (Br.mk a b))|_=> .none
 A f Q:= ∀t:Br Tm,Q (aB t) (f t)
 law f v r Q h e:=by split at e<;>cases e;exact h (Br.mk _ _)
noncomputable def xT (s:Bs):Bs where
 D ρ:=Tm→s.D ρ
 n:=s.n+1
 k r:=fun _=>s.k r
 dec f:=fun| .cells [.int .i64 a,.int .i64 b,.str c,.sl .C d .none,.sl .T e .none,.sl .B g .none]::l=>s.dec (f (Tm.mk a b c d e g)) l|_=> .none
 A f Q:= ∀t:Tm,s.A (f t) fun l r=>Q (bT t::l) r
 law f v r Q h e:=by
  split at e
  ·have:=s.law _ _ r _ (h (Tm.mk _ _ _ _ _ _)) e;exact this
  ·cases e
 len f v r e:=by
  split at e
  ·simp [s.len _ _ r e]
  ·cases e
noncomputable def xC (s:Bs):Bs where
 D ρ:=Cl→s.D ρ
 n:=s.n+1
 k r:=fun _=>s.k r
 dec f:=fun| .cells [.int .u32 a,.int .u32 b]::l=>s.dec (f ⟨a,b⟩) l|_=> .none
 A f Q:= ∀t:Cl,s.A (f t) fun l r=>Q (bC t::l) r
 law f v r Q h e:=by
  split at e
  ·have:=s.law _ _ r _ (h (⟨_,_⟩)) e;exact this
  ·cases e
 len f v r e:=by
  split at e
  ·simp [s.len _ _ r e]
  ·cases e
noncomputable def xB (s:Bs):Bs where
 D ρ:=Br Tm→s.D ρ
 n:=s.n+1
 k r:=fun _=>s.k r
 dec f:=fun| .cells [.sl .C a .none,.sl .T b .none]::l=>s.dec (f (Br.mk a b)) l|_=> .none
 A f Q:= ∀t:Br Tm,s.A (f t) fun l r=>Q (bB t::l) r
 law f v r Q h e:=by
  split at e
  ·have:=s.law _ _ r _ (h (Br.mk _ _)) e;exact this
  ·cases e
 len f v r e:=by
  split at e
  ·simp [s.len _ _ r e]
  ·cases e
noncomputable def xI (s:Bs):Bs where
 D ρ:=Int→s.D ρ
 n:=s.n+1
 k r:=fun _=>s.k r
 dec f:=fun| .cells [.int .i64 a]::l=>s.dec (f a) l|_=> .none
 A f Q:= ∀t:Int,s.A (f t) fun l r=>Q (bI t::l) r
 law f v r Q h e:=by
  split at e
  ·have:=s.law _ _ r _ (h _) e;exact this
  ·cases e
 len f v r e:=by
  split at e
  ·simp [s.len _ _ r e]
  ·cases e
noncomputable def cp (i:Nat):Cd where
 D ρ:=ρ
 k r:=r
 dec f:=fun| .ptr j 0=>(match decEq j i with| .isTrue _=>some f| .isFalse _=> .none)|_=> .none
 A f Q:=Q (pt i) f
 law f v r Q h e:=by
  split at e
  ·split at e
   ·rename_i hq _;subst hq;cases e;exact h
   ·cases e
  ·cases e
noncomputable def cg (s:Cs):Cd where
 D ρ:=s.D ρ
 k r:=s.k r
 dec f:=fun| .agg l=>s.dec f l|_=> .none
 A f Q:=s.A f fun l r=>Q (.agg l) r
 law f v r Q h e:=by
  split at e
  ·have:=s.law f _ r _ h e;exact this
  ·cases e
noncomputable def cf (i:Nat) (s:Cs) (u:Cs):Cd where
 D ρ:=s.D (u.D ρ)
 k r:=s.k (u.k r)
 dec f:=fun| .func j l m=>(match decEq j i with| .isTrue _=>(s.dec f l).bind fun g=>u.dec g m| .isFalse _=> .none)|_=> .none
 A f Q:=s.A f fun l g=>u.A g fun m r=>Q (.func i l m) r
 law f v r Q h e:=by
  split at e
  ·split at e
   ·rename_i hq _
    subst hq
    obtain ⟨g,h1,h2⟩:=Option.bind_eq_some_iff.1 e
    have:=u.law g _ r _ (s.law f _ g _ h h1) h2;exact this
   ·cases e
  ·cases e
noncomputable def ah {S:Type} (K:Cs) (B:Bs) (F:K.D (B.D (Kn S))):Rw S:=fun vs bs κ=>(K.dec F vs).bind fun g=>(B.dec g bs).bind fun h=>h κ
noncomputable def tl (K:Cs) (B:Bs) (vs:List PU) (bs:List (Box UU)):Bool:=((K.dec (K.k (B.k ())) vs).bind fun g=>B.dec g bs).isSome
noncomputable def AA {S:Type} (K:Cs) (B:Bs) (F:K.D (B.D (Kn S))) (Q:List PU→List (Box UU)→Kn S→Prop):Prop:=K.A F fun vs g=>B.A g fun bs h=>Q vs bs h
theorem DD {S:Type} {K:Cs} {B:Bs} {F:K.D (B.D (Kn S))} {Q:List PU→List (Box UU)→Kn S→Prop} (hA:AA K B F Q) {vs:List PU} {bs:List (Box UU)} {κ:Out UU→Option S} {x:S} (h:ah K B F vs bs κ=some x):
  ∃g,Q vs bs g∧g κ=some x∧vs.length=K.n∧bs.length=B.n:=by
 obtain ⟨g,h1,h2⟩:=Option.bind_eq_some_iff.1 h
 obtain ⟨u,h3,h4⟩:=Option.bind_eq_some_iff.1 h2
 have:=K.law F vs g _ hA h1
 have:=B.law g bs u _ this h3
 exact ⟨u,this,h4,K.len _ _ _ h1,B.len _ _ _ h3⟩
noncomputable def Tl {S:Type} (o:Obj) (f:Nat) (r:Rw S):Prop:= ∀vs bs κ x,r vs bs κ=some x→ ∃out,ca (LL o) f vs bs out∧κ out=some x
noncomputable def ub {S:Type}:List (Nat×Rw S)→Oracle UU S
 |[],_,_,_,_=> .none
 |(g,r)::l,f,vs,bs,κ=>bif Nat.beq f g then r vs bs κ else ub l f vs bs κ
noncomputable def TA {S:Type} (o:Obj):List (Nat×Rw S)→Prop
 |[]=>True
 |(f,r)::l=>Tl o f r∧TA o l
theorem TA.tells {S:Type} {o:Obj}: ∀ {l:List (Nat×Rw S)},TA o l→(ub l).Tells (ca (LL o))
 |[],_,f,vs,bs,κ,x,h=>by cases h
 |(g,r)::l,hl,f,vs,bs,κ,x,h=>by
  unfold ub at h
  cases hb:Nat.beq f g with
  |true=>
   rw [hb] at h
   have:=Nat.eq_of_beq_eq_true hb
   subst this
   exact hl.1 _ _ _ _ h
  |false=>
   rw [hb] at h
   exact TA.tells hl.2 _ _ _ _ _ h
noncomputable def nA {S:Type} (b:List PU→List (Box UU)→Bool) (r q:Rw S):Rw S:=fun vs bs κ=>bif b vs bs then r vs bs κ else q vs bs κ
theorem uh {S:Type} {o:Obj} {f:Nat} {b:List PU→List (Box UU)→Bool} {r q:Rw S} (h1:Tl o f r) (h2:Tl o f q):Tl o f (nA b r q):=fun vs bs κ x h=>by
 unfold nA at h
 rcases Wx h with h|h
 ·exact h1 _ _ _ _ h
 ·exact h2 _ _ _ _ h
structure Fx (S:Type) where
 sd:Side UU
 rows:List (Nat×Rw S)
 loops:List (Nat×Ann×List Bool)
 k:Nat
 fn:Func
 kp:Bool
 hn:List Bool
 nb:Nat
 cd:Option (PU→Oracle UU S)
noncomputable def Hj:List (Nat×Ann×List Bool)→Nat→Option Ann
 |[],_=> .none
 |(i,a,_)::l,n=>bif Nat.beq n i then some a else Hj l n
noncomputable def Dh:List (Nat×Ann×List Bool)→Nat→Ann×List Bool
 |[],_=>(⟨[],[]⟩,[])
 |(i,a)::l,n=>bif Nat.beq n i then a else Dh l n
noncomputable def a6 (rs:List Nat) (bs:List (Nat×Nat)):Ann:=⟨rs.map fun n=>(n,.none),bs.map fun p=>(p.1,List.replicate p.2 .none)⟩
noncomputable def ap:Nat→Nat→List Bool
 |0,_=>[]
 |n+1,b=>Nat.beq (b%2) 1::ap n (b/2)
noncomputable def fx {S:Type} (nt:Nat) (gv:Nat→List Bool) (ip:Nat→Bool) (rows:List (Nat×Rw S)) (loops:List (Nat×Ann×List Bool)) (k:Nat) (fn:Func) (kp:Bool) (hn:List Bool) (nb:Nat):Fx S:=
 ⟨⟨nt,gv,ip,.none,fun _=>false⟩,rows,loops,k,fn,kp,hn,nb,.none⟩
noncomputable def fp {S:Type} (nt:Nat) (rows:List (Nat×Rw S)) (loops:List (Nat×Ann×List Bool)) (k:Nat) (fn:Func) (nb:Nat):Fx S:=fx nt (fun _=>[]) (fun _=>false) rows loops k fn false [] nb
variable {S:Type}
noncomputable def Fx.oc (F:Fx S):Oracle UU S:=ub F.rows
noncomputable def Fx.an (F:Fx S):Nat→Option Ann:=Hj F.loops
noncomputable def Fx.go (F:Fx S) (c:Code) (σ:St UU) (κ:Ex UU→St UU→Option S):Option S:=PI.run VV F.sd F.oc F.an F.k c σ κ
noncomputable def Fx.kt (F:Fx S) (κ:Out UU→Option S) (p:List Bool) (κs:List (St UU→Option S)):Ex UU→St UU→Option S:=match F.cd with
 | .none=>lu VV F.sd F.oc F.an F.k (f_ F.fn) p κs F.an (kF VV F.oc F.kp F.hn F.fn F.nb κ)
 |some C=>Jk VV F.sd F.oc F.an F.k (f_ F.fn) p κs F.an (kF VV F.oc F.kp F.hn F.fn F.nb κ) (kD VV F.oc C F.kp F.hn F.fn F.nb κ)
noncomputable def Fx.run (F:Fx S) (vs:List PU) (bs:List (Box UU)) (κ:Out UU→Option S):Option S:=match F.cd with
 | .none=>qy VV F.sd F.oc F.an F.k F.kp F.hn F.fn vs bs κ
 |some C=>ES VV F.sd F.oc F.an F.k C F.kp F.hn F.fn vs bs κ
noncomputable def Fx.A (F:Fx S) (i:Nat):Ann:=(Dh F.loops i).1
noncomputable def Fx.p (F:Fx S) (i:Nat):List Bool:=(Dh F.loops i).2
noncomputable def Fx.lp (F:Fx S) (κ:Out UU→Option S) (i:Nat) (κs:List (St UU→Option S)) (n:Nat) (σ:St UU):Option S:=
 tF (dQ (F.A i)) (fun σ κ=>F.go (iM (f_ F.fn) (F.p i++[false])) σ κ) n σ (F.kt κ (F.p i) κs)
noncomputable def Fx.st (F:Fx S) (κ:Out UU→Option S) (i:Nat) (κs:List (St UU→Option S)) (r:St UU→Option S) (σ:St UU):Option S:=
 F.go (iM (f_ F.fn) (F.p i++[false])) σ (back (dQ (F.A i)) r (F.kt κ (F.p i) κs))
noncomputable def Fx.jn (F:Fx S) (κ:Out UU→Option S) (i:Nat) (κs:List (St UU→Option S)) (n:Nat) (σ:St UU):Option S:=
 CU (fun σ κ=>F.go (iM (f_ F.fn) (F.p i)) σ κ) n σ (F.kt κ (F.p i) κs)
noncomputable def Fx.sj (F:Fx S) (κ:Out UU→Option S) (i:Nat) (κs:List (St UU→Option S)) (σ:St UU):Option S:=F.go (iM (f_ F.fn) (F.p i)) σ (F.kt κ (F.p i) κs)
theorem Fx.lp_succ (F:Fx S) (κ:Out UU→Option S) (i:Nat) (κs:List (St UU→Option S)) (n:Nat) (σ:St UU):F.lp κ i κs (n+1) σ=F.st κ i κs (fun τ=>F.lp κ i κs n τ) σ:=rfl
theorem Fx.jn_succ (F:Fx S) (κ:Out UU→Option S) (i:Nat) (κs:List (St UU→Option S)) (n:Nat) (σ:St UU):F.jn κ i κs (n+1) σ=F.sj κ i κs σ:=rfl
noncomputable def uc (F:Fx S) (n m:Nat):Bool:=(F.fn.name== "runtime.NumGoroutine")==false&&(F.fn.body.isNone==false&&(Nat.beq F.fn.ntmps F.sd.nt&&(Nat.ble F.sd.nt 1000000&&(Nat.ble n F.sd.nt&&Nat.ble m 1000000))))
theorem DJ {F:Fx S} {n m:Nat} (h:uc F n m=true):(F.fn.name== "runtime.NumGoroutine")=false∧F.fn.body.isNone=false∧F.fn.ntmps=F.sd.nt∧F.sd.nt≤1000000∧n≤F.sd.nt∧m≤1000000:=by
 unfold uc at h
 simp only [Bool.and_eq_true,beq_iff_eq] at h
 obtain ⟨h1,h2,h3,h4,h5,h6⟩:=h
 exact ⟨h1,h2,Nat.eq_of_beq_eq_true h3,Nat.le_of_ble_eq_true h4,Nat.le_of_ble_eq_true h5,Nat.le_of_ble_eq_true h6⟩
theorem ai {o:Obj} {K:Cs} {B:Bs} {R:K.D (B.D (Kn S))} (F:Fx S) {f:FuncId} (ht:TA o F.rows) (hf:Tryz.prog.funcs[f]? =some F.fn) (hb:uc F K.n B.n=true) (run:AA K B R fun vs bs g=> ∀κ x,g κ=some x→F.run vs bs κ=some x)
  (h1:F.sd.rcv= .none:=by rfl) (h2:F.sd.pin=(fun _=>false):=by rfl) (h3:F.cd= .none:=by rfl):Tl o f (ah K B R):=fun vs bs κ x h=>by
 obtain ⟨g,hg,hx,hl,hm⟩:=DD run h
 have hr:=hg κ x hx
 unfold Fx.run at hr
 rw [h3] at hr
 obtain ⟨b1,b2,b3,b4,b5,b6⟩:=DJ hb
 exact sw (NQ yJ (yq o) h1 h2 ht.tells hf b1 b2 b3 b4 (by omega) hr)
theorem e9 {o:Obj} {K:Cs} {B:Bs} {R:K.D (B.D (Kn S))} {f:FuncId} (h0:AA K B R fun vs bs g=> ∀κ x,g κ=some x→False):Tl o f (ah K B R):=fun vs bs κ x h=>by
 obtain ⟨g,hg,hx,_⟩:=DD h0 h
 exact (hg κ x hx).elim
noncomputable def wC (nt f:Nat) (fn:Func) (k:Nat):PU→Oracle UU S:=fun v g vs bs κ=>bif Nat.beq g f&&Nat.ble vs.length nt then EU VV ⟨nt,fun _=>[],fun _=>false,.none,fun _=>false⟩ (ub []) (fun _=> .none) k true [] fn v vs bs κ else .none
theorem Hx (o:Obj) {nt f:Nat} {fn:Func} {k:Nat} (hf:Tryz.prog.funcs[f]? =some fn) (hb:uc (fp nt [] [] k fn 0:Fx S) 0 0=true): ∀v u u',RcvOK v u u'→(wC (S:=S) nt f fn k v).Tells (jE (LL o) (kG Tryz.prog u u')):=by
 intro v u u' hv g vs bs κ x h
 unfold wC at h
 cases hc:Nat.beq g f&&Nat.ble vs.length nt with
 |false=>rw [hc] at h;cases h
 |true=>
  rw [hc] at h
  rw [Bool.and_eq_true] at hc
  have:=Nat.eq_of_beq_eq_true hc.1
  subst this
  obtain ⟨b1,b2,b3,b4,_,_⟩:=DJ hb
  exact sw (aee yJ (yq o) rfl rfl (TA.tells (l:=[]) (o:=o) trivial) hf b1 b2 b3 b4 hv (Nat.le_of_ble_eq_true hc.2) h)
theorem Ra {o:Obj} {K:Cs} {B:Bs} {R:K.D (B.D (Kn S))} (F:Fx S) {f:FuncId} {C:PU→Oracle UU S} (h3:F.cd=some C) (hC: ∀v u u',RcvOK v u u'→(C v).Tells (jE (LL o) (kG Tryz.prog u u'))) (ht:TA o F.rows) (hf:Tryz.prog.funcs[f]? =some F.fn) (hb:uc F K.n B.n=true)
  (run:AA K B R fun vs bs g=> ∀κ x,g κ=some x→F.run vs bs κ=some x) (h1:F.sd.rcv= .none:=by rfl):Tl o f (ah K B R):=fun vs bs κ x h=>by
 obtain ⟨g,hg,hx,hl,hm⟩:=DD run h
 have hr:=hg κ x hx
 unfold Fx.run at hr
 rw [h3] at hr
 obtain ⟨b1,b2,b3,b4,b5,b6⟩:=DJ hb
 exact sw (aec yJ (yq o) h1 ht.tells hC hf b1 b2 b3 b4 (by omega) (by omega) hr)
theorem lp0 {F:Fx S} {κ:Out UU→Option S} {i:Nat} {κs:List (St UU→Option S)} {mk:St UU} {l:Nat→Option S} (b:(Option S)→Option S) (h0:l 0= .none) (hs: ∀n,l (n+1)=b (l n)) (B: ∀ (r:St UU→Option S),F.st κ i κs r mk=b (r mk)): ∀ (n:Nat),F.lp κ i κs n mk=l n:=by
 intro n
 induction n with
 |zero=>intros;rw [h0];rfl
 |succ n ih=>
  intros
  rw [hs,Fx.lp_succ,B]
  exact congrArg (fun g=>b g) ih
theorem lm {F:Fx S} {κ:Out UU→Option S} {i:Nat} {κs:List (St UU→Option S)} {mk:St UU} {l:Nat→Option S} (b:Option S) (h0:l 0= .none) (hs: ∀n,l (n+1)=b) (B:F.sj κ i κs mk=b): ∀ (n:Nat),F.jn κ i κs n mk=l n:=by
 intro n
 cases n with
 |zero=>intros;rw [h0];rfl
 |succ n=>intros;rw [hs,Fx.jn_succ];exact B
theorem ct {F:Fx S} {κ:Out UU→Option S} {i:Nat} {κs:List (St UU→Option S)} {α0:Type} {mk:α0→St UU} {l:Nat→α0→Option S} (b:(α0→Option S)→α0→Option S) (h0:l 0=fun x0=> .none) (hs: ∀n,l (n+1)=b (l n)) (B: ∀ (r:St UU→Option S) x0,F.st κ i κs r (mk x0)=b (fun x0=>r (mk x0)) x0): ∀ (n:Nat) x0,F.lp κ i κs n (mk x0)=l n x0:=by
 intro n
 induction n with
 |zero=>intros;rw [h0];rfl
 |succ n ih=>
  intros
  rw [hs,Fx.lp_succ,B]
  exact congrArg (fun g=>b g _) (funext fun x0=>ih x0)
theorem tu {F:Fx S} {κ:Out UU→Option S} {i:Nat} {κs:List (St UU→Option S)} {α0:Type} {mk:α0→St UU} {l:Nat→α0→Option S} (b:α0→Option S) (h0:l 0=fun x0=> .none) (hs: ∀n,l (n+1)=b) (B: ∀x0,F.sj κ i κs (mk x0)=b x0): ∀ (n:Nat) x0,F.jn κ i κs n (mk x0)=l n x0:=by
 intro n
 cases n with
 |zero=>intros;rw [h0];rfl
 |succ n=>intros;rw [hs,Fx.jn_succ];exact B _
theorem aV {F:Fx S} {κ:Out UU→Option S} {i:Nat} {κs:List (St UU→Option S)} {α0 α1:Type} {mk:α0→α1→St UU} {l:Nat→α0→α1→Option S} (b:(α0→α1→Option S)→α0→α1→Option S) (h0:l 0=fun x0 x1=> .none) (hs: ∀n,l (n+1)=b (l n)) (B: ∀ (r:St UU→Option S) x0 x1,F.st κ i κs r (mk x0 x1)=b (fun x0 x1=>r (mk x0 x1)) x0 x1): ∀ (n:Nat) x0 x1,F.lp κ i κs n (mk x0 x1)=l n x0 x1:=by
 intro n
 induction n with
 |zero=>intros;rw [h0];rfl
 |succ n ih=>
  intros
  rw [hs,Fx.lp_succ,B]
  exact congrArg (fun g=>b g _ _) (funext fun x0=>funext fun x1=>ih x0 x1)
theorem IZ {F:Fx S} {κ:Out UU→Option S} {i:Nat} {κs:List (St UU→Option S)} {α0 α1:Type} {mk:α0→α1→St UU} {l:Nat→α0→α1→Option S} (b:α0→α1→Option S) (h0:l 0=fun x0 x1=> .none) (hs: ∀n,l (n+1)=b) (B: ∀x0 x1,F.sj κ i κs (mk x0 x1)=b x0 x1): ∀ (n:Nat) x0 x1,F.jn κ i κs n (mk x0 x1)=l n x0 x1:=by
 intro n
 cases n with
 |zero=>intros;rw [h0];rfl
 |succ n=>intros;rw [hs,Fx.jn_succ];exact B _ _
theorem jj {F:Fx S} {κ:Out UU→Option S} {i:Nat} {κs:List (St UU→Option S)} {α0 α1 α2:Type} {mk:α0→α1→α2→St UU} {l:Nat→α0→α1→α2→Option S} (b:(α0→α1→α2→Option S)→α0→α1→α2→Option S) (h0:l 0=fun x0 x1 x2=> .none) (hs: ∀n,l (n+1)=b (l n)) (B: ∀ (r:St UU→Option S) x0 x1 x2,F.st κ i κs r (mk x0 x1 x2)=b (fun x0 x1 x2=>r (mk x0 x1 x2)) x0 x1 x2): ∀ (n:Nat) x0 x1 x2,F.lp κ i κs n (mk x0 x1 x2)=l n x0 x1 x2:=by
 intro n
 induction n with
 |zero=>intros;rw [h0];rfl
 |succ n ih=>
  intros
  rw [hs,Fx.lp_succ,B]
  exact congrArg (fun g=>b g _ _ _) (funext fun x0=>funext fun x1=>funext fun x2=>ih x0 x1 x2)
theorem jn3 {F:Fx S} {κ:Out UU→Option S} {i:Nat} {κs:List (St UU→Option S)} {α0 α1 α2:Type} {mk:α0→α1→α2→St UU} {l:Nat→α0→α1→α2→Option S} (b:α0→α1→α2→Option S) (h0:l 0=fun x0 x1 x2=> .none) (hs: ∀n,l (n+1)=b) (B: ∀x0 x1 x2,F.sj κ i κs (mk x0 x1 x2)=b x0 x1 x2): ∀ (n:Nat) x0 x1 x2,F.jn κ i κs n (mk x0 x1 x2)=l n x0 x1 x2:=by
 intro n
 cases n with
 |zero=>intros;rw [h0];rfl
 |succ n=>intros;rw [hs,Fx.jn_succ];exact B _ _ _
theorem lp4 {F:Fx S} {κ:Out UU→Option S} {i:Nat} {κs:List (St UU→Option S)} {α0 α1 α2 α3:Type} {mk:α0→α1→α2→α3→St UU} {l:Nat→α0→α1→α2→α3→Option S} (b:(α0→α1→α2→α3→Option S)→α0→α1→α2→α3→Option S) (h0:l 0=fun x0 x1 x2 x3=> .none) (hs: ∀n,l (n+1)=b (l n)) (B: ∀ (r:St UU→Option S) x0 x1 x2 x3,F.st κ i κs r (mk x0 x1 x2 x3)=b (fun x0 x1 x2 x3=>r (mk x0 x1 x2 x3)) x0 x1 x2 x3): ∀ (n:Nat) x0 x1 x2 x3,F.lp κ i κs n (mk x0 x1 x2 x3)=l n x0 x1 x2 x3:=by
 intro n
 induction n with
 |zero=>intros;rw [h0];rfl
 |succ n ih=>
  intros
  rw [hs,Fx.lp_succ,B]
  exact congrArg (fun g=>b g _ _ _ _) (funext fun x0=>funext fun x1=>funext fun x2=>funext fun x3=>ih x0 x1 x2 x3)
theorem jn4 {F:Fx S} {κ:Out UU→Option S} {i:Nat} {κs:List (St UU→Option S)} {α0 α1 α2 α3:Type} {mk:α0→α1→α2→α3→St UU} {l:Nat→α0→α1→α2→α3→Option S} (b:α0→α1→α2→α3→Option S) (h0:l 0=fun x0 x1 x2 x3=> .none) (hs: ∀n,l (n+1)=b) (B: ∀x0 x1 x2 x3,F.sj κ i κs (mk x0 x1 x2 x3)=b x0 x1 x2 x3): ∀ (n:Nat) x0 x1 x2 x3,F.jn κ i κs n (mk x0 x1 x2 x3)=l n x0 x1 x2 x3:=by
 intro n
 cases n with
 |zero=>intros;rw [h0];rfl
 |succ n=>intros;rw [hs,Fx.jn_succ];exact B _ _ _ _
theorem lp5 {F:Fx S} {κ:Out UU→Option S} {i:Nat} {κs:List (St UU→Option S)} {α0 α1 α2 α3 α4:Type} {mk:α0→α1→α2→α3→α4→St UU} {l:Nat→α0→α1→α2→α3→α4→Option S} (b:(α0→α1→α2→α3→α4→Option S)→α0→α1→α2→α3→α4→Option S) (h0:l 0=fun x0 x1 x2 x3 x4=> .none) (hs: ∀n,l (n+1)=b (l n)) (B: ∀ (r:St UU→Option S) x0 x1 x2 x3 x4,F.st κ i κs r (mk x0 x1 x2 x3 x4)=b (fun x0 x1 x2 x3 x4=>r (mk x0 x1 x2 x3 x4)) x0 x1 x2 x3 x4): ∀ (n:Nat) x0 x1 x2 x3 x4,F.lp κ i κs n (mk x0 x1 x2 x3 x4)=l n x0 x1 x2 x3 x4:=by
 intro n
 induction n with
 |zero=>intros;rw [h0];rfl
 |succ n ih=>
  intros
  rw [hs,Fx.lp_succ,B]
  exact congrArg (fun g=>b g _ _ _ _ _) (funext fun x0=>funext fun x1=>funext fun x2=>funext fun x3=>funext fun x4=>ih x0 x1 x2 x3 x4)
theorem jn5 {F:Fx S} {κ:Out UU→Option S} {i:Nat} {κs:List (St UU→Option S)} {α0 α1 α2 α3 α4:Type} {mk:α0→α1→α2→α3→α4→St UU} {l:Nat→α0→α1→α2→α3→α4→Option S} (b:α0→α1→α2→α3→α4→Option S) (h0:l 0=fun x0 x1 x2 x3 x4=> .none) (hs: ∀n,l (n+1)=b) (B: ∀x0 x1 x2 x3 x4,F.sj κ i κs (mk x0 x1 x2 x3 x4)=b x0 x1 x2 x3 x4): ∀ (n:Nat) x0 x1 x2 x3 x4,F.jn κ i κs n (mk x0 x1 x2 x3 x4)=l n x0 x1 x2 x3 x4:=by
 intro n
 cases n with
 |zero=>intros;rw [h0];rfl
 |succ n=>intros;rw [hs,Fx.jn_succ];exact B _ _ _ _ _
theorem lp6 {F:Fx S} {κ:Out UU→Option S} {i:Nat} {κs:List (St UU→Option S)} {α0 α1 α2 α3 α4 α5:Type} {mk:α0→α1→α2→α3→α4→α5→St UU} {l:Nat→α0→α1→α2→α3→α4→α5→Option S} (b:(α0→α1→α2→α3→α4→α5→Option S)→α0→α1→α2→α3→α4→α5→Option S) (h0:l 0=fun x0 x1 x2 x3 x4 x5=> .none) (hs: ∀n,l (n+1)=b (l n)) (B: ∀ (r:St UU→Option S) x0 x1 x2 x3 x4 x5,F.st κ i κs r (mk x0 x1 x2 x3 x4 x5)=b (fun x0 x1 x2 x3 x4 x5=>r (mk x0 x1 x2 x3 x4 x5)) x0 x1 x2 x3 x4 x5): ∀ (n:Nat) x0 x1 x2 x3 x4 x5,F.lp κ i κs n (mk x0 x1 x2 x3 x4 x5)=l n x0 x1 x2 x3 x4 x5:=by
 intro n
 induction n with
 |zero=>intros;rw [h0];rfl
 |succ n ih=>
  intros
  rw [hs,Fx.lp_succ,B]
  exact congrArg (fun g=>b g _ _ _ _ _ _) (funext fun x0=>funext fun x1=>funext fun x2=>funext fun x3=>funext fun x4=>funext fun x5=>ih x0 x1 x2 x3 x4 x5)
theorem jn6 {F:Fx S} {κ:Out UU→Option S} {i:Nat} {κs:List (St UU→Option S)} {α0 α1 α2 α3 α4 α5:Type} {mk:α0→α1→α2→α3→α4→α5→St UU} {l:Nat→α0→α1→α2→α3→α4→α5→Option S} (b:α0→α1→α2→α3→α4→α5→Option S) (h0:l 0=fun x0 x1 x2 x3 x4 x5=> .none) (hs: ∀n,l (n+1)=b) (B: ∀x0 x1 x2 x3 x4 x5,F.sj κ i κs (mk x0 x1 x2 x3 x4 x5)=b x0 x1 x2 x3 x4 x5): ∀ (n:Nat) x0 x1 x2 x3 x4 x5,F.jn κ i κs n (mk x0 x1 x2 x3 x4 x5)=l n x0 x1 x2 x3 x4 x5:=by
 intro n
 cases n with
 |zero=>intros;rw [h0];rfl
 |succ n=>intros;rw [hs,Fx.jn_succ];exact B _ _ _ _ _ _
theorem lp7 {F:Fx S} {κ:Out UU→Option S} {i:Nat} {κs:List (St UU→Option S)} {α0 α1 α2 α3 α4 α5 α6:Type} {mk:α0→α1→α2→α3→α4→α5→α6→St UU} {l:Nat→α0→α1→α2→α3→α4→α5→α6→Option S} (b:(α0→α1→α2→α3→α4→α5→α6→Option S)→α0→α1→α2→α3→α4→α5→α6→Option S) (h0:l 0=fun x0 x1 x2 x3 x4 x5 x6=> .none) (hs: ∀n,l (n+1)=b (l n)) (B: ∀ (r:St UU→Option S) x0 x1 x2 x3 x4 x5 x6,F.st κ i κs r (mk x0 x1 x2 x3 x4 x5 x6)=b (fun x0 x1 x2 x3 x4 x5 x6=>r (mk x0 x1 x2 x3 x4 x5 x6)) x0 x1 x2 x3 x4 x5 x6): ∀ (n:Nat) x0 x1 x2 x3 x4 x5 x6,F.lp κ i κs n (mk x0 x1 x2 x3 x4 x5 x6)=l n x0 x1 x2 x3 x4 x5 x6:=by
 intro n
 induction n with
 |zero=>intros;rw [h0];rfl
 |succ n ih=>
  intros
  rw [hs,Fx.lp_succ,B]
  exact congrArg (fun g=>b g _ _ _ _ _ _ _) (funext fun x0=>funext fun x1=>funext fun x2=>funext fun x3=>funext fun x4=>funext fun x5=>funext fun x6=>ih x0 x1 x2 x3 x4 x5 x6)
theorem jn7 {F:Fx S} {κ:Out UU→Option S} {i:Nat} {κs:List (St UU→Option S)} {α0 α1 α2 α3 α4 α5 α6:Type} {mk:α0→α1→α2→α3→α4→α5→α6→St UU} {l:Nat→α0→α1→α2→α3→α4→α5→α6→Option S} (b:α0→α1→α2→α3→α4→α5→α6→Option S) (h0:l 0=fun x0 x1 x2 x3 x4 x5 x6=> .none) (hs: ∀n,l (n+1)=b) (B: ∀x0 x1 x2 x3 x4 x5 x6,F.sj κ i κs (mk x0 x1 x2 x3 x4 x5 x6)=b x0 x1 x2 x3 x4 x5 x6): ∀ (n:Nat) x0 x1 x2 x3 x4 x5 x6,F.jn κ i κs n (mk x0 x1 x2 x3 x4 x5 x6)=l n x0 x1 x2 x3 x4 x5 x6:=by
 intro n
 cases n with
 |zero=>intros;rw [h0];rfl
 |succ n=>intros;rw [hs,Fx.jn_succ];exact B _ _ _ _ _ _ _
theorem lp8 {F:Fx S} {κ:Out UU→Option S} {i:Nat} {κs:List (St UU→Option S)} {α0 α1 α2 α3 α4 α5 α6 α7:Type} {mk:α0→α1→α2→α3→α4→α5→α6→α7→St UU} {l:Nat→α0→α1→α2→α3→α4→α5→α6→α7→Option S} (b:(α0→α1→α2→α3→α4→α5→α6→α7→Option S)→α0→α1→α2→α3→α4→α5→α6→α7→Option S) (h0:l 0=fun x0 x1 x2 x3 x4 x5 x6 x7=> .none) (hs: ∀n,l (n+1)=b (l n)) (B: ∀ (r:St UU→Option S) x0 x1 x2 x3 x4 x5 x6 x7,F.st κ i κs r (mk x0 x1 x2 x3 x4 x5 x6 x7)=b (fun x0 x1 x2 x3 x4 x5 x6 x7=>r (mk x0 x1 x2 x3 x4 x5 x6 x7)) x0 x1 x2 x3 x4 x5 x6 x7): ∀ (n:Nat) x0 x1 x2 x3 x4 x5 x6 x7,F.lp κ i κs n (mk x0 x1 x2 x3 x4 x5 x6 x7)=l n x0 x1 x2 x3 x4 x5 x6 x7:=by
 intro n
 induction n with
 |zero=>intros;rw [h0];rfl
 |succ n ih=>
  intros
  rw [hs,Fx.lp_succ,B]
  exact congrArg (fun g=>b g _ _ _ _ _ _ _ _) (funext fun x0=>funext fun x1=>funext fun x2=>funext fun x3=>funext fun x4=>funext fun x5=>funext fun x6=>funext fun x7=>ih x0 x1 x2 x3 x4 x5 x6 x7)
theorem jn8 {F:Fx S} {κ:Out UU→Option S} {i:Nat} {κs:List (St UU→Option S)} {α0 α1 α2 α3 α4 α5 α6 α7:Type} {mk:α0→α1→α2→α3→α4→α5→α6→α7→St UU} {l:Nat→α0→α1→α2→α3→α4→α5→α6→α7→Option S} (b:α0→α1→α2→α3→α4→α5→α6→α7→Option S) (h0:l 0=fun x0 x1 x2 x3 x4 x5 x6 x7=> .none) (hs: ∀n,l (n+1)=b) (B: ∀x0 x1 x2 x3 x4 x5 x6 x7,F.sj κ i κs (mk x0 x1 x2 x3 x4 x5 x6 x7)=b x0 x1 x2 x3 x4 x5 x6 x7): ∀ (n:Nat) x0 x1 x2 x3 x4 x5 x6 x7,F.jn κ i κs n (mk x0 x1 x2 x3 x4 x5 x6 x7)=l n x0 x1 x2 x3 x4 x5 x6 x7:=by
 intro n
 cases n with
 |zero=>intros;rw [h0];rfl
 |succ n=>intros;rw [hs,Fx.jn_succ];exact B _ _ _ _ _ _ _ _
theorem lp9 {F:Fx S} {κ:Out UU→Option S} {i:Nat} {κs:List (St UU→Option S)} {α0 α1 α2 α3 α4 α5 α6 α7 α8:Type} {mk:α0→α1→α2→α3→α4→α5→α6→α7→α8→St UU} {l:Nat→α0→α1→α2→α3→α4→α5→α6→α7→α8→Option S} (b:(α0→α1→α2→α3→α4→α5→α6→α7→α8→Option S)→α0→α1→α2→α3→α4→α5→α6→α7→α8→Option S) (h0:l 0=fun x0 x1 x2 x3 x4 x5 x6 x7 x8=> .none) (hs: ∀n,l (n+1)=b (l n)) (B: ∀ (r:St UU→Option S) x0 x1 x2 x3 x4 x5 x6 x7 x8,F.st κ i κs r (mk x0 x1 x2 x3 x4 x5 x6 x7 x8)=b (fun x0 x1 x2 x3 x4 x5 x6 x7 x8=>r (mk x0 x1 x2 x3 x4 x5 x6 x7 x8)) x0 x1 x2 x3 x4 x5 x6 x7 x8): ∀ (n:Nat) x0 x1 x2 x3 x4 x5 x6 x7 x8,F.lp κ i κs n (mk x0 x1 x2 x3 x4 x5 x6 x7 x8)=l n x0 x1 x2 x3 x4 x5 x6 x7 x8:=by
 intro n
 induction n with
 |zero=>intros;rw [h0];rfl
 |succ n ih=>
  intros
  rw [hs,Fx.lp_succ,B]
  exact congrArg (fun g=>b g _ _ _ _ _ _ _ _ _) (funext fun x0=>funext fun x1=>funext fun x2=>funext fun x3=>funext fun x4=>funext fun x5=>funext fun x6=>funext fun x7=>funext fun x8=>ih x0 x1 x2 x3 x4 x5 x6 x7 x8)
theorem jn9 {F:Fx S} {κ:Out UU→Option S} {i:Nat} {κs:List (St UU→Option S)} {α0 α1 α2 α3 α4 α5 α6 α7 α8:Type} {mk:α0→α1→α2→α3→α4→α5→α6→α7→α8→St UU} {l:Nat→α0→α1→α2→α3→α4→α5→α6→α7→α8→Option S} (b:α0→α1→α2→α3→α4→α5→α6→α7→α8→Option S) (h0:l 0=fun x0 x1 x2 x3 x4 x5 x6 x7 x8=> .none) (hs: ∀n,l (n+1)=b) (B: ∀x0 x1 x2 x3 x4 x5 x6 x7 x8,F.sj κ i κs (mk x0 x1 x2 x3 x4 x5 x6 x7 x8)=b x0 x1 x2 x3 x4 x5 x6 x7 x8): ∀ (n:Nat) x0 x1 x2 x3 x4 x5 x6 x7 x8,F.jn κ i κs n (mk x0 x1 x2 x3 x4 x5 x6 x7 x8)=l n x0 x1 x2 x3 x4 x5 x6 x7 x8:=by
 intro n
 cases n with
 |zero=>intros;rw [h0];rfl
 |succ n=>intros;rw [hs,Fx.jn_succ];exact B _ _ _ _ _ _ _ _ _
theorem ahp {F:Fx S} {κ:Out UU→Option S} {i:Nat} {κs:List (St UU→Option S)} {α0 α1 α2 α3 α4 α5 α6 α7 α8 α9:Type} {mk:α0→α1→α2→α3→α4→α5→α6→α7→α8→α9→St UU} {l:Nat→α0→α1→α2→α3→α4→α5→α6→α7→α8→α9→Option S} (b:(α0→α1→α2→α3→α4→α5→α6→α7→α8→α9→Option S)→α0→α1→α2→α3→α4→α5→α6→α7→α8→α9→Option S) (h0:l 0=fun x0 x1 x2 x3 x4 x5 x6 x7 x8 x9=> .none) (hs: ∀n,l (n+1)=b (l n)) (B: ∀ (r:St UU→Option S) x0 x1 x2 x3 x4 x5 x6 x7 x8 x9,F.st κ i κs r (mk x0 x1 x2 x3 x4 x5 x6 x7 x8 x9)=b (fun x0 x1 x2 x3 x4 x5 x6 x7 x8 x9=>r (mk x0 x1 x2 x3 x4 x5 x6 x7 x8 x9)) x0 x1 x2 x3 x4 x5 x6 x7 x8 x9): ∀ (n:Nat) x0 x1 x2 x3 x4 x5 x6 x7 x8 x9,F.lp κ i κs n (mk x0 x1 x2 x3 x4 x5 x6 x7 x8 x9)=l n x0 x1 x2 x3 x4 x5 x6 x7 x8 x9:=by
 intro n
 induction n with
 |zero=>intros;rw [h0];rfl
 |succ n ih=>
  intros
  rw [hs,Fx.lp_succ,B]
  exact congrArg (fun g=>b g _ _ _ _ _ _ _ _ _ _) (funext fun x0=>funext fun x1=>funext fun x2=>funext fun x3=>funext fun x4=>funext fun x5=>funext fun x6=>funext fun x7=>funext fun x8=>funext fun x9=>ih x0 x1 x2 x3 x4 x5 x6 x7 x8 x9)
theorem ahe {F:Fx S} {κ:Out UU→Option S} {i:Nat} {κs:List (St UU→Option S)} {α0 α1 α2 α3 α4 α5 α6 α7 α8 α9:Type} {mk:α0→α1→α2→α3→α4→α5→α6→α7→α8→α9→St UU} {l:Nat→α0→α1→α2→α3→α4→α5→α6→α7→α8→α9→Option S} (b:α0→α1→α2→α3→α4→α5→α6→α7→α8→α9→Option S) (h0:l 0=fun x0 x1 x2 x3 x4 x5 x6 x7 x8 x9=> .none) (hs: ∀n,l (n+1)=b) (B: ∀x0 x1 x2 x3 x4 x5 x6 x7 x8 x9,F.sj κ i κs (mk x0 x1 x2 x3 x4 x5 x6 x7 x8 x9)=b x0 x1 x2 x3 x4 x5 x6 x7 x8 x9): ∀ (n:Nat) x0 x1 x2 x3 x4 x5 x6 x7 x8 x9,F.jn κ i κs n (mk x0 x1 x2 x3 x4 x5 x6 x7 x8 x9)=l n x0 x1 x2 x3 x4 x5 x6 x7 x8 x9:=by
 intro n
 cases n with
 |zero=>intros;rw [h0];rfl
 |succ n=>intros;rw [hs,Fx.jn_succ];exact B _ _ _ _ _ _ _ _ _ _
end
end Go.Proofs.YtapmagaejigpnaaGreatDoor
namespace Go.Proofs.YtapmagaejigpnaaGreatDoor
open Go PI
set_option linter.unusedVariables false
set_option maxRecDepth 100000
noncomputable def u7:Side UU:=⟨8,fun _=>[],fun _=>false,.none,fun _=>false⟩
noncomputable def yN {S:Type}:Oracle UU S:=fun _ _ _ _=> .none
theorem c1 {S:Type} (κ:Out UU→Option S):qy VV u7 yN (fun _=> .none) 5 false [] Tryz.f114 [.sl (U:=UU) ET.C [] .void] [] κ=κ (.ret (cE [] .none) []):=by kernel_rfl
theorem c2 {S:Type} (l:List Cl) (κ:Out UU→Option S):qy VV u7 yN (fun _=> .none) 5 false [] Tryz.f114 [.sl (U:=UU) ET.C l .sure] [] κ=Option.bind (ay 1099511627776 0 l.length) fun _=>κ (.ret (cE l .none) []):=by kernel_rfl
theorem adj {S:Type} (o:Obj):(yN (S:=S)).Tells (ca (LL o)):=fun _ _ _ _ _ h=>by cases h
theorem Hy (o:Obj) {args:List PU} (hl:args.length=1) {out:Out UU} (h:qy VV u7 yN (fun _=> .none) 5 false [] Tryz.f114 args [] some=some out):ca (LL o) 114 args [] out:=by
 obtain ⟨out',h1,h2⟩:=NQ yJ (yq o) (S:=u7) rfl rfl (adj o) (f:=114) Tryz.func114 (by kernel_rfl) rfl rfl (by decide) (by rw [hl];decide) h
 injection h1 with h1
 exact h1▸h2
theorem IK {X:Link VV Tryz.prog} {w:World} {vs:Array Value} {N0:aJ} {ν:Nat→Nat} {δ:Nat→Option Nat} {p q:PU} (h:Given X w vs N0 ν δ [p] [])
  (hr:RepG X w (NB N0 0 ν δ) (gB UU 0 ν) (vs.getD 0 undef) (δ 0) p→RepG X w (NB N0 0 ν δ) (gB UU 0 ν) (vs.getD 0 undef) (δ 0) q):Given X w vs N0 ν δ [q] []:=
 {h with
  args:=fun j r hj=>by
   cases j with
   |zero=>
    injection hj with hj
    subst hj
    exact hr (h.args 0 p rfl)
   |succ j=>simp at hj}
theorem WO (o:Obj) (l:List Cl) {u:Unit} (hroom:ay 1099511627776 0 l.length=some u):ca (LL o) 114 [cE l .none] [] (.ret (cE l .none) []):=by
 refine ⟨⟨Tryz.f114,Tryz.func114,by kernel_rfl,rfl⟩,fun w vs N0 ν δ hg=> ?_⟩
 have h0:Rep (LL o) w (NB N0 0 ν δ) (gB UU 0 ν) (vs.getD 0 undef) (cE l .none):=hg.args 0 _ rfl
 generalize hv:vs.getD 0 undef=v at h0
 cases h0 with
 |sl A n c _ _ _ val hl hc _ h1 h2=>
 cases A with
 |none=>
  have hl0:l=[]:=by
   cases l with
   |nil=>rfl
   |cons x r=>
    obtain ⟨a,ha,_⟩:=h1 0 x rfl 0 _ rfl
    cases ha
  subst hl0
  exact (Hy o (args:=[cE [] .void]) rfl (c1 some)).2 w vs N0 ν δ (IK hg fun _=>by
   rw [hv];exact Rep.sl (X:=LL o) none n c ET.C (show List Cl from []) .void val hl hc rfl h1 h2)
 |some a=>
  refine (Hy o (args:=[cE l .sure]) rfl (out:= .ret (cE l .none) []) ((c2 l some).trans (by rw [hroom];rfl))).2 w vs N0 ν δ (IK hg fun _=> ?_)
  rw [hv]
  exact Rep.sl (X:=LL o) (some a) n c ET.C l .sure val hl hc (fun h=>by cases h) h1 h2
theorem agi {S:Type} (o:Obj) (ho:ag o) (vs:List PU) (bs:List (Box UU)) (κ:Out UU→Option S) (x:S) (h:EQ vs bs κ=some x): ∃out,ca (LL o) Zb vs bs out∧κ out=some x:=by
 unfold EQ at h
 split at h
 case h_2=>cases h
 rename_i κ y
 unfold p_ at h
 obtain ⟨u,hr,h⟩:=Option.bind_eq_some_iff.1 h
 exact ⟨_,WO o y hr,h⟩
end Go.Proofs.YtapmagaejigpnaaGreatDoor
namespace Go.Proofs.YtapmagaejigpnaaGreatDoor
open Go PI
set_option linter.unusedVariables false
set_option maxRecDepth 100000
noncomputable section
noncomputable def CV:Cs:=cc cT (cc cI cn)
noncomputable def ln:Cs:=cc cT (cc cT (cc lB cn))
noncomputable def I4:Cs:=cc cI (cc cI cn)
noncomputable def I7:Cs:=cc cT (cc cI (cc cI (cc (cp 0) cn)))
noncomputable def eN:Bs:=xI xn
noncomputable def ZY:Cs:=cc cT (cc (cf 168 cn (cc (cp 0) cn)) cn)
noncomputable def Z5:Cs:=cc cT (cc (cf 170 cn (cc (cp 0) cn)) cn)
noncomputable def RL:Bs:=xc (cc (cf 169 cn (cc (cp 1) (cc (cp 0) cn))) cn) (xI xn)
noncomputable def kX8:Cs:=cc cT (cc (cp 0) (cc (cp 1) cn))
noncomputable def xX9:Bs:=xI (xc (cc (cf 169 cn (cc (cp 0) (cc (cp 1) cn))) cn) xn)
noncomputable def fK:Cs:=cc cT cn
noncomputable def eV:Cs:=cc cI cn
noncomputable def I2:Cs:=cc cs cn
noncomputable def tw:Cs:=cc cU cn
noncomputable def mU:Cs:=cc cC cn
noncomputable def tx:Cs:=cc cC (cc cC cn)
noncomputable def CW:Cs:=cc cC (cc (cp 0) cn)
noncomputable def u4:Bs:=xC xn
noncomputable def I3:Cs:=cc lC (cc (cf 149 cn (cc (cp 0) cn)) cn)
noncomputable def agP:Bs:=xc (cc lC cn) xn
noncomputable def dU:Cs:=cc lC cn
noncomputable def g5:Cs:=cc lC (cc lC cn)
noncomputable def lq:Cs:=cc cU (cc cI cn)
noncomputable def CX:Cs:=cc lC (cc cI cn)
noncomputable def I5:Cs:=cc lC (cc (cf 132 cn cn) cn)
noncomputable def mV:Cs:=cc cT (cc cI (cc cI cn))
noncomputable def I6:Cs:=cc cT (cc cI (cc cI (cc cb cn)))
noncomputable def ZN:Cs:=cc cT (cc cI (cc cI (cc (cp 0) (cc (cp 1) (cc (cp 2) cn)))))
noncomputable def RG:Bs:=xI (xI (xc (cc cb cn) xn))
noncomputable def ZO:Cs:=cc cT (cc (cf 129 cn (cc (cp 0) (cc (cp 1) (cc (cp 2) cn)))) cn)
noncomputable def ZP:Cs:=cc (cp 0) (cc cI cn)
noncomputable def CY:Cs:=cc lT cn
noncomputable def ZQ:Cs:=cc (cp 0) cn
noncomputable def I8:Cs:=cc lF cn
noncomputable def I9:Cs:=cc cU (cc cI (cc cI cn))
noncomputable def I_:Cs:=cc cC (cc cI (cc cI cn))
noncomputable def ZR:Cs:=cc hC (cc cC (cc (cp 0) (cc (cp 1) cn)))
noncomputable def Ae:Bs:=xI (xI xn)
noncomputable def ZS:Cs:=cc lC (cc hC (cc (cf 98 cn (cc (cp 0) (cc (cp 1) cn))) cn))
noncomputable def CZ:Cs:=cc lC (cc cI (cc cI cn))
noncomputable def ZT:Cs:=cc (cp 0) (cc lC cn)
noncomputable def ZU:Cs:=cc (cp 0) (cc lC (cc lC cn))
noncomputable def ZV:Cs:=cc (cg (cc cI (cc cI cn))) (cc lC (cc cI cn))
noncomputable def ZW:Cs:=cc (cg (cc cI (cc cI cn))) (cc cT (cc cI (cc cI cn)))
noncomputable def Ja:Cs:=cc (cp 0) (cc (cp 1) (cc (cp 2) cn))
noncomputable def RH:Bs:=xI (xT (xI xn))
noncomputable def ZX:Cs:=cc cT (cc lI (cc (cf 142 cn (cc (cp 0) (cc (cp 1) (cc (cp 2) cn)))) cn))
noncomputable def C0:Cs:=cc cT (cc cI (cc lC cn))
noncomputable def Jb:Cs:=cc (cf 105 cn cn) (cc (cp 0) (cc (cp 1) cn))
noncomputable def u5:Bs:=xI (xc (cc lC cn) xn)
noncomputable def ZZ:Cs:=cc (cf 106 cn cn) (cc (cp 0) (cc (cp 1) cn))
noncomputable def Z0:Cs:=cc cI (cc lC cn)
noncomputable def Z1:Cs:=cc lC (cc (cf 200 cn cn) cn)
noncomputable def Z2:Cs:=cc lC (cc (cf 201 cn (cc (cp 0) cn)) cn)
noncomputable def Jc:Cs:=cc lC (cc cC cn)
noncomputable def Z3:Cs:=cc lC (cc lC (cc (cf 197 cn cn) cn))
noncomputable def yv:Cs:=cc lC (cc cI (cc lC cn))
noncomputable def C1:Cs:=cc lC (cc cI (cc (cp 0) (cc (cp 1) (cc (cp 2) cn))))
noncomputable def agQ:Bs:=xI (xc (cc lC cn) (xc (cc (cf 106 cn cn) cn) xn))
noncomputable def Z4:Cs:=cc lC (cc cC (cc (cp 0) (cc (cp 1) cn)))
noncomputable def Z6:Cs:=cc lC (cc lC (cc (cf 154 cn (cc (cp 0) (cc (cp 1) cn))) cn))
noncomputable def RI:Bs:=xI (xc (cc lC cn) (xc (cc (cf 105 cn cn) cn) xn))
noncomputable def C2:Cs:=cc (cg (cc (cf 102 cn (cc (cp 0) (cc (cp 1) (cc (cp 2) cn)))) (cc (cf 102 cn (cc (cp 0) (cc (cp 1) (cc (cp 3) cn)))) cn))) (cc cT (cc cI cn))
noncomputable def G9:Bs:=xI (xc (cc lC cn) (xc (cc (cf 105 cn cn) cn) (xc (cc (cf 106 cn cn) cn) xn)))
noncomputable def Jd:Cs:=cc cI (cc (cp 0) cn)
noncomputable def agR:Bs:=xT xn
noncomputable def Je:Cs:=cc (cg (cc (cf 102 cn (cc (cp 0) (cc (cp 1) (cc (cp 2) cn)))) (cc (cf 102 cn (cc (cp 0) (cc (cp 1) (cc (cp 3) cn)))) cn))) (cc lT (cc cI (cc (cf 111 cn (cc (cp 4) cn)) cn)))
noncomputable def RJ:Bs:=xI (xc (cc lC cn) (xc (cc (cf 105 cn cn) cn) (xc (cc (cf 106 cn cn) cn) (xI xn))))
noncomputable def Z7:Cs:=cc (cg (cc (cf 102 cn (cc (cp 0) (cc (cp 1) (cc (cp 2) cn)))) (cc (cf 102 cn (cc (cp 0) (cc (cp 1) (cc (cp 3) cn)))) cn))) (cc lT (cc cI (cc (cf 109 cn (cc (cp 4) cn)) cn)))
noncomputable def agS:Bs:=xI (xc (cc lC cn) (xc (cc (cf 105 cn cn) cn) (xc (cc (cf 106 cn cn) cn) (xT xn))))
noncomputable def Z8:Cs:=cc lC (cc cI (cc (cp 0) cn))
noncomputable def Jf:Cs:=cc (cg (cc (cf 112 cn (cc (cp 0) cn)) (cc (cf 112 cn (cc (cp 0) cn)) cn))) (cc cT (cc cI cn))
noncomputable def Jg:Cs:=cc (cg (cc (cf 112 cn (cc (cp 0) cn)) (cc (cf 112 cn (cc (cp 0) cn)) cn))) (cc lT (cc cI (cc (cf 111 cn (cc (cp 1) cn)) cn)))
noncomputable def Z9:Cs:=cc (cg (cc (cf 112 cn (cc (cp 0) cn)) (cc (cf 112 cn (cc (cp 0) cn)) cn))) (cc lT (cc cI (cc (cf 109 cn (cc (cp 1) cn)) cn)))
noncomputable def agT:Bs:=xI (xT xn)
noncomputable def Z_:Cs:=cc (cp 0) (cc cT (cc lC cn))
noncomputable def RM:Bs:=xI (xI (xT xn))
noncomputable def aaa:Cs:=cc cT (cc lI (cc (cf 140 cn (cc (cp 0) (cc (cp 1) (cc (cp 2) cn)))) cn))
noncomputable def aab:Cs:=cc (cp 0) (cc cT (cc cI (cc cI cn)))
noncomputable def Jh:Cs:=cc cI (cc lT cn)
noncomputable def C3:Cs:=cc (cp 0) (cc cT cn)
noncomputable def Ji:Cs:=cc cT (cc lC (cc cT (cc cC (cc lC cn))))
noncomputable def lr:Cs:=cc cT (cc lC (cc cT cn))
noncomputable def aad:Cs:=cc lB cn
noncomputable def aae:Cs:=cc lI cn
noncomputable def aaf:Cs:=cc cT (cc cI (cc cI (cc cI (cc cI cn))))
noncomputable def aag:Cs:=cc cU (cc cU cn)
noncomputable def aah:Cs:=cc lC (cc cb (cc cI (cc lC (cc cI cn))))
noncomputable def aai:Cs:=cc cT (cc cI (cc lC (cc cI (cc cb cn))))
noncomputable def aaj:Cs:=cc cT (cc lC cn)
noncomputable def aak:Cs:=cc cI (cc cT (cc cT cn))
noncomputable def yw:Cs:=cc cT (cc cT cn)
noncomputable def aal:Cs:=cc lT (cc lT cn)
noncomputable def aam:Cs:=cc cT (cc cI (cc cT (cc cI cn)))
noncomputable def aan:Cs:=cc (cp 0) (cc cT (cc cT (cc cT (cc cT cn))))
noncomputable def yx:Cs:=cc cT (cc cT (cc cT (cc cT cn)))
noncomputable def aao:Cs:=cc cI (cc cT (cc cT (cc cT cn)))
noncomputable def aap:Cs:=cc cI (cc cT cn)
noncomputable def aaq:Cs:=cc cI (cc lB cn)
noncomputable def aQ {S:Type} (κ:Out UU→Option S):Int→Option S:=fun r=>κ (.ret (iI r) [])
noncomputable def av {S:Type} (κ:Out UU→Option S):Bool→Option S:=fun r=>κ (.ret (.bool r) [])
noncomputable def kn {S:Type} (κ:Out UU→Option S):Int×Int→Option S:=fun r=>κ (.ret (.tuple [(iI r.1),(iI r.2)]) [])
noncomputable def fw {S:Type} (c0:Int) (κ:Out UU→Option S):Bool→Option S:=fun r=>κ (.ret (.bool r) [bI c0])
noncomputable def fT {S:Type} (κ:Out UU→Option S):Bool×Int→Option S:=fun r=>κ (.ret (.bool r.1) [.cells [(.func 169 [] [(pt 1),(pt 0)])],bI r.2])
noncomputable def qX5 {S:Type} (κ:Out UU→Option S):Bool×Int→Option S:=fun r=>κ (.ret (.bool r.1) [bI r.2,.cells [(.func 169 [] [(pt 0),(pt 1)])]])
noncomputable def Ly {S:Type} (κ:Out UU→Option S):Cl→Option S:=fun r=>κ (.ret (aC r) [])
noncomputable def Lz {S:Type} (c0:Cl) (κ:Out UU→Option S):Bool→Option S:=fun r=>κ (.ret (.bool r) [bC c0])
noncomputable def zc {S:Type} (c0:Cl) (κ:Out UU→Option S):Int→Option S:=fun r=>κ (.ret (iI r) [bC c0])
noncomputable def qX9 {S:Type} (c0:List Cl) (κ:Out UU→Option S):Bool→Option S:=fun r=>κ (.ret (.bool r) [.cells [(sC c0)]])
noncomputable def au {S:Type} (κ:Out UU→Option S):List Cl×Int→Option S:=fun r=>κ (.ret (.tuple [(sC r.1),(iI r.2)]) [])
noncomputable def bX {S:Type} (κ:Out UU→Option S):Int→Option S:=fun r=>κ (.ret (iU r) [])
noncomputable def fS {S:Type} (c0 c1:Int) (c2:Bool) (κ:Out UU→Option S):Bool→Option S:=fun r=>κ (.ret (.bool r) [bI c0,bI c1,.cells [(.bool c2)]])
noncomputable def adD {S:Type} (κ:Out UU→Option S):Int→Option S:=fun r=>κ (.ret (.tuple []) [bI r])
noncomputable def yU {S:Type} (κ:Out UU→Option S):Int→Option S:=fun r=>κ (.ret (pt 0) [bI r])
noncomputable def adE {S:Type} (κ:Out UU→Option S):List Cl→Option S:=fun r=>κ (.ret (CF r) [])
noncomputable def uk {S:Type} (κ:Out UU→Option S):Int×Int→Option S:=fun r=>κ (.ret (.tuple [(iU r.1),(iI r.2)]) [])
noncomputable def Lu {S:Type} (κ:Out UU→Option S):Cl×Int→Option S:=fun r=>κ (.ret (.tuple [(aC r.1),(iI r.2)]) [])
noncomputable def adF {S:Type} (c0 c1:Int) (κ:Out UU→Option S):List Cl×Int→Option S:=fun r=>κ (.ret (.tuple [(CF r.1),(iI r.2)]) [bI c0,bI c1])
noncomputable def yV {S:Type} (c0 c1:Int) (κ:Out UU→Option S):List Cl×Int→Option S:=fun r=>κ (.ret (.tuple [(sC r.1),(iI r.2)]) [bI c0,bI c1])
noncomputable def Lv {S:Type} (κ:Out UU→Option S):List Cl×Int→Option S:=fun r=>κ (.ret (sC r.1) [bI r.2])
noncomputable def adG {S:Type} (κ:Out UU→Option S):Pan Int (List Cl)→Option S:=fun r=>Pan.elim r (fun r=>κ (.ret (sC r) [])) (fun e=>κ (.panic (.iface 29 (iI e)) []))
noncomputable def eJ {S:Type} (κ:Out UU→Option S):Pan Int Tm→Option S:=fun r=>Pan.elim r (fun r=>κ (.ret (aT r) [])) (fun e=>κ (.panic (.iface 29 (iI e)) []))
noncomputable def adH {S:Type} (c0:Int) (c1:Tm) (c2:Int) (κ:Out UU→Option S):Pan Int Tm→Option S:=fun r=>Pan.elim r (fun r=>κ (.ret (aT r) [bI c0,bT c1,bI c2])) (fun e=>κ (.panic (.iface 29 (iI e)) [bI c0,bT c1,bI c2]))
noncomputable def yW {S:Type} (c0:Int) (c1:Tm) (c2:Int) (κ:Out UU→Option S):Tm×Int→Option S:=fun r=>κ (.ret (.tuple [(aT r.1),(iI r.2)]) [bI c0,bT c1,bI c2])
noncomputable def bY {S:Type} (κ:Out UU→Option S):Tm×Int→Option S:=fun r=>κ (.ret (.tuple [(aT r.1),(iI r.2)]) [])
noncomputable def adI {S:Type} (c0:Int) (c1:List Cl) (κ:Out UU→Option S):Unit→Option S:=fun r=>κ (.ret (.func 102 [] [(pt 0),(pt 1),(pt 2)]) [bI c0,.cells [(sC c1)],.cells [(.func 105 [] [])]])
noncomputable def adJ {S:Type} (c0:Int) (c1:List Cl) (κ:Out UU→Option S):Unit→Option S:=fun r=>κ (.ret (.func 102 [] [(pt 0),(pt 1),(pt 2)]) [bI c0,.cells [(sC c1)],.cells [(.func 106 [] [])]])
noncomputable def adK {S:Type} (κ:Out UU→Option S):Int×List Cl→Option S:=fun r=>κ (.ret (.agg [(.func 102 [] [(pt 0),(pt 1),(pt 2)]),(.func 102 [] [(pt 0),(pt 1),(pt 3)])]) [bI r.1,.cells [(sC r.2)],.cells [(.func 105 [] [])],.cells [(.func 106 [] [])]])
noncomputable def fq {S:Type} (κ:Out UU→Option S):List Cl→Option S:=fun r=>κ (.ret (sC r) [])
noncomputable def adL {S:Type} (κ:Out UU→Option S):Cl×Bool→Option S:=fun r=>κ (.ret (.tuple [(aC r.1),(.bool r.2)]) [])
noncomputable def adM {S:Type} (c0:Cl) (κ:Out UU→Option S):Cl×Bool→Option S:=fun r=>κ (.ret (.tuple [(aC r.1),(.bool r.2)]) [bC c0])
noncomputable def yX {S:Type} (c0:Cl) (κ:Out UU→Option S):List Cl→Option S:=fun r=>κ (.ret (sC r) [bC c0])
noncomputable def adN {S:Type} (c0:Int) (c1:List Cl) (κ:Out UU→Option S):List Cl×Int→Option S:=fun r=>κ (.ret (.tuple [(sC r.1),(iI r.2)]) [bI c0,.cells [(sC c1)],.cells [(.func 106 [] [])]])
noncomputable def ul {S:Type} (c0:Int) (c1:List Cl) (κ:Out UU→Option S):List Cl×Int→Option S:=fun r=>κ (.ret (.tuple [(sC r.1),(iI r.2)]) [bI c0,.cells [(sC c1)]])
noncomputable def adO {S:Type} (c0:Int) (c1:List Cl) (κ:Out UU→Option S):List Cl×Int→Option S:=fun r=>κ (.ret (.tuple [(sC r.1),(iI r.2)]) [bI c0,.cells [(sC c1)],.cells [(.func 105 [] [])]])
noncomputable def adP {S:Type} (c0:Int) (c1:List Cl) (κ:Out UU→Option S):List Cl×Int→Option S:=fun r=>κ (.ret (.tuple [(sC r.1),(iI r.2)]) [bI c0,.cells [(sC c1)],.cells [(.func 105 [] [])],.cells [(.func 106 [] [])]])
noncomputable def adQ {S:Type} (c0:Tm) (κ:Out UU→Option S):Int→Option S:=fun r=>κ (.ret (iI r) [bT c0])
noncomputable def adR {S:Type} (c0:Int) (κ:Out UU→Option S):Int→Option S:=fun r=>κ (.ret (iI r) [bI c0])
noncomputable def yY {S:Type} (c0:Int) (c1:List Cl) (κ:Out UU→Option S):Tm×Int→Option S:=fun r=>κ (.ret (.tuple [(aT r.1),(iI r.2)]) [bI c0,.cells [(sC c1)],.cells [(.func 105 [] [])],.cells [(.func 106 [] [])]])
noncomputable def yZ {S:Type} (c0:Int) (c1:List Cl) (c4:Int) (κ:Out UU→Option S):List Tm×Int→Option S:=fun r=>κ (.ret (.tuple [(sT r.1),(iI r.2)]) [bI c0,.cells [(sC c1)],.cells [(.func 105 [] [])],.cells [(.func 106 [] [])],bI c4])
noncomputable def y6 {S:Type} (c0:Int) (c1:List Cl) (c4:Tm) (κ:Out UU→Option S):List Tm×Int→Option S:=fun r=>κ (.ret (.tuple [(sT r.1),(iI r.2)]) [bI c0,.cells [(sC c1)],.cells [(.func 105 [] [])],.cells [(.func 106 [] [])],bT c4])
noncomputable def adS {S:Type} (κ:Out UU→Option S):Int→Option S:=fun r=>κ (.ret (.agg [(.func 112 [] [(pt 0)]),(.func 112 [] [(pt 0)])]) [bI r])
noncomputable def um {S:Type} (c0:Int) (κ:Out UU→Option S):List Cl×Int→Option S:=fun r=>κ (.ret (.tuple [(sC r.1),(iI r.2)]) [bI c0])
noncomputable def y7 {S:Type} (c0:Int) (κ:Out UU→Option S):Tm×Int→Option S:=fun r=>κ (.ret (.tuple [(aT r.1),(iI r.2)]) [bI c0])
noncomputable def y8 {S:Type} (c0 c1:Int) (κ:Out UU→Option S):List Tm×Int→Option S:=fun r=>κ (.ret (.tuple [(sT r.1),(iI r.2)]) [bI c0,bI c1])
noncomputable def y9 {S:Type} (c0:Int) (c1:Tm) (κ:Out UU→Option S):List Tm×Int→Option S:=fun r=>κ (.ret (.tuple [(sT r.1),(iI r.2)]) [bI c0,bT c1])
noncomputable def DQ {S:Type} (κ:Out UU→Option S):Tm×Int→Option S:=fun r=>κ (.ret (aT r.1) [bI r.2])
noncomputable def adT {S:Type} (c0 c1:Int) (c2:Tm) (κ:Out UU→Option S):Pan Int Tm→Option S:=fun r=>Pan.elim r (fun r=>κ (.ret (aT r) [bI c0,bI c1,bT c2])) (fun e=>κ (.panic (.iface 29 (iI e)) [bI c0,bI c1,bT c2]))
noncomputable def y_ {S:Type} (c0 c1:Int) (c2:Tm) (κ:Out UU→Option S):Tm×Int→Option S:=fun r=>κ (.ret (.tuple [(aT r.1),(iI r.2)]) [bI c0,bI c1,bT c2])
noncomputable def Lw {S:Type} (κ:Out UU→Option S):Int×Int×ByteArray×List Tm→Option S:=fun r=>κ (.ret (.agg [(iI r.1),(iI r.2.1),(.str r.2.2.1),(cE [] .nil),(sT r.2.2.2),(fy [] .nil)]) [])
noncomputable def adV {S:Type} (κ:Out UU→Option S):Tm×Int×Int→Option S:=fun r=>κ (.ret (.tuple [(aT r.1),(iI r.2.1)]) [bI r.2.2])
noncomputable def adW {S:Type} (κ:Out UU→Option S):Int×Int×ByteArray×List Tm×List (Br Tm)→Option S:=fun r=>κ (.ret (.agg [(iI r.1),(iI r.2.1),(.str r.2.2.1),(cE [] .nil),(sT r.2.2.2.1),(sB r.2.2.2.2)]) [])
noncomputable def DR {S:Type} (κ:Out UU→Option S):Int×Int×ByteArray→Option S:=fun r=>κ (.ret (.agg [(iI r.1),(iI r.2.1),(.str r.2.2),(cE [] .nil),(gE [] .nil),(fy [] .nil)]) [])
noncomputable def adX {S:Type} (κ:Out UU→Option S):Int×Int×ByteArray×List Cl×List Tm→Option S:=fun r=>κ (.ret (.agg [(iI r.1),(iI r.2.1),(.str r.2.2.1),(sC r.2.2.2.1),(sT r.2.2.2.2),(fy [] .nil)]) [])
noncomputable def za {S:Type} (κ:Out UU→Option S):List Int→Option S:=fun r=>κ (.ret (Zp r) [])
noncomputable def aL {S:Type} (κ:Out UU→Option S):Tm→Option S:=fun r=>κ (.ret (aT r) [])
noncomputable def zb {S:Type} (κ:Out UU→Option S):List Tm→Option S:=fun r=>κ (.ret (sT r) [])
noncomputable def Lx {S:Type} (κ:Out UU→Option S):Int×Int×ByteArray×List Tm×Int→Option S:=fun r=>κ (.ret (.agg [(iI r.1),(iI r.2.1),(.str r.2.2.1),(cE [] .nil),(sT r.2.2.2.1),(fy [] .nil)]) [bI r.2.2.2.2])
end
end Go.Proofs.YtapmagaejigpnaaGreatDoor
namespace Go.Proofs.YtapmagaejigpnaaGreatDoor
open Go PI
set_option linter.unusedVariables false
set_option maxRecDepth 100000
noncomputable section
def DS {S:Type} (hd:gJ S):Rw S:=ah CV xn fun t most κ=>hd t most (aQ κ)
def mh {S:Type} (hd:gJ S) (k:Nat):Fx S:=fp 119 [(40,DS hd)] [(5,a6 [1,2,5,6] [(2,6)],ap 6 23),(9,a6 [1,2,5,7] [(2,6)],ap 7 47),(15,a6 [1,2,5,7,8] [(2,6)],ap 15 14639)] k Tryz.f40 0
def Dl (t:Tm) (most:Int) (v5 i6:Int):St UU:=⟨[(1,(iI most)),(2,(pt 2)),(5,(iI v5)),(6,(iI i6))],[(2,bT t)],[],[]⟩
def tH (t:Tm) (most:Int) (v5' i7:Int):St UU:=⟨[(1,(iI most)),(2,(pt 2)),(5,(iI v5')),(7,(iI i7))],[(2,bT t)],[],[]⟩
def Jz (t:Tm) (most i7:Int) (v5'' v8:Int):St UU:=⟨[(1,(iI most)),(2,(pt 2)),(5,(iI v5'')),(7,(iI i7)),(8,(iI v8))],[(2,bT t)],[],[]⟩
section
variable {S:Type} (hd:gJ S) (k:Nat) (t:Tm) (most:Int) (κ:Out UU→Option S)
theorem Uh (i7 κ1): ∀n v5'' v8,(mh hd k).lp κ 15 [κ1] n (Jz t most i7 v5'' v8)=fh hd k (aQ κ) (fun v5' i7=>κ1 (tH t most v5' i7)) t most i7 n v5'' v8:=aV (nW hd k (aQ κ) t most i7 (fun v5' i7=>κ1 (tH t most v5' i7))) rfl (fun _=>rfl) fun r v5'' v8=>by kernel_rfl
theorem Ug: ∀n v5' i7,(mh hd k).lp κ 9 [] n (tH t most v5' i7)=eW hd k (aQ κ) t most n v5' i7:=aV (fun own=>mz hd k (aQ κ) t most (fun i7 v5'' v8=>fh hd k (aQ κ) own t most i7 k v5'' v8) own) rfl (fun _=>rfl) fun r v5' i7=>Eq.trans (b:=mz hd k (aQ κ) t most (fun i7 v5'' v8=>(mh hd k).lp κ 15 [r] k (Jz t most i7 v5'' v8)) (fun v5' i7=>r (tH t most v5' i7)) v5' i7) (by kernel_rfl) (by simp only [Uh])
theorem Uf: ∀n v5 i6,(mh hd k).lp κ 5 [] n (Dl t most v5 i6)=g8 hd k (aQ κ) t most n v5 i6:=aV (fun own=>my hd k (aQ κ) t most (fun v5' i7=>eW hd k (aQ κ) t most k v5' i7) own) rfl (fun _=>rfl) fun r v5 i6=>Eq.trans (b:=my hd k (aQ κ) t most (fun v5' i7=>(mh hd k).lp κ 9 [] k (tH t most v5' i7)) (fun v5 i6=>r (Dl t most v5 i6)) v5 i6) (by kernel_rfl) (by simp only [Ug])
end
theorem IL {S:Type} (o:Obj) (ho:ag o): ∀k:Nat,Tl o 40 (DS (cP k:gJ S))
 |0=>e9 fun t most κ x h=>by cases h
 |k+1=>ai (mh (cP k) k) ⟨IL o ho k,trivial⟩ Tryz.func40 (by kernel_rfl) fun t most κ x h=>Eq.trans (b:=zY (cP k) k (aQ κ) (fun v5 i6=>(mh (cP k) k).lp κ 5 [] k (Dl t most v5 i6)) t most) (by kernel_rfl) (Eq.trans (by simp only [Uf];rfl) h)
def zd {S:Type} (k:Nat):Rw S:=ah ln xn fun a b sys κ=>aa k (jK k a b sys) (av κ)
def RR {S:Type} (k:Nat):Fx S:=fp 21 [(40,DS (cP k))] [] k Tryz.f9 0
theorem Ce {S:Type} (o:Obj) (ho:ag o) (k:Nat):Tl o 9 (zd k:Rw S):=ai (RR k) ⟨IL o ho k,trivial⟩ Tryz.func9 (by kernel_rfl) fun a b sys κ x h=>Eq.trans (by kernel_rfl) (aj h)
def ql {S:Type} (k:Nat):Rw S:=ah I4 xn fun kind kid κ=>aa k (kU k kind kid) (kn κ)
def SV {S:Type} (k:Nat):Fx S:=fp 26 [] [] k Tryz.f110 0
theorem tf {S:Type} (o:Obj) (ho:ag o) (k:Nat):Tl o 110 (ql k:Rw S):=ai (SV k) trivial Tryz.func110 (by kernel_rfl) fun kind kid κ x h=>Eq.trans (by kernel_rfl) (aj h)
def uu {S:Type} (hd:dv S):Rw S:=ah CV xn fun t left κ=>hd t left (av κ)
def MT {S:Type} (hd:dv S) (k:Nat):Rw S:=ah I7 eN fun a_k p p' c0 κ=>aa k (sY hd k a_k p p' c0) (fw c0 κ)
def Ts {S:Type} (hd:dv S) (k:Nat):Fx S:=fp 12 [(125,uu hd)] [] k Tryz.f168 1
theorem Yl {S:Type} (o:Obj) (ho:ag o) (hd:dv S) (Hd:Tl o 125 (uu hd)) (k:Nat):Tl o 168 (MT hd k:Rw S):=ai (Ts hd k) ⟨Hd,trivial⟩ Tryz.func168 (by kernel_rfl) fun a_k p p' c0 κ x h=>Eq.trans (by kernel_rfl) (aj h)
def MY {S:Type} (hd:dv S) (k:Nat):Rw S:=ah ZY eN fun t c0 κ=>aa k (B7 hd k t c0) (fw c0 κ)
def mq {S:Type} (hd:dv S) (k:Nat):Fx S:=fp 60 [(110,ql k),(168,MT hd k)] [(2,a6 [1,2,15,16,17] [(2,6),(1000000,1)],ap 4 5),(12,a6 [1,9,40,41,42] [(1000000,1)],ap 7 47),(15,a6 [1,9,40,41,42,47,48,49] [(1000000,1)],ap 15 13103)] k Tryz.f128 1
def Dy (c0:Int) (t:Tm) (v17:Int):St UU:=⟨[(1,(.func 168 [] [(pt 1000000)])),(2,(pt 2)),(15,(sT t.kids)),(16,(.int .i64 (t.kids.length:Int))),(17,(iI v17))],[(2,bT t),(1000000,bI c0)],[],[]⟩
def tY (c0:Int) (t:Tm) (v42 more9:Int):St UU:=⟨[(1,(.func 168 [] [(pt 1000000)])),(9,(iI more9)),(40,(sB t.sys)),(41,(.int .i64 (t.sys.length:Int))),(42,(iI v42))],[(1000000,bI c0)],[],[]⟩
def KQ (c0:Int) (t:Tm) (v42:Int) (x4:(Br Tm)) (more9:Int) (v49:Int):St UU:=⟨[(1,(.func 168 [] [(pt 1000000)])),(9,(iI more9)),(40,(sB t.sys)),(41,(.int .i64 (t.sys.length:Int))),(42,(iI v42)),(47,(sT x4.kids)),(48,(.int .i64 (x4.kids.length:Int))),(49,(iI v49))],[(1000000,bI c0)],[],[]⟩
section
variable {S:Type} (hd:dv S) (k:Nat) (t:Tm) (c0:Int) (κ:Out UU→Option S)
theorem VU (v42 x4 more9 κ1): ∀n v49,(mq hd k).lp κ 15 [κ1] n (KQ c0 t v42 x4 more9 v49)=lP hd k (fw c0 κ) (fun v42 more9=>κ1 (tY c0 t v42 more9)) c0 t v42 x4 more9 n v49:=ct (wy hd k (fw c0 κ) c0 t v42 x4 more9 (fun v42 more9=>κ1 (tY c0 t v42 more9))) rfl (fun _=>rfl) fun r v49=>by kernel_rfl
theorem VT: ∀n v42 more9,(mq hd k).lp κ 12 [] n (tY c0 t v42 more9)=ic hd k (fw c0 κ) c0 t n v42 more9:=aV (fun own=>rX hd k (fw c0 κ) c0 t (fun v42 x4 more9 v49=>lP hd k (fw c0 κ) own c0 t v42 x4 more9 k v49) own) rfl (fun _=>rfl) fun r v42 more9=>Eq.trans (b:=rX hd k (fw c0 κ) c0 t (fun v42 x4 more9 v49=>(mq hd k).lp κ 15 [r] k (KQ c0 t v42 x4 more9 v49)) (fun v42 more9=>r (tY c0 t v42 more9)) v42 more9) (by kernel_rfl) (by simp only [VU])
theorem VS: ∀n v17,(mq hd k).lp κ 2 [] n (Dy c0 t v17)=pP hd k (fw c0 κ) c0 t n v17:=ct (fun own=>rW hd k (fw c0 κ) c0 t (fun v42 more9=>ic hd k (fw c0 κ) c0 t k v42 more9) own) rfl (fun _=>rfl) fun r v17=>Eq.trans (b:=rW hd k (fw c0 κ) c0 t (fun v42 more9=>(mq hd k).lp κ 12 [] k (tY c0 t v42 more9)) (fun v17=>r (Dy c0 t v17)) v17) (by kernel_rfl) (by simp only [VT])
end
theorem Yq {S:Type} (o:Obj) (ho:ag o) (hd:dv S) (Hd:Tl o 125 (uu hd)) (k:Nat):Tl o 128 (MY hd k:Rw S):=ai (mq hd k) ⟨tf o ho k,Yl o ho hd Hd k,trivial⟩ Tryz.func128 (by kernel_rfl) fun t c0 κ x h=>Eq.trans (b:=GU hd k (fw c0 κ) (fun v17=>(mq hd k).lp κ 2 [] k (Dy c0 t v17)) t c0) (by kernel_rfl) (Eq.trans (by simp only [VS];rfl) (aj h))
def Tj {S:Type} (hd:dv S) (k:Nat):Fx S:=fp 12 [(128,MY hd k)] [] k Tryz.f125 0
theorem IS {S:Type} (o:Obj) (ho:ag o): ∀k:Nat,Tl o 125 (uu (iZ k:dv S))
 |0=>e9 fun t left κ x h=>by cases h
 |k+1=>ai (Tj (iZ k) k) ⟨Yq o ho (iZ k) (IS o ho k) k,trivial⟩ Tryz.func125 (by kernel_rfl) fun t left κ x h=>Eq.trans (by kernel_rfl) h
def zx {S:Type} (hd:du S):Rw S:=ah Z5 RL fun t c1 κ=>hd t c1 (fT κ)
def Ez {S:Type} (hd:du S) (k:Nat):Rw S:=ah kX8 xX9 fun t c0 κ=>aa k (oG hd k t c0) (qX5 κ)
def TU {S:Type} (hd:du S) (k:Nat):Fx S:=fp 14 [(128,zx hd)] [] k Tryz.f169 2
theorem Ig {S:Type} (o:Obj) (ho:ag o) (hd:du S) (Hd:Tl o 128 (zx hd)) (k:Nat):Tl o 169 (Ez hd k:Rw S):=ai (TU hd k) ⟨Hd,trivial⟩ Tryz.func169 (by kernel_rfl) fun t c0 κ x h=>Eq.trans (by kernel_rfl) (aj h)
def Nj {S:Type} (hd:du S) (k:Nat):Rw S:=ah I7 RL fun a_k p p' c1 κ=>aa k (s8 hd k a_k p p' c1) (fT κ)
def T0 {S:Type} (hd:du S) (k:Nat):Fx S:=fp 11 [(169,Ez hd k)] [] k Tryz.f170 2
theorem YL {S:Type} (o:Obj) (ho:ag o) (hd:du S) (Hd:Tl o 128 (zx hd)) (k:Nat):Tl o 170 (Nj hd k:Rw S):=ai (T0 hd k) ⟨Ig o ho hd Hd k,trivial⟩ Tryz.func170 (by kernel_rfl) fun a_k p p' c1 κ x h=>Eq.trans (by kernel_rfl) (aj h)
def mr {S:Type} (hd:du S) (k:Nat):Fx S:=fp 60 [(110,ql k),(170,Nj hd k)] [(2,a6 [1,2,15,16,17] [(2,6),(1000000,1),(1000001,1)],ap 4 5),(12,a6 [1,9,40,41,42] [(1000000,1),(1000001,1)],ap 7 47),(15,a6 [1,9,40,41,42,47,48,49] [(1000000,1),(1000001,1)],ap 15 13103)] k Tryz.f128 2
def Dz (t:Tm) (e1_0 v17:Int):St UU:=⟨[(1,(.func 170 [] [(pt 1000000)])),(2,(pt 2)),(15,(sT t.kids)),(16,(.int .i64 (t.kids.length:Int))),(17,(iI v17))],[(2,bT t),(1000000,.cells [(.func 169 [] [(pt 1000001),(pt 1000000)])]),(1000001,bI e1_0)],[],[]⟩
def tZ (t:Tm) (e1_0' v42 more9:Int):St UU:=⟨[(1,(.func 170 [] [(pt 1000000)])),(9,(iI more9)),(40,(sB t.sys)),(41,(.int .i64 (t.sys.length:Int))),(42,(iI v42))],[(1000000,.cells [(.func 169 [] [(pt 1000001),(pt 1000000)])]),(1000001,bI e1_0')],[],[]⟩
def KR (t:Tm) (v42:Int) (x4:(Br Tm)) (more9:Int) (e1_0'' v49:Int):St UU:=⟨[(1,(.func 170 [] [(pt 1000000)])),(9,(iI more9)),(40,(sB t.sys)),(41,(.int .i64 (t.sys.length:Int))),(42,(iI v42)),(47,(sT x4.kids)),(48,(.int .i64 (x4.kids.length:Int))),(49,(iI v49))],[(1000000,.cells [(.func 169 [] [(pt 1000001),(pt 1000000)])]),(1000001,bI e1_0'')],[],[]⟩
section
variable {S:Type} (hd:du S) (k:Nat) (t:Tm) (c1:Int) (κ:Out UU→Option S)
theorem VY (v42 x4 more9 κ1): ∀n e1_0'' v49,(mr hd k).lp κ 15 [κ1] n (KR t v42 x4 more9 e1_0'' v49)=h9 hd k (fT κ) (fun e1_0' v42 more9=>κ1 (tZ t e1_0' v42 more9)) t v42 x4 more9 n e1_0'' v49:=aV (ww hd k (fT κ) t v42 x4 more9 (fun e1_0' v42 more9=>κ1 (tZ t e1_0' v42 more9))) rfl (fun _=>rfl) fun r e1_0'' v49=>by kernel_rfl
theorem VX: ∀n e1_0' v42 more9,(mr hd k).lp κ 12 [] n (tZ t e1_0' v42 more9)=fN hd k (fT κ) t n e1_0' v42 more9:=jj (fun own=>rT hd k (fT κ) t (fun v42 x4 more9 e1_0'' v49=>h9 hd k (fT κ) own t v42 x4 more9 k e1_0'' v49) own) rfl (fun _=>rfl) fun r e1_0' v42 more9=>Eq.trans (b:=rT hd k (fT κ) t (fun v42 x4 more9 e1_0'' v49=>(mr hd k).lp κ 15 [r] k (KR t v42 x4 more9 e1_0'' v49)) (fun e1_0' v42 more9=>r (tZ t e1_0' v42 more9)) e1_0' v42 more9) (by kernel_rfl) (by simp only [VY])
theorem VW: ∀n e1_0 v17,(mr hd k).lp κ 2 [] n (Dz t e1_0 v17)=nh hd k (fT κ) t n e1_0 v17:=aV (fun own=>rS hd k (fT κ) t (fun e1_0' v42 more9=>fN hd k (fT κ) t k e1_0' v42 more9) own) rfl (fun _=>rfl) fun r e1_0 v17=>Eq.trans (b:=rS hd k (fT κ) t (fun e1_0' v42 more9=>(mr hd k).lp κ 12 [] k (tZ t e1_0' v42 more9)) (fun e1_0 v17=>r (Dz t e1_0 v17)) e1_0 v17) (by kernel_rfl) (by simp only [VX])
end
theorem IT {S:Type} (o:Obj) (ho:ag o): ∀k:Nat,Tl o 128 (zx (fc k:du S))
 |0=>e9 fun t c1 κ x h=>by cases h
 |k+1=>ai (mr (fc k) k) ⟨tf o ho k,YL o ho (fc k) (IT o ho k) k,trivial⟩ Tryz.func128 (by kernel_rfl) fun t c1 κ x h=>Eq.trans (b:=GS (fc k) k (fT κ) (fun e1_0 v17=>(mr (fc k) k).lp κ 2 [] k (Dz t e1_0 v17)) t c1) (by kernel_rfl) (Eq.trans (by simp only [VW];rfl) h)
def Nt {S:Type} (k:Nat):Rw S:=ah CV xn fun t most κ=>aa k (xQ k t most) (av κ)
def T8 {S:Type} (k:Nat):Fx S:=fp 10 [(169,Ez (fc k) k)] [] k Tryz.f126 0
theorem YU {S:Type} (o:Obj) (ho:ag o) (k:Nat):Tl o 126 (Nt k:Rw S):=ai (T8 k) ⟨Ig o ho (fc k) (IT o ho k) k,trivial⟩ Tryz.func126 (by kernel_rfl) fun t most κ x h=>Eq.trans (by kernel_rfl) (aj h)
def DT {S:Type} (k:Nat):Rw S:=ah fK xn fun t κ=>aa k (sZ k t) (aQ κ)
def RS {S:Type} (k:Nat):Fx S:=fp 11 [(125,uu (iZ k)),(126,Nt k)] [] k Tryz.f80 0
theorem HL {S:Type} (o:Obj) (ho:ag o) (k:Nat):Tl o 80 (DT k:Rw S):=ai (RS k) ⟨IS o ho k,YU o ho k,trivial⟩ Tryz.func80 (by kernel_rfl) fun t κ x h=>Eq.trans (by kernel_rfl) (aj h)
def LH {S:Type} (k:Nat):Rw S:=ah eV xn fun kind κ=>aa k (xN k kind) (aQ κ)
def RY {S:Type} (k:Nat):Fx S:=fp 38 [] [] k Tryz.f171 0
theorem Xf {S:Type} (o:Obj) (ho:ag o) (k:Nat):Tl o 171 (LH k:Rw S):=ai (RY k) trivial Tryz.func171 (by kernel_rfl) fun kind κ x h=>Eq.trans (by kernel_rfl) (aj h)
def LJ {S:Type} (k:Nat):Rw S:=ah eV xn fun kind κ=>aa k (kW k kind) (aQ κ)
def R7 {S:Type} (k:Nat):Fx S:=fp 10 [] [] k Tryz.f172 0
theorem Xh {S:Type} (o:Obj) (ho:ag o) (k:Nat):Tl o 172 (LJ k:Rw S):=ai (R7 k) trivial Tryz.func172 (by kernel_rfl) fun kind κ x h=>Eq.trans (by kernel_rfl) (aj h)
def LP {S:Type} (k:Nat):Rw S:=ah I2 xn fun s κ=>aa k (xP k s) (av κ)
def qN {S:Type} (k:Nat):Fx S:=fp 49 [] [(2,a6 [0,7,8] [],ap 4 5),(1000006,a6 [0,3,4,5,7,8] [],ap 12 3685)] k Tryz.f173 0
def tN (s:ByteArray) (v8:Int):St UU:=⟨[(0,(.str s)),(7,(.int .i64 (s.size:Int))),(8,(iI v8))],[],[],[]⟩
def JP (s:ByteArray) (v8:Int) (x1:UInt8) (letter5:Bool):St UU:=⟨[(0,(.str s)),(3,(iI v8)),(4,(.int .u8 (x1.toNat:Int))),(5,(.bool letter5)),(7,(.int .i64 (s.size:Int))),(8,(iI v8))],[],[],[]⟩
section
variable {S:Type} (k:Nat) (s:ByteArray) (κ:Out UU→Option S)
theorem UH (v8 x1 κ0): ∀n letter5,(qN k).jn κ 1000006 [κ0] n (JP s v8 x1 letter5)=yE k (av κ) (fun v8=>κ0 (tN s v8)) s v8 x1 n letter5:=tu (Bn k (av κ) s v8 x1 (fun v8=>κ0 (tN s v8))) rfl (fun _=>rfl) (fun letter5=>by kernel_rfl)
theorem UG: ∀n v8,(qN k).lp κ 2 [] n (tN s v8)=nj k (av κ) s n v8:=ct (fun own=>rY k (av κ) s (fun v8 x1 letter5=>yE k (av κ) own s v8 x1 k letter5) own) rfl (fun _=>rfl) fun r v8=>Eq.trans (b:=rY k (av κ) s (fun v8 x1 letter5=>(qN k).jn κ 1000006 [r] k (JP s v8 x1 letter5)) (fun v8=>r (tN s v8)) v8) (by kernel_rfl) (by simp only [UH])
end
theorem Xm {S:Type} (o:Obj) (ho:ag o) (k:Nat):Tl o 173 (LP k:Rw S):=ai (qN k) trivial Tryz.func173 (by kernel_rfl) fun s κ x h=>Eq.trans (b:=GV k (av κ) (fun v8=>(qN k).lp κ 2 [] k (tN s v8)) s) (by kernel_rfl) (Eq.trans (by simp only [UG];rfl) (aj h))
def LV {S:Type} (k:Nat):Rw S:=ah tw xn fun s κ=>aa k (ot k s) (av κ)
def Sj {S:Type} (k:Nat):Fx S:=fp 6 [] [] k Tryz.f192 0
theorem Xr {S:Type} (o:Obj) (ho:ag o) (k:Nat):Tl o 192 (LV k:Rw S):=ai (Sj k) trivial Tryz.func192 (by kernel_rfl) fun s κ x h=>Eq.trans (by kernel_rfl) (aj h)
def Ea {S:Type} (k:Nat):Rw S:=ah mU xn fun c κ=>aa k (si k c) (av κ)
def Sn {S:Type} (k:Nat):Fx S:=fp 11 [(192,LV k)] [] k Tryz.f146 0
theorem HX {S:Type} (o:Obj) (ho:ag o) (k:Nat):Tl o 146 (Ea k:Rw S):=ai (Sn k) ⟨Xr o ho k,trivial⟩ Tryz.func146 (by kernel_rfl) fun c κ x h=>Eq.trans (by kernel_rfl) (aj h)
def zm {S:Type} (k:Nat):Rw S:=ah tx xn fun a b κ=>aa k (oe k a b) (Ly κ)
def Sw {S:Type} (k:Nat):Fx S:=fp 16 [] [] k Tryz.f193 0
theorem Cn {S:Type} (o:Obj) (ho:ag o) (k:Nat):Tl o 193 (zm k:Rw S):=ai (Sw k) trivial Tryz.func193 (by kernel_rfl) fun a b κ x h=>Eq.trans (by kernel_rfl) (aj h)
def Ma {S:Type} (k:Nat):Rw S:=ah tx xn fun a b κ=>aa k (wM k a b) (av κ)
def SB {S:Type} (k:Nat):Fx S:=fp 10 [(193,zm k)] [] k Tryz.f150 0
theorem XF {S:Type} (o:Obj) (ho:ag o) (k:Nat):Tl o 150 (Ma k:Rw S):=ai (SB k) ⟨Cn o ho k,trivial⟩ Tryz.func150 (by kernel_rfl) fun a b κ x h=>Eq.trans (by kernel_rfl) (aj h)
def Mh {S:Type} (k:Nat):Rw S:=ah CW u4 fun d c0 κ=>aa k (wO k d c0) (Lz c0 κ)
def SH {S:Type} (k:Nat):Fx S:=fp 12 [(150,Ma k)] [] k Tryz.f149 1
theorem XM {S:Type} (o:Obj) (ho:ag o) (k:Nat):Tl o 149 (Mh k:Rw S):=ai (SH k) ⟨XF o ho k,trivial⟩ Tryz.func149 (by kernel_rfl) fun d c0 κ x h=>Eq.trans (by kernel_rfl) (aj h)
def Mn {S:Type} (k:Nat):Rw S:=ah I3 u4 fun s c0 κ=>aa k (B5 k s c0) (zc c0 κ)
def AN {S:Type} (k:Nat):Fx S:=fp 19 [(149,Mh k)] [(2,a6 [0,1,7,8] [(1000000,2)],ap 4 5)] k Tryz.f175 1
def Kv (c0:Cl) (s:List Cl) (v8:Int):St UU:=⟨[(0,(sC s)),(1,(.func 149 [] [(pt 1000000)])),(7,(.int .i64 (s.length:Int))),(8,(iI v8))],[(1000000,bC c0)],[],[]⟩
section
variable {S:Type} (k:Nat) (s:List Cl) (c0:Cl) (κ:Out UU→Option S)
theorem Vp: ∀n v8,(AN k).lp κ 2 [] n (Kv c0 s v8)=pL k (zc c0 κ) c0 s n v8:=ct (wq k (zc c0 κ) c0 s) rfl (fun _=>rfl) fun r v8=>by kernel_rfl
end
theorem XS {S:Type} (o:Obj) (ho:ag o) (k:Nat):Tl o 175 (Mn k:Rw S):=ai (AN k) ⟨XM o ho k,trivial⟩ Tryz.func175 (by kernel_rfl) fun s c0 κ x h=>Eq.trans (b:=GO k (zc c0 κ) (fun v8=>(AN k).lp κ 2 [] k (Kv c0 s v8)) s c0) (by kernel_rfl) (Eq.trans (by simp only [Vp];rfl) (aj h))
def Mt {S:Type} (k:Nat):Rw S:=ah I3 u4 fun s c0 κ=>aa k (B3 k s c0) (Lz c0 κ)
def SW {S:Type} (k:Nat):Fx S:=fp 9 [(175,Mn k)] [] k Tryz.f131 1
theorem XX {S:Type} (o:Obj) (ho:ag o) (k:Nat):Tl o 131 (Mt k:Rw S):=ai (SW k) ⟨XS o ho k,trivial⟩ Tryz.func131 (by kernel_rfl) fun s c0 κ x h=>Eq.trans (by kernel_rfl) (aj h)
def MB {S:Type} (k:Nat):Rw S:=ah CW agP fun c c0 κ=>aa k (wN k c c0) (qX9 c0 κ)
def S7 {S:Type} (k:Nat):Fx S:=fp 7 [(131,Mt k)] [] k Tryz.f148 1
theorem X5 {S:Type} (o:Obj) (ho:ag o) (k:Nat):Tl o 148 (MB k:Rw S):=ai (S7 k) ⟨XX o ho k,trivial⟩ Tryz.func148 (by kernel_rfl) fun c c0 κ x h=>Eq.trans (by kernel_rfl) (aj h)
def jq {S:Type} (k:Nat):Rw S:=ah dU xn fun l κ=>aa k (gf k l) (au κ)
def qT {S:Type} (k:Nat):Fx S:=fx 55 (fun _=>[]) (fun|53=>true|_=>false) [(146,Ea k),(148,MB k)] [(4,⟨[(4,.none),(5,.none),(13,.none),(14,.none),(15,.none)],[(5,[some (200320,true)]),(12,[])]⟩,ap 6 23),(15,⟨[(8,.none),(9,some (100009,true)),(34,.none),(35,.none),(36,.none)],[(5,[.none])]⟩,ap 9 191)] k Tryz.f100 false [] 0
def Dv (l:List Cl) (b12_0:List (Cl×Bool)) (b5_0:List Cl) (v15:Int):St UU:=⟨[(4,(.mp 12)),(5,(pt 5)),(13,(sC l)),(14,(.int .i64 (l.length:Int))),(15,(iI v15))],[(5,.cells [(.own 200320 0)]),(12,.map ET.C b12_0)],[(200320,⟨0,ET.C,b5_0⟩)],[(200320,.wr)]⟩
def KB (b5_0:List Cl) (v36:Int) (kept9:List Cl):St UU:=⟨[(8,(.func 148 [] [(pt 5)])),(9,(.own 100009 0)),(34,(sC b5_0)),(35,(.int .i64 (b5_0.length:Int))),(36,(iI v36))],[(5,.cells [(sC b5_0)])],[(100009,⟨0,ET.C,kept9⟩)],[(100009,.wr)]⟩
section
variable {S:Type} (k:Nat) (l:List Cl) (κ:Out UU→Option S)
theorem Vy (b5_0): ∀n v36 kept9,(qT k).lp κ 15 [] n (KB b5_0 v36 kept9)=mW k (au κ) b5_0 n v36 kept9:=aV (ve k (au κ) b5_0) rfl (fun _=>rfl) fun r v36 kept9=>by kernel_rfl
theorem Vx: ∀n b12_0 b5_0 v15,(qT k).lp κ 4 [] n (Dv l b12_0 b5_0 v15)=oX k (au κ) l n b12_0 b5_0 v15:=jj (fun own=>re k (au κ) l (fun b5_0 v36 kept9=>mW k (au κ) b5_0 k v36 kept9) own) rfl (fun _=>rfl) fun r b12_0 b5_0 v15=>Eq.trans (b:=re k (au κ) l (fun b5_0 v36 kept9=>(qT k).lp κ 15 [] k (KB b5_0 v36 kept9)) (fun b12_0 b5_0 v15=>r (Dv l b12_0 b5_0 v15)) b12_0 b5_0 v15) (by kernel_rfl) (by simp only [Vy])
end
theorem jT {S:Type} (o:Obj) (ho:ag o) (k:Nat):Tl o 100 (jq k:Rw S):=ai (qT k) ⟨HX o ho k,X5 o ho k,trivial⟩ Tryz.func100 (by kernel_rfl) fun l κ x h=>Eq.trans (b:=FD k (au κ) (fun b12_0 b5_0 v15=>(qT k).lp κ 4 [] k (Dv l b12_0 b5_0 v15)) l) (by kernel_rfl) (Eq.trans (by simp only [Vx];rfl) (aj h))
def ML {S:Type} (k:Nat):Rw S:=ah g5 xn fun s1 s2 κ=>aa k (xM k s1 s2) (av κ)
def AW {S:Type} (k:Nat):Fx S:=fp 26 [] [(4,a6 [0,1,12,13] [],ap 5 11)] k Tryz.f145 0
def KC (s1 s2:List Cl) (v13:Int):St UU:=⟨[(0,(sC s1)),(1,(sC s2)),(12,(.int .i64 (s1.length:Int))),(13,(iI v13))],[],[],[]⟩
section
variable {S:Type} (k:Nat) (s1 s2:List Cl) (κ:Out UU→Option S)
theorem Vz: ∀n v13,(AW k).lp κ 4 [] n (KC s1 s2 v13)=pK k (av κ) s1 s2 n v13:=ct (wn k (av κ) s1 s2) rfl (fun _=>rfl) fun r v13=>by kernel_rfl
end
theorem Ye {S:Type} (o:Obj) (ho:ag o) (k:Nat):Tl o 145 (ML k:Rw S):=ai (AW k) trivial Tryz.func145 (by kernel_rfl) fun s1 s2 κ x h=>Eq.trans (b:=GN k (av κ) (fun v13=>(AW k).lp κ 4 [] k (KC s1 s2 v13)) s1 s2) (by kernel_rfl) (Eq.trans (by simp only [Vz];rfl) (aj h))
def nH {S:Type} (k:Nat):Rw S:=ah dU xn fun f κ=>aa k (gS k f) (av κ)
def Te {S:Type} (k:Nat):Fx S:=fp 17 [(100,jq k),(145,ML k)] [] k Tryz.f95 0
theorem oP {S:Type} (o:Obj) (ho:ag o) (k:Nat):Tl o 95 (nH k:Rw S):=ai (Te k) ⟨jT o ho k,Ye o ho k,trivial⟩ Tryz.func95 (by kernel_rfl) fun f κ x h=>Eq.trans (by kernel_rfl) (aj h)
def ut {S:Type} (k:Nat):Rw S:=ah eV xn fun i κ=>aa k (mG k i) (av κ)
def Tf {S:Type} (k:Nat):Fx S:=fp 9 [] [] k Tryz.f130 0
theorem xV {S:Type} (o:Obj) (ho:ag o) (k:Nat):Tl o 130 (ut k:Rw S):=ai (Tf k) trivial Tryz.func130 (by kernel_rfl) fun i κ x h=>Eq.trans (by kernel_rfl) (aj h)
def zr {S:Type} (k:Nat):Rw S:=ah lq xn fun s i κ=>aa k (jL k s i) (bX κ)
def Tg {S:Type} (k:Nat):Fx S:=fp 16 [(130,ut k)] [] k Tryz.f82 0
theorem Ct {S:Type} (o:Obj) (ho:ag o) (k:Nat):Tl o 82 (zr k:Rw S):=ai (Tg k) ⟨xV o ho k,trivial⟩ Tryz.func82 (by kernel_rfl) fun s i κ x h=>Eq.trans (by kernel_rfl) (aj h)
def zt {S:Type} (k:Nat):Rw S:=ah dU xn fun f κ=>aa k (oj k f) (bX κ)
def AX {S:Type} (k:Nat):Fx S:=fp 22 [(82,zr k)] [(3,a6 [3,6,7,8] [],ap 5 11)] k Tryz.f38 0
def KD (f:List Cl) (s3 v8:Int):St UU:=⟨[(3,(iU s3)),(6,(sC f)),(7,(.int .i64 (f.length:Int))),(8,(iI v8))],[],[],[]⟩
section
variable {S:Type} (k:Nat) (f:List Cl) (κ:Out UU→Option S)
theorem VA: ∀n s3 v8,(AX k).lp κ 3 [] n (KD f s3 v8)=pa k (bX κ) f n s3 v8:=aV (vt k (bX κ) f) rfl (fun _=>rfl) fun r s3 v8=>by kernel_rfl
end
theorem Cu {S:Type} (o:Obj) (ho:ag o) (k:Nat):Tl o 38 (zt k:Rw S):=ai (AX k) ⟨Ct o ho k,trivial⟩ Tryz.func38 (by kernel_rfl) fun f κ x h=>Eq.trans (b:=FT k (bX κ) (fun s3 v8=>(AX k).lp κ 3 [] k (KD f s3 v8)) f) (by kernel_rfl) (Eq.trans (by simp only [VA];rfl) (aj h))
def MM {S:Type} (k:Nat):Rw S:=ah CX xn fun f dims κ=>aa k (kX k f dims) (av κ)
def Th {S:Type} (k:Nat):Fx S:=fp 15 [(38,zt k)] [] k Tryz.f174 0
theorem Yf {S:Type} (o:Obj) (ho:ag o) (k:Nat):Tl o 174 (MM k:Rw S):=ai (Th k) ⟨Cu o ho k,trivial⟩ Tryz.func174 (by kernel_rfl) fun f dims κ x h=>Eq.trans (by kernel_rfl) (aj h)
def Es {S:Type} (k:Nat):Rw S:=ah mU xn fun c κ=>aa k (sh k c) (av κ)
def Ti {S:Type} (k:Nat):Fx S:=fp 9 [] [] k Tryz.f132 0
theorem Ia {S:Type} (o:Obj) (ho:ag o) (k:Nat):Tl o 132 (Es k:Rw S):=ai (Ti k) trivial Tryz.func132 (by kernel_rfl) fun c κ x h=>Eq.trans (by kernel_rfl) (aj h)
def MN {S:Type} (k:Nat):Rw S:=ah I5 xn fun s κ=>aa k (B6 k s) (aQ κ)
def AY {S:Type} (k:Nat):Fx S:=fp 19 [(132,Es k)] [(2,a6 [0,1,7,8] [],ap 4 5)] k Tryz.f175 0
def KE (s:List Cl) (v8:Int):St UU:=⟨[(0,(sC s)),(1,(.func 132 [] [])),(7,(.int .i64 (s.length:Int))),(8,(iI v8))],[],[],[]⟩
section
variable {S:Type} (k:Nat) (s:List Cl) (κ:Out UU→Option S)
theorem VB: ∀n v8,(AY k).lp κ 2 [] n (KE s v8)=pM k (aQ κ) s n v8:=ct (ws k (aQ κ) s) rfl (fun _=>rfl) fun r v8=>by kernel_rfl
end
theorem Yg {S:Type} (o:Obj) (ho:ag o) (k:Nat):Tl o 175 (MN k:Rw S):=ai (AY k) ⟨Ia o ho k,trivial⟩ Tryz.func175 (by kernel_rfl) fun s κ x h=>Eq.trans (b:=GP k (aQ κ) (fun v8=>(AY k).lp κ 2 [] k (KE s v8)) s) (by kernel_rfl) (Eq.trans (by simp only [VB];rfl) (aj h))
def MO {S:Type} (k:Nat):Rw S:=ah I5 xn fun s κ=>aa k (B4 k s) (av κ)
def Tk {S:Type} (k:Nat):Fx S:=fp 9 [(175,MN k)] [] k Tryz.f131 0
theorem Yh {S:Type} (o:Obj) (ho:ag o) (k:Nat):Tl o 131 (MO k:Rw S):=ai (Tk k) ⟨Yg o ho k,trivial⟩ Tryz.func131 (by kernel_rfl) fun s κ x h=>Eq.trans (by kernel_rfl) (aj h)
def uw {S:Type} (k:Nat):Rw S:=ah dU xn fun f κ=>aa k (kN k f) (av κ)
def Tn {S:Type} (k:Nat):Fx S:=fp 10 [(95,nH k),(131,MO k)] [] k Tryz.f84 0
theorem xW {S:Type} (o:Obj) (ho:ag o) (k:Nat):Tl o 84 (uw k:Rw S):=ai (Tn k) ⟨oP o ho k,Yh o ho k,trivial⟩ Tryz.func84 (by kernel_rfl) fun f κ x h=>Eq.trans (by kernel_rfl) (aj h)
def MP {S:Type} (k:Nat):Rw S:=ah mV xn fun t vars dims κ=>aa k (sX k t vars dims) (av κ)
def qU {S:Type} (k:Nat):Fx S:=fp 138 [(84,uw k),(95,nH k),(171,LH k),(172,LJ k),(173,LP k),(174,MM k)] [(1000003,a6 [1,2,3] [(3,6)],ap 2 3),(15,a6 [2,3,107,108,109] [(3,6)],ap 6 23)] k Tryz.f127 0
def KF (t:Tm) (vars dims:Int):St UU:=⟨[(1,(iI vars)),(2,(iI dims)),(3,(pt 3))],[(3,bT t)],[],[]⟩
def KG (t:Tm) (dims:Int) (v109:Int):St UU:=⟨[(2,(iI dims)),(3,(pt 3)),(107,(sB t.sys)),(108,(.int .i64 (t.sys.length:Int))),(109,(iI v109))],[(3,bT t)],[],[]⟩
section
variable {S:Type} (k:Nat) (t:Tm) (vars dims:Int) (κ:Out UU→Option S)
theorem VE: ∀n v109,(qU k).lp κ 15 [] n (KG t dims v109)=kf k (av κ) t dims n v109:=ct (wz k (av κ) t dims) rfl (fun _=>rfl) fun r v109=>by kernel_rfl
theorem VC: ∀n,(qU k).jn κ 1000003 [] n (KF t vars dims)=yF k (av κ) t vars dims n:=lm (rZ k (av κ) t vars dims (fun v109=>kf k (av κ) t dims k v109)) rfl (fun _=>rfl) (Eq.trans (b:=rZ k (av κ) t vars dims (fun v109=>(qU k).lp κ 15 [] k (KG t dims v109))) (by kernel_rfl) (by simp only [VE]))
end
theorem Yi {S:Type} (o:Obj) (ho:ag o) (k:Nat):Tl o 127 (MP k:Rw S):=ai (qU k) ⟨xW o ho k,oP o ho k,Xf o ho k,Xh o ho k,Xm o ho k,Yf o ho k,trivial⟩ Tryz.func127 (by kernel_rfl) fun t vars dims κ x h=>Eq.trans (b:=GW k (av κ) ((qU k).jn κ 1000003 [] k (KF t vars dims)) t vars dims) (by kernel_rfl) (Eq.trans (by simp only [VC];rfl) (aj h))
def qm {S:Type} (hd:dt S):Rw S:=ah I6 xn fun t vars dims bound κ=>hd t vars dims bound (av κ)
def MQ {S:Type} (hd:dt S) (k:Nat):Rw S:=ah ZN RG fun a_k v d c0 c1 c2 κ=>aa k (sV hd k a_k v d c0 c1 c2) (fS c0 c1 c2 κ)
def Tp {S:Type} (hd:dt S) (k:Nat):Fx S:=fp 21 [(81,qm hd)] [] k Tryz.f129 3
theorem Yj {S:Type} (o:Obj) (ho:ag o) (hd:dt S) (Hd:Tl o 81 (qm hd)) (k:Nat):Tl o 129 (MQ hd k:Rw S):=ai (Tp hd k) ⟨Hd,trivial⟩ Tryz.func129 (by kernel_rfl) fun a_k v d c0 c1 c2 κ x h=>Eq.trans (by kernel_rfl) (aj h)
def MS {S:Type} (hd:dt S) (k:Nat):Rw S:=ah ZO RG fun t c0 c1 c2 κ=>aa k (xO hd k t c0 c1 c2) (fS c0 c1 c2 κ)
def mo {S:Type} (hd:dt S) (k:Nat):Fx S:=fp 60 [(110,ql k),(129,MQ hd k)] [(2,a6 [1,2,15,16,17] [(2,6),(1000000,1),(1000001,1),(1000002,1)],ap 4 5),(12,a6 [1,9,40,41,42] [(1000000,1),(1000001,1),(1000002,1)],ap 7 47),(15,a6 [1,9,40,41,42,47,48,49] [(1000000,1),(1000001,1),(1000002,1)],ap 15 13103)] k Tryz.f128 3
def Dw (c0 c1:Int) (c2:Bool) (t:Tm) (v17:Int):St UU:=⟨[(1,(.func 129 [] [(pt 1000000),(pt 1000001),(pt 1000002)])),(2,(pt 2)),(15,(sT t.kids)),(16,(.int .i64 (t.kids.length:Int))),(17,(iI v17))],[(2,bT t),(1000000,bI c0),(1000001,bI c1),(1000002,.cells [(.bool c2)])],[],[]⟩
def tW (c0 c1:Int) (c2:Bool) (t:Tm) (v42 more9:Int):St UU:=⟨[(1,(.func 129 [] [(pt 1000000),(pt 1000001),(pt 1000002)])),(9,(iI more9)),(40,(sB t.sys)),(41,(.int .i64 (t.sys.length:Int))),(42,(iI v42))],[(1000000,bI c0),(1000001,bI c1),(1000002,.cells [(.bool c2)])],[],[]⟩
def KH (c0 c1:Int) (c2:Bool) (t:Tm) (v42:Int) (x4:(Br Tm)) (more9:Int) (v49:Int):St UU:=⟨[(1,(.func 129 [] [(pt 1000000),(pt 1000001),(pt 1000002)])),(9,(iI more9)),(40,(sB t.sys)),(41,(.int .i64 (t.sys.length:Int))),(42,(iI v42)),(47,(sT x4.kids)),(48,(.int .i64 (x4.kids.length:Int))),(49,(iI v49))],[(1000000,bI c0),(1000001,bI c1),(1000002,.cells [(.bool c2)])],[],[]⟩
section
variable {S:Type} (hd:dt S) (k:Nat) (t:Tm) (c0 c1:Int) (c2:Bool) (κ:Out UU→Option S)
theorem VH (v42 x4 more9 κ1): ∀n v49,(mo hd k).lp κ 15 [κ1] n (KH c0 c1 c2 t v42 x4 more9 v49)=lO hd k (fS c0 c1 c2 κ) (fun v42 more9=>κ1 (tW c0 c1 c2 t v42 more9)) c0 c1 c2 t v42 x4 more9 n v49:=ct (wx hd k (fS c0 c1 c2 κ) c0 c1 c2 t v42 x4 more9 (fun v42 more9=>κ1 (tW c0 c1 c2 t v42 more9))) rfl (fun _=>rfl) fun r v49=>by kernel_rfl
theorem VG: ∀n v42 more9,(mo hd k).lp κ 12 [] n (tW c0 c1 c2 t v42 more9)=h_ hd k (fS c0 c1 c2 κ) c0 c1 c2 t n v42 more9:=aV (fun own=>rV hd k (fS c0 c1 c2 κ) c0 c1 c2 t (fun v42 x4 more9 v49=>lO hd k (fS c0 c1 c2 κ) own c0 c1 c2 t v42 x4 more9 k v49) own) rfl (fun _=>rfl) fun r v42 more9=>Eq.trans (b:=rV hd k (fS c0 c1 c2 κ) c0 c1 c2 t (fun v42 x4 more9 v49=>(mo hd k).lp κ 15 [r] k (KH c0 c1 c2 t v42 x4 more9 v49)) (fun v42 more9=>r (tW c0 c1 c2 t v42 more9)) v42 more9) (by kernel_rfl) (by simp only [VH])
theorem VF: ∀n v17,(mo hd k).lp κ 2 [] n (Dw c0 c1 c2 t v17)=ni hd k (fS c0 c1 c2 κ) c0 c1 c2 t n v17:=ct (fun own=>rU hd k (fS c0 c1 c2 κ) c0 c1 c2 t (fun v42 more9=>h_ hd k (fS c0 c1 c2 κ) c0 c1 c2 t k v42 more9) own) rfl (fun _=>rfl) fun r v17=>Eq.trans (b:=rU hd k (fS c0 c1 c2 κ) c0 c1 c2 t (fun v42 more9=>(mo hd k).lp κ 12 [] k (tW c0 c1 c2 t v42 more9)) (fun v17=>r (Dw c0 c1 c2 t v17)) v17) (by kernel_rfl) (by simp only [VG])
end
theorem Yk {S:Type} (o:Obj) (ho:ag o) (hd:dt S) (Hd:Tl o 81 (qm hd)) (k:Nat):Tl o 128 (MS hd k:Rw S):=ai (mo hd k) ⟨tf o ho k,Yj o ho hd Hd k,trivial⟩ Tryz.func128 (by kernel_rfl) fun t c0 c1 c2 κ x h=>Eq.trans (b:=GT hd k (fS c0 c1 c2 κ) (fun v17=>(mo hd k).lp κ 2 [] k (Dw c0 c1 c2 t v17)) t c0 c1 c2) (by kernel_rfl) (Eq.trans (by simp only [VF];rfl) (aj h))
def To {S:Type} (hd:dt S) (k:Nat):Fx S:=fp 24 [(127,MP k),(128,MS hd k)] [] k Tryz.f81 0
theorem CL {S:Type} (o:Obj) (ho:ag o): ∀k:Nat,Tl o 81 (qm (fI k:dt S))
 |0=>e9 fun t vars dims bound κ x h=>by cases h
 |k+1=>ai (To (fI k) k) ⟨Yi o ho k,Yk o ho (fI k) (CL o ho k) k,trivial⟩ Tryz.func81 (by kernel_rfl) fun t vars dims bound κ x h=>Eq.trans (by kernel_rfl) h
def qn {S:Type} (k:Nat):Rw S:=ah fK xn fun t κ=>aa k (kV k t) (aQ κ)
def Tq {S:Type} (k:Nat):Fx S:=fp 12 [(80,DT k),(81,qm (fI k))] [] k Tryz.f91 0
theorem tg {S:Type} (o:Obj) (ho:ag o) (k:Nat):Tl o 91 (qn k:Rw S):=ai (Tq k) ⟨HL o ho k,CL o ho k,trivial⟩ Tryz.func91 (by kernel_rfl) fun t κ x h=>Eq.trans (by kernel_rfl) (aj h)
def ko {S:Type} (k:Nat):Rw S:=ah ZP eN fun a_e c0 κ=>aa k (gc k a_e c0) (adD κ)
def Tr {S:Type} (k:Nat):Fx S:=fp 13 [] [] k Tryz.f85 1
theorem lb {S:Type} (o:Obj) (ho:ag o) (k:Nat):Tl o 85 (ko k:Rw S):=ai (Tr k) trivial Tryz.func85 (by kernel_rfl) fun a_e c0 κ x h=>Eq.trans (by kernel_rfl) (aj h)
def nI {S:Type} (k:Nat):Rw S:=ah CY xn fun l κ=>aa k (gQ k l) (yU κ)
def AZ {S:Type} (k:Nat):Fx S:=fp 22 [(85,ko k),(91,qn k)] [(3,a6 [3,8,9,10] [(7,1)],ap 5 11)] k Tryz.f48 0
def KJ (l:List Tm) (b7_0 v10:Int):St UU:=⟨[(3,(pt 7)),(8,(sT l)),(9,(.int .i64 (l.length:Int))),(10,(iI v10))],[(7,bI b7_0)],[],[]⟩
section
variable {S:Type} (k:Nat) (l:List Tm) (κ:Out UU→Option S)
theorem VI: ∀n b7_0 v10,(AZ k).lp κ 3 [] n (KJ l b7_0 v10)=oW k (yU κ) l n b7_0 v10:=aV (vd k (yU κ) l) rfl (fun _=>rfl) fun r b7_0 v10=>by kernel_rfl
end
theorem oQ {S:Type} (o:Obj) (ho:ag o) (k:Nat):Tl o 48 (nI k:Rw S):=ai (AZ k) ⟨lb o ho k,tg o ho k,trivial⟩ Tryz.func48 (by kernel_rfl) fun l κ x h=>Eq.trans (b:=Fw k (yU κ) (fun b7_0 v10=>(AZ k).lp κ 3 [] k (KJ l b7_0 v10)) l) (by kernel_rfl) (Eq.trans (by simp only [VI];rfl) (aj h))
def kq {S:Type} (k:Nat):Rw S:=ah ZQ eN fun c0 κ=>aa k (cr k c0) (fw c0 κ)
def Tt {S:Type} (k:Nat):Fx S:=fp 8 [] [] k Tryz.f52 1
theorem lc {S:Type} (o:Obj) (ho:ag o) (k:Nat):Tl o 52 (kq k:Rw S):=ai (Tt k) trivial Tryz.func52 (by kernel_rfl) fun c0 κ x h=>Eq.trans (by kernel_rfl) (aj h)
def zu {S:Type} (k:Nat):Rw S:=ah I8 xn fun l κ=>aa k (om k l) (aQ κ)
def A0 {S:Type} (k:Nat):Fx S:=fp 15 [(95,nH k)] [(2,a6 [5,6,7] [],ap 4 5)] k Tryz.f96 0
def KK (l:List (List Cl)) (v7:Int):St UU:=⟨[(5,(zP l .none)),(6,(.int .i64 (l.length:Int))),(7,(iI v7))],[],[],[]⟩
section
variable {S:Type} (k:Nat) (l:List (List Cl)) (κ:Out UU→Option S)
theorem VJ: ∀n v7,(A0 k).lp κ 2 [] n (KK l v7)=pf k (aQ κ) l n v7:=ct (vB k (aQ κ) l) rfl (fun _=>rfl) fun r v7=>by kernel_rfl
end
theorem Cv {S:Type} (o:Obj) (ho:ag o) (k:Nat):Tl o 96 (zu k:Rw S):=ai (A0 k) ⟨oP o ho k,trivial⟩ Tryz.func96 (by kernel_rfl) fun l κ x h=>Eq.trans (b:=F1 k (aQ κ) (fun v7=>(A0 k).lp κ 2 [] k (KK l v7)) l) (by kernel_rfl) (Eq.trans (by simp only [VJ];rfl) (aj h))
def Et {S:Type} (k:Nat):Rw S:=ah cn xn fun κ=>aa k (sz k) (adE κ)
def Tu {S:Type} (k:Nat):Fx S:=fx 1 (fun _=>[]) (fun _=>false) [] [] k Tryz.f21 false [true] 0
theorem Ib {S:Type} (o:Obj) (ho:ag o) (k:Nat):Tl o 21 (Et k:Rw S):=ai (Tu k) trivial Tryz.func21 (by kernel_rfl) fun κ x h=>Eq.trans (by kernel_rfl) (aj h)
def Eu {S:Type} (k:Nat):Rw S:=ah eV xn fun i κ=>aa k (ou k i) (bX κ)
def Tv {S:Type} (k:Nat):Fx S:=fp 9 [] [] k Tryz.f163 0
theorem Ic {S:Type} (o:Obj) (ho:ag o) (k:Nat):Tl o 163 (Eu k:Rw S):=ai (Tv k) trivial Tryz.func163 (by kernel_rfl) fun i κ x h=>Eq.trans (by kernel_rfl) (aj h)
def MU {S:Type} (k:Nat):Rw S:=ah I9 xn fun s a_from a_by κ=>aa k (kQ k s a_from a_by) (uk κ)
def Tw {S:Type} (k:Nat):Fx S:=fp 46 [(163,Eu k)] [] k Tryz.f147 0
theorem Ym {S:Type} (o:Obj) (ho:ag o) (k:Nat):Tl o 147 (MU k:Rw S):=ai (Tw k) ⟨Ic o ho k,trivial⟩ Tryz.func147 (by kernel_rfl) fun s a_from a_by κ x h=>Eq.trans (by kernel_rfl) (aj h)
def MV {S:Type} (k:Nat):Rw S:=ah I_ xn fun c a_from a_by κ=>aa k (wP k c a_from a_by) (Lu κ)
def Tx {S:Type} (k:Nat):Fx S:=fp 42 [(146,Ea k),(147,MU k)] [] k Tryz.f99 0
theorem Yn {S:Type} (o:Obj) (ho:ag o) (k:Nat):Tl o 99 (MV k:Rw S):=ai (Tx k) ⟨HX o ho k,Ym o ho k,trivial⟩ Tryz.func99 (by kernel_rfl) fun c a_from a_by κ x h=>Eq.trans (by kernel_rfl) (aj h)
def MW {S:Type} (k:Nat):Rw S:=ah ZR Ae fun a_have c c0 c1 κ=>aa k (BR k a_have c c0 c1) (adF c0 c1 κ)
def Tz {S:Type} (k:Nat):Fx S:=fx 22 (fun _=>[]) (fun _=>false) [(99,MV k)] [] k Tryz.f98 false [true,false] 2
theorem Yo {S:Type} (o:Obj) (ho:ag o) (k:Nat):Tl o 98 (MW k:Rw S):=ai (Tz k) ⟨Yn o ho k,trivial⟩ Tryz.func98 (by kernel_rfl) fun a_have c c0 c1 κ x h=>Eq.trans (by kernel_rfl) (aj h)
end
end Go.Proofs.YtapmagaejigpnaaGreatDoor
namespace Go.Proofs.YtapmagaejigpnaaGreatDoor
open Go PI
set_option linter.unusedVariables false
set_option maxRecDepth 100000
noncomputable section
def MX {S:Type} (k:Nat):Rw S:=ah ZS Ae fun l a_from c0 c1 κ=>aa k (xa k l a_from c0 c1) (yV c0 c1 κ)
def A1 {S:Type} (k:Nat):Fx S:=fx 33 (fun|23=>[true,false]|_=>[]) (fun _=>false) [(98,MW k)] [(2,⟨[(1,some (100001,true)),(2,.none),(13,.none),(14,.none),(15,.none)],[(1000000,[.none]),(1000001,[.none])]⟩,ap 4 5)] k Tryz.f97 false [] 2
def KL (c0 c1:Int) (l:List Cl) (v1:List Cl) (v15:Int):St UU:=⟨[(1,(.own 100001 0)),(2,(.func 98 [] [(pt 1000000),(pt 1000001)])),(13,(sC l)),(14,(.int .i64 (l.length:Int))),(15,(iI v15))],[(1000000,bI c0),(1000001,bI c1)],[(100001,⟨0,ET.C,v1⟩)],[(100001,.wr)]⟩
section
variable {S:Type} (k:Nat) (l a_from:List Cl) (c0 c1:Int) (κ:Out UU→Option S)
theorem VK: ∀n v1 v15,(A1 k).lp κ 2 [] n (KL c0 c1 l v1 v15)=pd k (yV c0 c1 κ) c0 c1 l n v1 v15:=aV (vw k (yV c0 c1 κ) c0 c1 l) rfl (fun _=>rfl) fun r v1 v15=>by kernel_rfl
end
theorem Yp {S:Type} (o:Obj) (ho:ag o) (k:Nat):Tl o 97 (MX k:Rw S):=ai (A1 k) ⟨Yo o ho k,trivial⟩ Tryz.func97 (by kernel_rfl) fun l a_from c0 c1 κ x h=>Eq.trans (b:=FY k (yV c0 c1 κ) (fun v1 v15=>(A1 k).lp κ 2 [] k (KL c0 c1 l v1 v15)) l a_from c0 c1) (by kernel_rfl) (Eq.trans (by simp only [VK];rfl) (aj h))
def qr {S:Type} (k:Nat):Rw S:=ah CZ xn fun f a_from a_by κ=>aa k (kO k f a_from a_by) (au κ)
def TB {S:Type} (k:Nat):Fx S:=fx 31 (fun|21=>[false,true,false]|_=>[]) (fun _=>false) [(21,Et k),(96,zu k),(97,MX k),(100,jq k)] [] k Tryz.f57 false [] 0
theorem th {S:Type} (o:Obj) (ho:ag o) (k:Nat):Tl o 57 (qr k:Rw S):=ai (TB k) ⟨Ib o ho k,Cv o ho k,Yp o ho k,jT o ho k,trivial⟩ Tryz.func57 (by kernel_rfl) fun f a_from a_by κ x h=>Eq.trans (by kernel_rfl) (aj h)
def Ev {S:Type} (k:Nat):Rw S:=ah ZT eN fun f c0 κ=>aa k (iO k f c0) (Lv κ)
def TC {S:Type} (k:Nat):Fx S:=fp 23 [(52,kq k),(57,qr k),(85,ko k)] [] k Tryz.f53 1
theorem Id {S:Type} (o:Obj) (ho:ag o) (k:Nat):Tl o 53 (Ev k:Rw S):=ai (TC k) ⟨lc o ho k,th o ho k,lb o ho k,trivial⟩ Tryz.func53 (by kernel_rfl) fun f c0 κ x h=>Eq.trans (by kernel_rfl) (aj h)
def MZ {S:Type} (k:Nat):Rw S:=ah I8 xn fun l κ=>aa k (w6 k l) (aQ κ)
def A2 {S:Type} (k:Nat):Fx S:=fp 15 [(84,uw k)] [(2,a6 [5,6,7] [],ap 4 5)] k Tryz.f176 0
def KM (l:List (List Cl)) (v7:Int):St UU:=⟨[(5,(zP l .none)),(6,(.int .i64 (l.length:Int))),(7,(iI v7))],[],[],[]⟩
section
variable {S:Type} (k:Nat) (l:List (List Cl)) (κ:Out UU→Option S)
theorem VL: ∀n v7,(A2 k).lp κ 2 [] n (KM l v7)=o_ k (aQ κ) l n v7:=ct (vr k (aQ κ) l) rfl (fun _=>rfl) fun r v7=>by kernel_rfl
end
theorem Yr {S:Type} (o:Obj) (ho:ag o) (k:Nat):Tl o 176 (MZ k:Rw S):=ai (A2 k) ⟨xW o ho k,trivial⟩ Tryz.func176 (by kernel_rfl) fun l κ x h=>Eq.trans (b:=FS k (aQ κ) (fun v7=>(A2 k).lp κ 2 [] k (KM l v7)) l) (by kernel_rfl) (Eq.trans (by simp only [VL];rfl) (aj h))
def Ew {S:Type} (k:Nat):Rw S:=ah g5 xn fun f g κ=>aa k (su k f g) (au κ)
def TD {S:Type} (k:Nat):Fx S:=fp 14 [(100,jq k)] [] k Tryz.f162 0
theorem Ie {S:Type} (o:Obj) (ho:ag o) (k:Nat):Tl o 162 (Ew k:Rw S):=ai (TD k) ⟨jT o ho k,trivial⟩ Tryz.func162 (by kernel_rfl) fun f g κ x h=>Eq.trans (by kernel_rfl) (aj h)
def M0 {S:Type} (k:Nat):Rw S:=ah g5 xn fun f g κ=>aa k (wU k f g) (au κ)
def TE {S:Type} (k:Nat):Fx S:=fp 19 [(162,Ew k),(176,MZ k)] [] k Tryz.f133 0
theorem Ys {S:Type} (o:Obj) (ho:ag o) (k:Nat):Tl o 133 (M0 k:Rw S):=ai (TE k) ⟨Ie o ho k,Yr o ho k,trivial⟩ Tryz.func133 (by kernel_rfl) fun f g κ x h=>Eq.trans (by kernel_rfl) (aj h)
def M1 {S:Type} (k:Nat):Rw S:=ah ZU eN fun f g c0 κ=>aa k (kM k f g c0) (Lv κ)
def TF {S:Type} (k:Nat):Fx S:=fp 26 [(52,kq k),(85,ko k),(133,M0 k)] [] k Tryz.f86 1
theorem Yt {S:Type} (o:Obj) (ho:ag o) (k:Nat):Tl o 86 (M1 k:Rw S):=ai (TF k) ⟨lc o ho k,lb o ho k,Ys o ho k,trivial⟩ Tryz.func86 (by kernel_rfl) fun f g c0 κ x h=>Eq.trans (by kernel_rfl) (aj h)
def M2 {S:Type} (k:Nat):Rw S:=ah ZV xn fun l_0 l_1 f a_from κ=>aa k (sA k l_0 l_1 f a_from) (adG κ)
def TG {S:Type} (k:Nat):Fx S:=fp 31 [(57,qr k)] [] k Tryz.f190 0
theorem Yu {S:Type} (o:Obj) (ho:ag o) (k:Nat):Tl o 190 (M2 k:Rw S):=ai (TG k) ⟨th o ho k,trivial⟩ Tryz.func190 (by kernel_rfl) fun l_0 l_1 f a_from κ x h=>Eq.trans (by kernel_rfl) (aj h)
def zw {S:Type} (hd:fB S):Rw S:=ah ZW xn fun l_0 l_1 t v d κ=>hd l_0 l_1 t v d (eJ κ)
def jC {S:Type} (hd:fB S) (k:Nat):Fx S:=fp 128 [(110,ql k),(141,zw hd),(190,M2 k)] [(1000006,⟨[(2,.none),(3,.none),(4,.none),(5,.none),(8,.none),(9,.none)],[(4,[.none,.none]),(5,[.none,.none,.none,.none,.none,.none]),(8,[.none,.none,.none,some (200515,true),some (200516,true),some (200517,true)]),(9,[.none,.none,.none,.none,some (200580,true),some (200581,true)])]⟩,ap 3 7),(7,⟨[(2,.none),(3,.none),(4,.none),(5,.none),(8,.none),(9,.none),(55,.none),(56,.none),(57,.none)],[(4,[.none,.none]),(5,[.none,.none,.none,.none,.none,.none]),(8,[.none,.none,.none,some (200515,true),some (200516,true),some (200517,true)]),(9,[.none,.none,.none,.none,some (200580,true),some (200581,true)])]⟩,ap 6 23),(16,⟨[(2,.none),(3,.none),(4,.none),(8,.none),(9,.none),(14,.none),(88,.none),(89,.none),(90,.none)],[(4,[.none,.none]),(8,[.none,.none,.none,some (200515,true),some (200516,true),some (200517,true)]),(9,[.none,.none,.none,.none,some (200580,true),some (200581,true)])]⟩,ap 9 191),(20,⟨[(2,.none),(3,.none),(4,.none),(8,.none),(9,.none),(14,.none),(17,.none),(88,.none),(89,.none),(90,.none),(101,.none),(102,.none),(103,.none)],[(4,[.none,.none]),(8,[.none,.none,.none,some (200515,true),some (200516,true),some (200517,true)]),(9,[.none,.none,.none,.none,some (200580,true),some (200581,true)]),(17,[.none,some (201089,true)])]⟩,ap 19 183487)] k Tryz.f141 0
def KN (l_0 l_1:Int) (t:Tm) (r2:List Cl) (v d:Int) (b9_1:Int):St UU:=⟨[(2,(iI v)),(3,(iI d)),(4,(pt 4)),(5,(pt 5)),(8,(pt 8)),(9,(pt 9))],[(4,.cells [(iI l_0),(iI l_1)]),(5,bT t),(8,.cells [(iI 0),(iI 0),(.str ByteArray.empty),(.own 200515 0),(.own 200516 0),(.own 200517 0)]),(9,.cells [(iI t.kind),(iI b9_1),(.str t.name),(sC r2),(.own 200580 0),(.own 200581 0)])],[(200581,⟨0,ET.B,([]:List (Br Tm))⟩),(200580,⟨0,ET.T,([]:List Tm)⟩),(200517,⟨0,ET.B,([]:List (Br Tm))⟩),(200516,⟨0,ET.T,([]:List Tm)⟩),(200515,⟨0,ET.C,([]:List Cl)⟩)],[(200581,.wr),(200580,.wr),(200517,.wr),(200516,.wr),(200515,.wr)]⟩
def Dx (l_0 l_1:Int) (t:Tm) (b9_1:Int) (r2:List Cl) (v d:Int) (b9_4:List Tm) (v57:Int):St UU:=⟨[(2,(iI v)),(3,(iI d)),(4,(pt 4)),(5,(pt 5)),(8,(pt 8)),(9,(pt 9)),(55,(sT t.kids)),(56,(.int .i64 (t.kids.length:Int))),(57,(iI v57))],[(4,.cells [(iI l_0),(iI l_1)]),(5,bT t),(8,.cells [(iI 0),(iI 0),(.str ByteArray.empty),(.own 200515 0),(.own 200516 0),(.own 200517 0)]),(9,.cells [(iI t.kind),(iI b9_1),(.str t.name),(sC r2),(.own 200580 0),(.own 200581 0)])],[(200581,⟨0,ET.B,([]:List (Br Tm))⟩),(200580,⟨0,ET.T,b9_4⟩),(200517,⟨0,ET.B,([]:List (Br Tm))⟩),(200516,⟨0,ET.T,([]:List Tm)⟩),(200515,⟨0,ET.C,([]:List Cl)⟩)],[(200581,.wr),(200580,.wr),(200517,.wr),(200516,.wr),(200515,.wr)]⟩
def tX (l_0 l_1:Int) (t:Tm) (b9_1:Int) (r2:List Cl) (b9_4:List Tm) (v d:Int) (b9_5:List (Br Tm)) (more14 v90:Int):St UU:=⟨[(2,(iI v)),(3,(iI d)),(4,(pt 4)),(8,(pt 8)),(9,(pt 9)),(14,(iI more14)),(88,(sB t.sys)),(89,(.int .i64 (t.sys.length:Int))),(90,(iI v90))],[(4,.cells [(iI l_0),(iI l_1)]),(8,.cells [(iI 0),(iI 0),(.str ByteArray.empty),(.own 200515 0),(.own 200516 0),(.own 200517 0)]),(9,.cells [(iI t.kind),(iI b9_1),(.str t.name),(sC r2),(.own 200580 0),(.own 200581 0)])],[(200581,⟨0,ET.B,b9_5⟩),(200580,⟨0,ET.T,b9_4⟩),(200517,⟨0,ET.B,([]:List (Br Tm))⟩),(200516,⟨0,ET.T,([]:List Tm)⟩),(200515,⟨0,ET.C,([]:List Cl)⟩)],[(200581,.wr),(200580,.wr),(200517,.wr),(200516,.wr),(200515,.wr)]⟩
def KO (r12:List Cl) (l_0 l_1:Int) (t:Tm) (b9_1:Int) (r2:List Cl) (b9_4:List Tm) (b9_5:List (Br Tm)) (x10:(Br Tm)) (more14 v d v90:Int) (b17_1:List Tm) (v103:Int):St UU:=⟨[(2,(iI v)),(3,(iI d)),(4,(pt 4)),(8,(pt 8)),(9,(pt 9)),(14,(iI more14)),(17,(pt 17)),(88,(sB t.sys)),(89,(.int .i64 (t.sys.length:Int))),(90,(iI v90)),(101,(sT x10.kids)),(102,(.int .i64 (x10.kids.length:Int))),(103,(iI v103))],[(4,.cells [(iI l_0),(iI l_1)]),(8,.cells [(iI 0),(iI 0),(.str ByteArray.empty),(.own 200515 0),(.own 200516 0),(.own 200517 0)]),(9,.cells [(iI t.kind),(iI b9_1),(.str t.name),(sC r2),(.own 200580 0),(.own 200581 0)]),(17,.cells [(sC r12),(.own 201089 0)])],[(201089,⟨0,ET.T,b17_1⟩),(200581,⟨0,ET.B,b9_5⟩),(200580,⟨0,ET.T,b9_4⟩),(200517,⟨0,ET.B,([]:List (Br Tm))⟩),(200516,⟨0,ET.T,([]:List Tm)⟩),(200515,⟨0,ET.C,([]:List Cl)⟩)],[(201089,.wr),(200581,.wr),(200580,.wr),(200517,.wr),(200516,.wr),(200515,.wr)]⟩
section
variable {S:Type} (hd:fB S) (k:Nat) (l_0 l_1:Int) (t:Tm) (v d:Int) (κ:Out UU→Option S)
theorem VQ (r12 b9_1 r2 b9_4 b9_5 x10 more14 v90 κ2): ∀n b17_1 v103,(jC hd k).lp κ 20 [κ2] n (KO r12 l_0 l_1 t b9_1 r2 b9_4 b9_5 x10 more14 v d v90 b17_1 v103)=lD hd k (eJ κ) (fun b9_5 more14 v90=>κ2 (tX l_0 l_1 t b9_1 r2 b9_4 v d b9_5 more14 v90)) r12 l_0 l_1 t b9_1 r2 b9_4 b9_5 x10 more14 v d v90 n b17_1 v103:=aV (vE hd k (eJ κ) r12 l_0 l_1 t b9_1 r2 b9_4 b9_5 x10 more14 v d v90 (fun b9_5 more14 v90=>κ2 (tX l_0 l_1 t b9_1 r2 b9_4 v d b9_5 more14 v90))) rfl (fun _=>rfl) fun r b17_1 v103=>by kernel_rfl
theorem VO (b9_1 r2 b9_4): ∀n b9_5 more14 v90,(jC hd k).lp κ 16 [] n (tX l_0 l_1 t b9_1 r2 b9_4 v d b9_5 more14 v90)=fg hd k (eJ κ) l_0 l_1 t b9_1 r2 b9_4 v d n b9_5 more14 v90:=jj (fun own=>rj hd k (eJ κ) l_0 l_1 t b9_1 r2 b9_4 v d (fun r12 b9_5 x10 more14 v90 b17_1 v103=>lD hd k (eJ κ) own r12 l_0 l_1 t b9_1 r2 b9_4 b9_5 x10 more14 v d v90 k b17_1 v103) own) rfl (fun _=>rfl) fun r b9_5 more14 v90=>Eq.trans (b:=rj hd k (eJ κ) l_0 l_1 t b9_1 r2 b9_4 v d (fun r12 b9_5 x10 more14 v90 b17_1 v103=>(jC hd k).lp κ 20 [r] k (KO r12 l_0 l_1 t b9_1 r2 b9_4 b9_5 x10 more14 v d v90 b17_1 v103)) (fun b9_5 more14 v90=>r (tX l_0 l_1 t b9_1 r2 b9_4 v d b9_5 more14 v90)) b9_5 more14 v90) (by kernel_rfl) (by simp only [VQ])
theorem VN (b9_1 r2): ∀n b9_4 v57,(jC hd k).lp κ 7 [] n (Dx l_0 l_1 t b9_1 r2 v d b9_4 v57)=j7 hd k (eJ κ) l_0 l_1 t b9_1 r2 v d n b9_4 v57:=aV (fun own=>ri hd k (eJ κ) l_0 l_1 t b9_1 r2 v d (fun b9_4 b9_5 more14 v90=>fg hd k (eJ κ) l_0 l_1 t b9_1 r2 b9_4 v d k b9_5 more14 v90) own) rfl (fun _=>rfl) fun r b9_4 v57=>Eq.trans (b:=ri hd k (eJ κ) l_0 l_1 t b9_1 r2 v d (fun b9_4 b9_5 more14 v90=>(jC hd k).lp κ 16 [] k (tX l_0 l_1 t b9_1 r2 b9_4 v d b9_5 more14 v90)) (fun b9_4 v57=>r (Dx l_0 l_1 t b9_1 r2 v d b9_4 v57)) b9_4 v57) (by kernel_rfl) (by simp only [VO])
theorem VM (r2): ∀n b9_1,(jC hd k).jn κ 1000006 [] n (KN l_0 l_1 t r2 v d b9_1)=tA hd k (eJ κ) l_0 l_1 t r2 v d n b9_1:=tu (Bh hd k (eJ κ) l_0 l_1 t r2 v d (fun b9_1 b9_4 v57=>j7 hd k (eJ κ) l_0 l_1 t b9_1 r2 v d k b9_4 v57)) rfl (fun _=>rfl) (fun b9_1=>Eq.trans (b:=Bh hd k (eJ κ) l_0 l_1 t r2 v d (fun b9_1 b9_4 v57=>(jC hd k).lp κ 7 [] k (Dx l_0 l_1 t b9_1 r2 v d b9_4 v57)) b9_1) (by kernel_rfl) (by simp only [VN]))
end
theorem CM {S:Type} (o:Obj) (ho:ag o): ∀k:Nat,Tl o 141 (zw (dE k:fB S))
 |0=>e9 fun l_0 l_1 t v d κ x h=>by cases h
 |k+1=>ai (jC (dE k) k) ⟨tf o ho k,CM o ho k,Yu o ho k,trivial⟩ Tryz.func141 (by kernel_rfl) fun l_0 l_1 t v d κ x h=>Eq.trans (b:=F7 (dE k) k (eJ κ) (fun r2 b9_1=>(jC (dE k) k).jn κ 1000006 [] k (KN l_0 l_1 t r2 v d b9_1)) l_0 l_1 t v d) (by kernel_rfl) (Eq.trans (by simp only [VM];rfl) h)
def M3 {S:Type} (k:Nat):Rw S:=ah Ja RH fun c0 c1 c2 κ=>aa k (xj k c0 c1 c2) (adH c0 c1 c2 κ)
def TH {S:Type} (k:Nat):Fx S:=fp 10 [(141,zw (dE k))] [] k Tryz.f142 3
theorem Yv {S:Type} (o:Obj) (ho:ag o) (k:Nat):Tl o 142 (M3 k:Rw S):=ai (TH k) ⟨CM o ho k,trivial⟩ Tryz.func142 (by kernel_rfl) fun c0 c1 c2 κ x h=>Eq.trans (by kernel_rfl) (aj h)
def M4 {S:Type} (k:Nat):Rw S:=ah ZX RH fun t numbers c0 c1 c2 κ=>aa k (BX k t numbers c0 c1 c2) (yW c0 c1 c2 κ)
def A3 {S:Type} (k:Nat):Fx S:=⟨⟨30,(fun _=>[]),(fun _=>false),.none,fun|6=>true|7=>true|_=>false⟩,[(91,qn k),(142,M3 k)],[(5,⟨[(2,.none),(6,.none),(7,.none),(17,.none),(18,.none),(19,.none)],[(1000000,[.none]),(1000001,[.none,.none,.none,.none,.none,.none]),(1000002,[.none]),(5000006,[.none,.none,.none,some (320200387,true),some (320200388,true),some (320200389,true)]),(5000007,[.none])]⟩,ap 5 11)],k,Tryz.f139,false,[],3,some (wC 16 189 Tryz.f189 k)⟩
def KP (c0:Int) (c1:Tm) (c2:Int) (numbers:List Int) (v19:Int):St UU:=⟨[(2,(.func 142 [] [(pt 1000000),(pt 1000001),(pt 1000002)])),(6,(pt 5000006)),(7,(pt 5000007)),(17,(mb numbers .none)),(18,(.int .i64 (numbers.length:Int))),(19,(iI v19))],[(1000000,bI c0),(1000001,bT c1),(1000002,bI c2),(5000006,.cells [(iI 0),(iI 0),(.str ByteArray.empty),(.own 320200387 0),(.own 320200388 0),(.own 320200389 0)]),(5000007,bI 0)],[(320200389,⟨0,ET.B,([]:List (Br Tm))⟩),(320200388,⟨0,ET.T,([]:List Tm)⟩),(320200387,⟨0,ET.C,([]:List Cl)⟩)],[(320200389,.wr),(320200388,.wr),(320200387,.wr)]⟩
section
variable {S:Type} (k:Nat) (t:Tm) (numbers:List Int) (c0:Int) (c1:Tm) (c2:Int) (κ:Out UU→Option S)
theorem VR: ∀n v19,(A3 k).lp κ 5 [] n (KP c0 c1 c2 numbers v19)=mZ k (yW c0 c1 c2 κ) c0 c1 c2 numbers n v19:=ct (vC k (yW c0 c1 c2 κ) c0 c1 c2 numbers) rfl (fun _=>rfl) fun r v19=>by kernel_rfl
end
theorem Yw {S:Type} (o:Obj) (ho:ag o) (k:Nat):Tl o 139 (M4 k:Rw S):=Ra (A3 k) rfl (Hx o Tryz.func189 (by kernel_rfl)) ⟨tg o ho k,Yv o ho k,trivial⟩ Tryz.func139 (by kernel_rfl) fun t numbers c0 c1 c2 κ x h=>Eq.trans (b:=F5 k (yW c0 c1 c2 κ) (fun v19=>(A3 k).lp κ 5 [] k (KP c0 c1 c2 numbers v19)) t numbers c0 c1 c2) (by kernel_rfl) (Eq.trans (by simp only [VR];rfl) (aj h))
def M5 {S:Type} (k:Nat):Rw S:=ah mV xn fun t a_from a_by κ=>aa k (xh k t a_from a_by) (bY κ)
def TI {S:Type} (k:Nat):Fx S:=fp 16 [(139,M4 k)] [] k Tryz.f93 0
theorem Yx {S:Type} (o:Obj) (ho:ag o) (k:Nat):Tl o 93 (M5 k:Rw S):=ai (TI k) ⟨Yw o ho k,trivial⟩ Tryz.func93 (by kernel_rfl) fun t a_from a_by κ x h=>Eq.trans (by kernel_rfl) (aj h)
def ux {S:Type} (k:Nat):Rw S:=ah lq xn fun s i κ=>aa k (iP k s i) (bX κ)
def TJ {S:Type} (k:Nat):Fx S:=fp 16 [(130,ut k)] [] k Tryz.f144 0
theorem xX {S:Type} (o:Obj) (ho:ag o) (k:Nat):Tl o 144 (ux k:Rw S):=ai (TJ k) ⟨xV o ho k,trivial⟩ Tryz.func144 (by kernel_rfl) fun s i κ x h=>Eq.trans (by kernel_rfl) (aj h)
def M6 {S:Type} (k:Nat):Rw S:=ah tw xn fun a_x κ=>aa k (HE k a_x) (aQ κ)
def TK {S:Type} (k:Nat):Fx S:=fp 21 [] [] k Tryz.f191 0
theorem Yy {S:Type} (o:Obj) (ho:ag o) (k:Nat):Tl o 191 (M6 k:Rw S):=ai (TK k) trivial Tryz.func191 (by kernel_rfl) fun a_x κ x h=>Eq.trans (by kernel_rfl) (aj h)
def zy {S:Type} (k:Nat):Rw S:=ah tw xn fun s κ=>aa k (kP k s) (aQ κ)
def TL {S:Type} (k:Nat):Fx S:=fp 6 [(191,M6 k)] [] k Tryz.f143 0
theorem Cw {S:Type} (o:Obj) (ho:ag o) (k:Nat):Tl o 143 (zy k:Rw S):=ai (TL k) ⟨Yy o ho k,trivial⟩ Tryz.func143 (by kernel_rfl) fun s κ x h=>Eq.trans (by kernel_rfl) (aj h)
def M7 {S:Type} (k:Nat):Rw S:=ah eV xn fun i κ=>aa k (wQ k i) (av κ)
def TM {S:Type} (k:Nat):Fx S:=fp 7 [(143,zy k),(144,ux k)] [] k Tryz.f94 0
theorem Yz {S:Type} (o:Obj) (ho:ag o) (k:Nat):Tl o 94 (M7 k:Rw S):=ai (TM k) ⟨Cw o ho k,xX o ho k,trivial⟩ Tryz.func94 (by kernel_rfl) fun i κ x h=>Eq.trans (by kernel_rfl) (aj h)
def M8 {S:Type} (k:Nat):Rw S:=ah C0 xn fun t i a_r κ=>aa k (BQ k t i a_r) (aQ κ)
def TN {S:Type} (k:Nat):Fx S:=fp 21 [(91,qn k),(94,M7 k),(95,nH k)] [] k Tryz.f56 0
theorem YA {S:Type} (o:Obj) (ho:ag o) (k:Nat):Tl o 56 (M8 k:Rw S):=ai (TN k) ⟨tg o ho k,Yz o ho k,oP o ho k,trivial⟩ Tryz.func56 (by kernel_rfl) fun t i a_r κ x h=>Eq.trans (by kernel_rfl) (aj h)
def M9 {S:Type} (k:Nat):Rw S:=ah Jb u5 fun c0 c1 κ=>aa k (BJ k c0 c1) (adI c0 c1 κ)
def TO {S:Type} (k:Nat):Fx S:=fp 6 [] [] k Tryz.f101 2
theorem YB {S:Type} (o:Obj) (ho:ag o) (k:Nat):Tl o 101 (M9 k:Rw S):=ai (TO k) trivial Tryz.func101 (by kernel_rfl) fun c0 c1 κ x h=>Eq.trans (by kernel_rfl) (aj h)
def M_ {S:Type} (k:Nat):Rw S:=ah ZZ u5 fun c0 c1 κ=>aa k (BL k c0 c1) (adJ c0 c1 κ)
def TP {S:Type} (k:Nat):Fx S:=fp 6 [] [] k Tryz.f101 2
theorem YC {S:Type} (o:Obj) (ho:ag o) (k:Nat):Tl o 101 (M_ k:Rw S):=ai (TP k) trivial Tryz.func101 (by kernel_rfl) fun c0 c1 κ x h=>Eq.trans (by kernel_rfl) (aj h)
def Na {S:Type} (k:Nat):Rw S:=ah Z0 xn fun i a_r κ=>aa k (BI k i a_r) (adK κ)
def TQ {S:Type} (k:Nat):Fx S:=fp 12 [(101,nA (tl Jb u5) (M9 k) (M_ k))] [] k Tryz.f58 0
theorem YD {S:Type} (o:Obj) (ho:ag o) (k:Nat):Tl o 58 (Na k:Rw S):=ai (TQ k) ⟨uh (YB o ho k) (YC o ho k),trivial⟩ Tryz.func58 (by kernel_rfl) fun i a_r κ x h=>Eq.trans (by kernel_rfl) (aj h)
def uy {S:Type} (k:Nat):Rw S:=ah lq xn fun s i κ=>aa k (gT k s i) (av κ)
def TR {S:Type} (k:Nat):Fx S:=fp 15 [(130,ut k)] [] k Tryz.f103 0
theorem xY {S:Type} (o:Obj) (ho:ag o) (k:Nat):Tl o 103 (uy k:Rw S):=ai (TR k) ⟨xV o ho k,trivial⟩ Tryz.func103 (by kernel_rfl) fun s i κ x h=>Eq.trans (by kernel_rfl) (aj h)
def Ey {S:Type} (k:Nat):Rw S:=ah dU xn fun f κ=>aa k (sk k f) (fq κ)
def TS {S:Type} (k:Nat):Fx S:=fp 5 [] [] k Tryz.f104 0
theorem If {S:Type} (o:Obj) (ho:ag o) (k:Nat):Tl o 104 (Ey k:Rw S):=ai (TS k) trivial Tryz.func104 (by kernel_rfl) fun f κ x h=>Eq.trans (by kernel_rfl) (aj h)
def Nb {S:Type} (k:Nat):Rw S:=ah eV xn fun i κ=>aa k (wX k i) (av κ)
def TT {S:Type} (k:Nat):Fx S:=fp 7 [(143,zy k),(144,ux k)] [] k Tryz.f158 0
theorem YE {S:Type} (o:Obj) (ho:ag o) (k:Nat):Tl o 158 (Nb k:Rw S):=ai (TT k) ⟨Cw o ho k,xX o ho k,trivial⟩ Tryz.func158 (by kernel_rfl) fun i κ x h=>Eq.trans (by kernel_rfl) (aj h)
def EA {S:Type} (k:Nat):Rw S:=ah mU xn fun c κ=>aa k (sr k c) (adL κ)
def TV {S:Type} (k:Nat):Fx S:=fp 8 [(132,Es k)] [] k Tryz.f200 0
theorem Ih {S:Type} (o:Obj) (ho:ag o) (k:Nat):Tl o 200 (EA k:Rw S):=ai (TV k) ⟨Ia o ho k,trivial⟩ Tryz.func200 (by kernel_rfl) fun c κ x h=>Eq.trans (by kernel_rfl) (aj h)
def Nc {S:Type} (k:Nat):Rw S:=ah Z1 xn fun l κ=>aa k (wZ k l) (fq κ)
def A4 {S:Type} (k:Nat):Fx S:=fp 29 [(200,EA k)] [(3,⟨[(1,.none),(5,some (100005,true)),(10,.none),(11,.none),(12,.none)],[]⟩,ap 5 11)] k Tryz.f199 0
def KS (l:List Cl) (v12:Int) (out5:List Cl):St UU:=⟨[(1,(.func 200 [] [])),(5,(.own 100005 0)),(10,(sC l)),(11,(.int .i64 (l.length:Int))),(12,(iI v12))],[],[(100005,⟨0,ET.C,out5⟩)],[(100005,.wr)]⟩
section
variable {S:Type} (k:Nat) (l:List Cl) (κ:Out UU→Option S)
theorem VZ: ∀n v12 out5,(A4 k).lp κ 3 [] n (KS l v12 out5)=o8 k (fq κ) l n v12 out5:=aV (vo k (fq κ) l) rfl (fun _=>rfl) fun r v12 out5=>by kernel_rfl
end
theorem YF {S:Type} (o:Obj) (ho:ag o) (k:Nat):Tl o 199 (Nc k:Rw S):=ai (A4 k) ⟨Ih o ho k,trivial⟩ Tryz.func199 (by kernel_rfl) fun l κ x h=>Eq.trans (b:=FQ k (fq κ) (fun v12 out5=>(A4 k).lp κ 3 [] k (KS l v12 out5)) l) (by kernel_rfl) (Eq.trans (by simp only [VZ];rfl) (aj h))
def EB {S:Type} (k:Nat):Rw S:=ah dU xn fun f κ=>aa k (sq k f) (au κ)
def TW {S:Type} (k:Nat):Fx S:=fp 12 [(95,nH k),(100,jq k),(199,Nc k)] [] k Tryz.f159 0
theorem Ii {S:Type} (o:Obj) (ho:ag o) (k:Nat):Tl o 159 (EB k:Rw S):=ai (TW k) ⟨oP o ho k,jT o ho k,YF o ho k,trivial⟩ Tryz.func159 (by kernel_rfl) fun f κ x h=>Eq.trans (by kernel_rfl) (aj h)
def Nd {S:Type} (k:Nat):Rw S:=ah CW u4 fun b c0 κ=>aa k (w5 k b c0) (adM c0 κ)
def TX {S:Type} (k:Nat):Fx S:=fp 11 [(193,zm k),(200,EA k)] [] k Tryz.f201 1
theorem YG {S:Type} (o:Obj) (ho:ag o) (k:Nat):Tl o 201 (Nd k:Rw S):=ai (TX k) ⟨Cn o ho k,Ih o ho k,trivial⟩ Tryz.func201 (by kernel_rfl) fun b c0 κ x h=>Eq.trans (by kernel_rfl) (aj h)
def Nf {S:Type} (k:Nat):Rw S:=ah Z2 u4 fun l c0 κ=>aa k (wY k l c0) (yX c0 κ)
def A5 {S:Type} (k:Nat):Fx S:=fp 29 [(201,Nd k)] [(3,⟨[(1,.none),(5,some (100005,true)),(10,.none),(11,.none),(12,.none)],[(1000000,[.none,.none])]⟩,ap 5 11)] k Tryz.f199 1
def KT (c0:Cl) (l:List Cl) (v12:Int) (out5:List Cl):St UU:=⟨[(1,(.func 201 [] [(pt 1000000)])),(5,(.own 100005 0)),(10,(sC l)),(11,(.int .i64 (l.length:Int))),(12,(iI v12))],[(1000000,bC c0)],[(100005,⟨0,ET.C,out5⟩)],[(100005,.wr)]⟩
section
variable {S:Type} (k:Nat) (l:List Cl) (c0:Cl) (κ:Out UU→Option S)
theorem V0: ∀n v12 out5,(A5 k).lp κ 3 [] n (KT c0 l v12 out5)=o0 k (yX c0 κ) c0 l n v12 out5:=aV (vn k (yX c0 κ) c0 l) rfl (fun _=>rfl) fun r v12 out5=>by kernel_rfl
end
theorem YH {S:Type} (o:Obj) (ho:ag o) (k:Nat):Tl o 199 (Nf k:Rw S):=ai (A5 k) ⟨YG o ho k,trivial⟩ Tryz.func199 (by kernel_rfl) fun l c0 κ x h=>Eq.trans (b:=FP k (yX c0 κ) (fun v12 out5=>(A5 k).lp κ 3 [] k (KT c0 l v12 out5)) l c0) (by kernel_rfl) (Eq.trans (by simp only [V0];rfl) (aj h))
def Ng {S:Type} (k:Nat):Rw S:=ah g5 xn fun f g κ=>aa k (oi k f g) (au κ)
def A6 {S:Type} (k:Nat):Fx S:=fp 25 [(100,jq k),(199,Nf k)] [(3,⟨[(1,.none),(6,some (100006,true)),(9,.none),(10,.none),(11,.none)],[]⟩,ap 5 11)] k Tryz.f160 0
def KU (g f:List Cl) (v11:Int) (out6:List Cl):St UU:=⟨[(1,(sC g)),(6,(.own 100006 0)),(9,(sC f)),(10,(.int .i64 (f.length:Int))),(11,(iI v11))],[],[(100006,⟨0,ET.C,out6⟩)],[(100006,.wr)]⟩
section
variable {S:Type} (k:Nat) (f g:List Cl) (κ:Out UU→Option S)
theorem V1: ∀n v11 out6,(A6 k).lp κ 3 [] n (KU g f v11 out6)=o9 k (au κ) g f n v11 out6:=aV (vq k (au κ) g f) rfl (fun _=>rfl) fun r v11 out6=>by kernel_rfl
end
theorem YI {S:Type} (o:Obj) (ho:ag o) (k:Nat):Tl o 160 (Ng k:Rw S):=ai (A6 k) ⟨jT o ho k,YH o ho k,trivial⟩ Tryz.func160 (by kernel_rfl) fun f g κ x h=>Eq.trans (b:=FR k (au κ) (fun v11 out6=>(A6 k).lp κ 3 [] k (KU g f v11 out6)) f g) (by kernel_rfl) (Eq.trans (by simp only [V1];rfl) (aj h))
def EC {S:Type} (k:Nat):Rw S:=ah cn xn fun κ=>aa k (sx k) (fq κ)
def TY {S:Type} (k:Nat):Fx S:=fp 3 [] [] k Tryz.f20 0
theorem Ij {S:Type} (o:Obj) (ho:ag o) (k:Nat):Tl o 20 (EC k:Rw S):=ai (TY k) trivial Tryz.func20 (by kernel_rfl) fun κ x h=>Eq.trans (by kernel_rfl) (aj h)
def Nh {S:Type} (k:Nat):Rw S:=ah mU xn fun c κ=>aa k (xd k c) (au κ)
def qV {S:Type} (k:Nat):Fx S:=fp 43 [(100,jq k),(144,ux k),(224,EP)] [(3,⟨[(1,.none),(4,some (100004,true)),(11,.none),(12,.none),(13,.none)],[(1,[.none,.none])]⟩,ap 5 11),(8,⟨[(4,some (100004,true)),(26,.none),(27,.none),(28,.none)],[]⟩,ap 6 23)] k Tryz.f198 0
def DA (c:Cl) (r1:List Int) (v13:Int) (out4:List Cl):St UU:=⟨[(1,(pt 1)),(4,(.own 100004 0)),(11,(mb r1 .none)),(12,(.int .i64 (r1.length:Int))),(13,(iI v13))],[(1,bC c)],[(100004,⟨0,ET.C,out4⟩)],[(100004,.wr)]⟩
def KV (r5:List Int) (v28:Int) (out4':List Cl):St UU:=⟨[(4,(.own 100004 0)),(26,(mb r5 .none)),(27,(.int .i64 (r5.length:Int))),(28,(iI v28))],[],[(100004,⟨0,ET.C,out4'⟩)],[(100004,.wr)]⟩
section
variable {S:Type} (k:Nat) (c:Cl) (κ:Out UU→Option S)
theorem V3 (r5): ∀n v28 out4',(qV k).lp κ 8 [] n (KV r5 v28 out4')=mY k (au κ) r5 n v28 out4':=aV (vA k (au κ) r5) rfl (fun _=>rfl) fun r v28 out4'=>by kernel_rfl
theorem V2 (r1): ∀n v13 out4,(qV k).lp κ 3 [] n (DA c r1 v13 out4)=pe k (au κ) c r1 n v13 out4:=aV (fun own=>rh k (au κ) c r1 (fun r5 v28 out4'=>mY k (au κ) r5 k v28 out4') own) rfl (fun _=>rfl) fun r v13 out4=>Eq.trans (b:=rh k (au κ) c r1 (fun r5 v28 out4'=>(qV k).lp κ 8 [] k (KV r5 v28 out4')) (fun v13 out4=>r (DA c r1 v13 out4)) v13 out4) (by kernel_rfl) (by simp only [V3])
end
theorem YJ {S:Type} (o:Obj) (ho:ag o) (k:Nat):Tl o 198 (Nh k:Rw S):=ai (qV k) ⟨jT o ho k,xX o ho k,agh o ho,trivial⟩ Tryz.func198 (by kernel_rfl) fun c κ x h=>Eq.trans (b:=F0 k (au κ) (fun r1 v13 out4=>(qV k).lp κ 3 [] k (DA c r1 v13 out4)) c) (by kernel_rfl) (Eq.trans (by simp only [V2];rfl) (aj h))
def ED {S:Type} (k:Nat):Rw S:=ah g5 xn fun f g κ=>aa k (jJ k f g) (au κ)
def qW {S:Type} (k:Nat):Fx S:=fp 35 [(100,jq k),(193,zm k)] [(3,⟨[(1,.none),(6,some (100006,true)),(11,.none),(12,.none),(13,.none)],[]⟩,ap 5 11),(6,⟨[(1,.none),(6,some (100006,true)),(8,.none),(11,.none),(12,.none),(13,.none),(17,.none),(18,.none),(19,.none)],[(8,[.none,.none])]⟩,ap 13 3275)] k Tryz.f155 0
def t6 (g f:List Cl) (v13:Int) (out6:List Cl):St UU:=⟨[(1,(sC g)),(6,(.own 100006 0)),(11,(sC f)),(12,(.int .i64 (f.length:Int))),(13,(iI v13))],[],[(100006,⟨0,ET.C,out6⟩)],[(100006,.wr)]⟩
def KW (x1:Cl) (g f:List Cl) (v13:Int) (v19:Int) (out6':List Cl):St UU:=⟨[(1,(sC g)),(6,(.own 100006 0)),(8,(pt 8)),(11,(sC f)),(12,(.int .i64 (f.length:Int))),(13,(iI v13)),(17,(sC g)),(18,(.int .i64 (g.length:Int))),(19,(iI v19))],[(8,bC x1)],[(100006,⟨0,ET.C,out6'⟩)],[(100006,.wr)]⟩
section
variable {S:Type} (k:Nat) (f g:List Cl) (κ:Out UU→Option S)
theorem V5 (x1 v13 κ0): ∀n v19 out6',(qW k).lp κ 6 [κ0] n (KW x1 g f v13 v19 out6')=mX k (au κ) (fun v13 out6=>κ0 (t6 g f v13 out6)) x1 g f v13 n v19 out6':=aV (vz k (au κ) x1 g f v13 (fun v13 out6=>κ0 (t6 g f v13 out6))) rfl (fun _=>rfl) fun r v19 out6'=>by kernel_rfl
theorem V4: ∀n v13 out6,(qW k).lp κ 3 [] n (t6 g f v13 out6)=lA k (au κ) g f n v13 out6:=aV (fun own=>rg k (au κ) g f (fun x1 v13 v19 out6'=>mX k (au κ) own x1 g f v13 k v19 out6') own) rfl (fun _=>rfl) fun r v13 out6=>Eq.trans (b:=rg k (au κ) g f (fun x1 v13 v19 out6'=>(qW k).lp κ 6 [r] k (KW x1 g f v13 v19 out6')) (fun v13 out6=>r (t6 g f v13 out6)) v13 out6) (by kernel_rfl) (by simp only [V5])
end
theorem Ik {S:Type} (o:Obj) (ho:ag o) (k:Nat):Tl o 155 (ED k:Rw S):=ai (qW k) ⟨jT o ho k,Cn o ho k,trivial⟩ Tryz.func155 (by kernel_rfl) fun f g κ x h=>Eq.trans (b:=FZ k (au κ) (fun v13 out6=>(qW k).lp κ 3 [] k (t6 g f v13 out6)) f g) (by kernel_rfl) (Eq.trans (by simp only [V4];rfl) (aj h))
def Ni {S:Type} (k:Nat):Rw S:=ah Jc xn fun a_have c κ=>aa k (xb k a_have c) (au κ)
def TZ {S:Type} (k:Nat):Fx S:=fp 21 [(155,ED k),(198,Nh k)] [] k Tryz.f197 0
theorem YK {S:Type} (o:Obj) (ho:ag o) (k:Nat):Tl o 197 (Ni k:Rw S):=ai (TZ k) ⟨Ik o ho k,YJ o ho k,trivial⟩ Tryz.func197 (by kernel_rfl) fun a_have c κ x h=>Eq.trans (by kernel_rfl) (aj h)
def Nk {S:Type} (k:Nat):Rw S:=ah Z3 xn fun l a_from κ=>aa k (BT k l a_from) (au κ)
def A7 {S:Type} (k:Nat):Fx S:=fp 33 [(197,Ni k)] [(2,a6 [1,2,13,14,15] [],ap 4 5)] k Tryz.f97 0
def KX (l:List Cl) (v1:List Cl) (v15:Int):St UU:=⟨[(1,(sC v1)),(2,(.func 197 [] [])),(13,(sC l)),(14,(.int .i64 (l.length:Int))),(15,(iI v15))],[],[],[]⟩
section
variable {S:Type} (k:Nat) (l a_from:List Cl) (κ:Out UU→Option S)
theorem V6: ∀n v1 v15,(A7 k).lp κ 2 [] n (KX l v1 v15)=pc k (au κ) l n v1 v15:=aV (vv k (au κ) l) rfl (fun _=>rfl) fun r v1 v15=>by kernel_rfl
end
theorem YM {S:Type} (o:Obj) (ho:ag o) (k:Nat):Tl o 97 (Nk k:Rw S):=ai (A7 k) ⟨YK o ho k,trivial⟩ Tryz.func97 (by kernel_rfl) fun l a_from κ x h=>Eq.trans (b:=FX k (au κ) (fun v1 v15=>(A7 k).lp κ 2 [] k (KX l v1 v15)) l a_from) (by kernel_rfl) (Eq.trans (by simp only [V6];rfl) (aj h))
def EE {S:Type} (k:Nat):Rw S:=ah dU xn fun f κ=>aa k (ol k f) (au κ)
def T1 {S:Type} (k:Nat):Fx S:=fp 9 [(20,EC k),(97,Nk k)] [] k Tryz.f156 0
theorem Il {S:Type} (o:Obj) (ho:ag o) (k:Nat):Tl o 156 (EE k:Rw S):=ai (T1 k) ⟨Ij o ho k,YM o ho k,trivial⟩ Tryz.func156 (by kernel_rfl) fun f κ x h=>Eq.trans (by kernel_rfl) (aj h)
def Nl {S:Type} (k:Nat):Rw S:=ah dU xn fun f κ=>aa k (w8 k f) (au κ)
def T2 {S:Type} (k:Nat):Fx S:=fp 15 [(96,zu k),(156,EE k)] [] k Tryz.f202 0
theorem YN {S:Type} (o:Obj) (ho:ag o) (k:Nat):Tl o 202 (Nl k:Rw S):=ai (T2 k) ⟨Cv o ho k,Il o ho k,trivial⟩ Tryz.func202 (by kernel_rfl) fun f κ x h=>Eq.trans (by kernel_rfl) (aj h)
def Nm {S:Type} (k:Nat):Rw S:=ah dU xn fun f κ=>aa k (wV k f) (au κ)
def T3 {S:Type} (k:Nat):Fx S:=fp 18 [(159,EB k),(202,Nl k)] [] k Tryz.f161 0
theorem YO {S:Type} (o:Obj) (ho:ag o) (k:Nat):Tl o 161 (Nm k:Rw S):=ai (T3 k) ⟨Ii o ho k,YN o ho k,trivial⟩ Tryz.func161 (by kernel_rfl) fun f κ x h=>Eq.trans (by kernel_rfl) (aj h)
def Nn {S:Type} (k:Nat):Rw S:=ah yv xn fun f i a_r κ=>aa k (wW k f i a_r) (au κ)
def qX {S:Type} (k:Nat):Fx S:=fp 92 [(82,zr k),(84,uw k),(95,nH k),(103,uy k),(158,Nb k),(159,EB k),(160,Ng k),(161,Nm k),(162,Ew k)] [(5,a6 [1,2,8,27,28,29] [],ap 6 23),(1000018,a6 [1,2,8,11,13,27,28,29] [],ap 16 63895)] k Tryz.f106 0
def t7 (i:Int) (a_r f:List Cl) (v29:Int) (v8:List Cl):St UU:=⟨[(1,(iI i)),(2,(sC a_r)),(8,(sC v8)),(27,(sC f)),(28,(.int .i64 (f.length:Int))),(29,(iI v29))],[],[],[]⟩
def KY (i:Int) (a_r f:List Cl) (v29:Int) (v8:List Cl) (g11:List Cl) (v13:Int):St UU:=⟨[(1,(iI i)),(2,(sC a_r)),(8,(sC v8)),(11,(sC g11)),(13,(iI v13)),(27,(sC f)),(28,(.int .i64 (f.length:Int))),(29,(iI v29))],[],[],[]⟩
section
variable {S:Type} (k:Nat) (f:List Cl) (i:Int) (a_r:List Cl) (κ:Out UU→Option S)
theorem V8 (v29 v8 κ0): ∀n g11 v13,(qX k).jn κ 1000018 [κ0] n (KY i a_r f v29 v8 g11 v13)=oZ k (au κ) (fun v29 v8=>κ0 (t7 i a_r f v29 v8)) i a_r f v29 v8 n g11 v13:=IZ (vm k (au κ) i a_r f v29 v8 (fun v29 v8=>κ0 (t7 i a_r f v29 v8))) rfl (fun _=>rfl) (fun g11 v13=>by kernel_rfl)
theorem V7: ∀n v29 v8,(qX k).lp κ 5 [] n (t7 i a_r f v29 v8)=lz k (au κ) i a_r f n v29 v8:=aV (fun own=>rf k (au κ) i a_r f (fun v29 v8 g11 v13=>oZ k (au κ) own i a_r f v29 v8 k g11 v13) own) rfl (fun _=>rfl) fun r v29 v8=>Eq.trans (b:=rf k (au κ) i a_r f (fun v29 v8 g11 v13=>(qX k).jn κ 1000018 [r] k (KY i a_r f v29 v8 g11 v13)) (fun v29 v8=>r (t7 i a_r f v29 v8)) v29 v8) (by kernel_rfl) (by simp only [V8])
end
theorem YP {S:Type} (o:Obj) (ho:ag o) (k:Nat):Tl o 106 (Nn k:Rw S):=ai (qX k) ⟨Ct o ho k,xW o ho k,oP o ho k,xY o ho k,YE o ho k,Ii o ho k,YI o ho k,YO o ho k,Ie o ho k,trivial⟩ Tryz.func106 (by kernel_rfl) fun f i a_r κ x h=>Eq.trans (b:=FO k (au κ) (fun v29 v8=>(qX k).lp κ 5 [] k (t7 i a_r f v29 v8)) f i a_r) (by kernel_rfl) (Eq.trans (by simp only [V7];rfl) (aj h))
def EF {S:Type} (k:Nat):Rw S:=ah C1 agQ fun f depth c0 c1 κ=>aa k (sm k f depth c0 c1) (adN c0 c1 κ)
def T4 {S:Type} (k:Nat):Fx S:=fp 38 [(38,zt k),(57,qr k),(103,uy k),(104,Ey k),(106,Nn k)] [] k Tryz.f102 3
theorem Im {S:Type} (o:Obj) (ho:ag o) (k:Nat):Tl o 102 (EF k:Rw S):=ai (T4 k) ⟨Cu o ho k,th o ho k,xY o ho k,If o ho k,YP o ho k,trivial⟩ Tryz.func102 (by kernel_rfl) fun f depth c0 c1 κ x h=>Eq.trans (by kernel_rfl) (aj h)
def Np {S:Type} (k:Nat):Rw S:=ah eV xn fun i κ=>aa k (w7 k i) (au κ)
def T5 {S:Type} (k:Nat):Fx S:=fp 12 [(143,zy k),(144,ux k)] [] k Tryz.f153 0
theorem YQ {S:Type} (o:Obj) (ho:ag o) (k:Nat):Tl o 153 (Np k:Rw S):=ai (T5 k) ⟨Cw o ho k,xX o ho k,trivial⟩ Tryz.func153 (by kernel_rfl) fun i κ x h=>Eq.trans (by kernel_rfl) (aj h)
def Nq {S:Type} (k:Nat):Rw S:=ah g5 xn fun f g κ=>aa k (mF k f g) (au κ)
def T6 {S:Type} (k:Nat):Fx S:=fp 14 [(100,jq k)] [] k Tryz.f157 0
theorem YR {S:Type} (o:Obj) (ho:ag o) (k:Nat):Tl o 157 (Nq k:Rw S):=ai (T6 k) ⟨jT o ho k,trivial⟩ Tryz.func157 (by kernel_rfl) fun f g κ x h=>Eq.trans (by kernel_rfl) (aj h)
def Nr {S:Type} (k:Nat):Rw S:=ah Z4 u5 fun a_have c c0 c1 κ=>aa k (w_ k a_have c c0 c1) (ul c0 c1 κ)
def T7 {S:Type} (k:Nat):Fx S:=fp 63 [(82,zr k),(103,uy k),(155,ED k),(156,EE k),(157,Nq k)] [] k Tryz.f154 2
theorem YS {S:Type} (o:Obj) (ho:ag o) (k:Nat):Tl o 154 (Nr k:Rw S):=ai (T7 k) ⟨Ct o ho k,xY o ho k,Ik o ho k,Il o ho k,YR o ho k,trivial⟩ Tryz.func154 (by kernel_rfl) fun a_have c c0 c1 κ x h=>Eq.trans (by kernel_rfl) (aj h)
def Ns {S:Type} (k:Nat):Rw S:=ah Z6 u5 fun l a_from c0 c1 κ=>aa k (BS k l a_from c0 c1) (ul c0 c1 κ)
def A8 {S:Type} (k:Nat):Fx S:=fp 33 [(154,Nr k)] [(2,a6 [1,2,13,14,15] [(1000000,1),(1000001,1)],ap 4 5)] k Tryz.f97 2
def KZ (c0:Int) (c1 l:List Cl) (v1:List Cl) (v15:Int):St UU:=⟨[(1,(sC v1)),(2,(.func 154 [] [(pt 1000000),(pt 1000001)])),(13,(sC l)),(14,(.int .i64 (l.length:Int))),(15,(iI v15))],[(1000000,bI c0),(1000001,.cells [(sC c1)])],[],[]⟩
section
variable {S:Type} (k:Nat) (l a_from:List Cl) (c0:Int) (c1:List Cl) (κ:Out UU→Option S)
theorem V9: ∀n v1 v15,(A8 k).lp κ 2 [] n (KZ c0 c1 l v1 v15)=pb k (ul c0 c1 κ) c0 c1 l n v1 v15:=aV (vu k (ul c0 c1 κ) c0 c1 l) rfl (fun _=>rfl) fun r v1 v15=>by kernel_rfl
end
theorem YT {S:Type} (o:Obj) (ho:ag o) (k:Nat):Tl o 97 (Ns k:Rw S):=ai (A8 k) ⟨YS o ho k,trivial⟩ Tryz.func97 (by kernel_rfl) fun l a_from c0 c1 κ x h=>Eq.trans (b:=FW k (ul c0 c1 κ) (fun v1 v15=>(A8 k).lp κ 2 [] k (KZ c0 c1 l v1 v15)) l a_from c0 c1) (by kernel_rfl) (Eq.trans (by simp only [V9];rfl) (aj h))
def Nu {S:Type} (k:Nat):Rw S:=ah yv xn fun f i a_r κ=>aa k (w9 k f i a_r) (au κ)
def T9 {S:Type} (k:Nat):Fx S:=fp 32 [(21,Et k),(96,zu k),(97,Ns k),(153,Np k)] [] k Tryz.f105 0
theorem YV {S:Type} (o:Obj) (ho:ag o) (k:Nat):Tl o 105 (Nu k:Rw S):=ai (T9 k) ⟨Ib o ho k,Cv o ho k,YT o ho k,YQ o ho k,trivial⟩ Tryz.func105 (by kernel_rfl) fun f i a_r κ x h=>Eq.trans (by kernel_rfl) (aj h)
end
end Go.Proofs.YtapmagaejigpnaaGreatDoor
namespace Go.Proofs.YtapmagaejigpnaaGreatDoor
open Go PI
set_option linter.unusedVariables false
set_option maxRecDepth 100000
noncomputable section
def Nv {S:Type} (k:Nat):Rw S:=ah C1 RI fun f depth c0 c1 κ=>aa k (wR k f depth c0 c1) (adO c0 c1 κ)
def T_ {S:Type} (k:Nat):Fx S:=fp 38 [(38,zt k),(57,qr k),(103,uy k),(104,Ey k),(105,Nu k)] [] k Tryz.f102 3
theorem YW {S:Type} (o:Obj) (ho:ag o) (k:Nat):Tl o 102 (Nv k:Rw S):=ai (T_ k) ⟨Cu o ho k,th o ho k,xY o ho k,If o ho k,YV o ho k,trivial⟩ Tryz.func102 (by kernel_rfl) fun f depth c0 c1 κ x h=>Eq.trans (by kernel_rfl) (aj h)
def Nw {S:Type} (k:Nat):Rw S:=ah C2 G9 fun t depth c0 c1 κ=>aa k (wS k t depth c0 c1) (adP c0 c1 κ)
def Ua {S:Type} (k:Nat):Fx S:=fp 27 [(102,nA (tl C1 RI) (Nv k) (EF k))] [] k Tryz.f107 4
theorem YX {S:Type} (o:Obj) (ho:ag o) (k:Nat):Tl o 107 (Nw k:Rw S):=ai (Ua k) ⟨uh (YW o ho k) (Im o ho k),trivial⟩ Tryz.func107 (by kernel_rfl) fun t depth c0 c1 κ x h=>Eq.trans (by kernel_rfl) (aj h)
def EG {S:Type} (k:Nat):Rw S:=ah Jd agR fun i c0 κ=>aa k (sn k i c0) (adQ c0 κ)
def Ub {S:Type} (k:Nat):Fx S:=fp 14 [(110,ql k)] [] k Tryz.f109 1
theorem Io {S:Type} (o:Obj) (ho:ag o) (k:Nat):Tl o 109 (EG k:Rw S):=ai (Ub k) ⟨tf o ho k,trivial⟩ Tryz.func109 (by kernel_rfl) fun i c0 κ x h=>Eq.trans (by kernel_rfl) (aj h)
def EH {S:Type} (k:Nat):Rw S:=ah Jd eN fun p c0 κ=>aa k (so k p c0) (adR c0 κ)
def Uc {S:Type} (k:Nat):Fx S:=fp 5 [] [] k Tryz.f111 1
theorem Ip {S:Type} (o:Obj) (ho:ag o) (k:Nat):Tl o 111 (EH k:Rw S):=ai (Uc k) trivial Tryz.func111 (by kernel_rfl) fun p c0 κ x h=>Eq.trans (by kernel_rfl) (aj h)
def qu {S:Type} (hd:c_ S):Rw S:=ah C2 G9 fun t depth c0 c1 κ=>hd t depth c0 c1 (yY c0 c1 κ)
def Nx {S:Type} (hd:c_ S) (k:Nat):Rw S:=ah Je RJ fun l depth c0 c1 c4 κ=>aa k (BO hd k l depth c0 c1 c4) (yZ c0 c1 c4 κ)
def A_ {S:Type} (hd:c_ S) (k:Nat):Fx S:=fp 42 [(59,qu hd),(111,EH k)] [(3,⟨[(2,.none),(3,.none),(4,.none),(10,some (100010,true)),(15,.none),(16,.none),(17,.none)],[(4,[.none,.none]),(1000000,[.none]),(1000001,[.none]),(1000002,[.none]),(1000003,[.none]),(1000004,[.none])]⟩,ap 5 11)] k Tryz.f108 5
def K3 (c0:Int) (c1:List Cl) (c4:Int) (l:List Tm) (depth:Int) (out10:List Tm) (v17:Int):St UU:=⟨[(2,(iI depth)),(3,(.func 111 [] [(pt 1000004)])),(4,(pt 4)),(10,(.own 100010 0)),(15,(sT l)),(16,(.int .i64 (l.length:Int))),(17,(iI v17))],[(4,.cells [(.func 102 [] [(pt 1000000),(pt 1000001),(pt 1000002)]),(.func 102 [] [(pt 1000000),(pt 1000001),(pt 1000003)])]),(1000000,bI c0),(1000001,.cells [(sC c1)]),(1000002,.cells [(.func 105 [] [])]),(1000003,.cells [(.func 106 [] [])]),(1000004,bI c4)],[(100010,⟨0,ET.T,out10⟩)],[(100010,.wr)]⟩
section
variable {S:Type} (hd:c_ S) (k:Nat) (l:List Tm) (depth c0:Int) (c1:List Cl) (c4:Int) (κ:Out UU→Option S)
theorem Wa: ∀n out10 v17,(A_ hd k).lp κ 3 [] n (K3 c0 c1 c4 l depth out10 v17)=lx hd k (yZ c0 c1 c4 κ) c0 c1 c4 l depth n out10 v17:=aV (vi hd k (yZ c0 c1 c4 κ) c0 c1 c4 l depth) rfl (fun _=>rfl) fun r out10 v17=>by kernel_rfl
end
theorem YY {S:Type} (o:Obj) (ho:ag o) (hd:c_ S) (Hd:Tl o 59 (qu hd)) (k:Nat):Tl o 108 (Nx hd k:Rw S):=ai (A_ hd k) ⟨Hd,Ip o ho k,trivial⟩ Tryz.func108 (by kernel_rfl) fun l depth c0 c1 c4 κ x h=>Eq.trans (b:=FI hd k (yZ c0 c1 c4 κ) (fun out10 v17=>(A_ hd k).lp κ 3 [] k (K3 c0 c1 c4 l depth out10 v17)) l depth c0 c1 c4) (by kernel_rfl) (Eq.trans (by simp only [Wa];rfl) (aj h))
def Ny {S:Type} (hd:c_ S) (k:Nat):Rw S:=ah Z7 agS fun l depth c0 c1 c4 κ=>aa k (BP hd k l depth c0 c1 c4) (y6 c0 c1 c4 κ)
def Ba {S:Type} (hd:c_ S) (k:Nat):Fx S:=fp 42 [(59,qu hd),(109,EG k)] [(3,⟨[(2,.none),(3,.none),(4,.none),(10,some (100010,true)),(15,.none),(16,.none),(17,.none)],[(4,[.none,.none]),(1000000,[.none]),(1000001,[.none]),(1000002,[.none]),(1000003,[.none]),(1000004,[.none,.none,.none,.none,.none,.none])]⟩,ap 5 11)] k Tryz.f108 5
def K4 (c0:Int) (c1:List Cl) (c4:Tm) (l:List Tm) (depth:Int) (out10:List Tm) (v17:Int):St UU:=⟨[(2,(iI depth)),(3,(.func 109 [] [(pt 1000004)])),(4,(pt 4)),(10,(.own 100010 0)),(15,(sT l)),(16,(.int .i64 (l.length:Int))),(17,(iI v17))],[(4,.cells [(.func 102 [] [(pt 1000000),(pt 1000001),(pt 1000002)]),(.func 102 [] [(pt 1000000),(pt 1000001),(pt 1000003)])]),(1000000,bI c0),(1000001,.cells [(sC c1)]),(1000002,.cells [(.func 105 [] [])]),(1000003,.cells [(.func 106 [] [])]),(1000004,bT c4)],[(100010,⟨0,ET.T,out10⟩)],[(100010,.wr)]⟩
section
variable {S:Type} (hd:c_ S) (k:Nat) (l:List Tm) (depth c0:Int) (c1:List Cl) (c4:Tm) (κ:Out UU→Option S)
theorem Wb: ∀n out10 v17,(Ba hd k).lp κ 3 [] n (K4 c0 c1 c4 l depth out10 v17)=ly hd k (y6 c0 c1 c4 κ) c0 c1 c4 l depth n out10 v17:=aV (vj hd k (y6 c0 c1 c4 κ) c0 c1 c4 l depth) rfl (fun _=>rfl) fun r out10 v17=>by kernel_rfl
end
theorem YZ {S:Type} (o:Obj) (ho:ag o) (hd:c_ S) (Hd:Tl o 59 (qu hd)) (k:Nat):Tl o 108 (Ny hd k:Rw S):=ai (Ba hd k) ⟨Hd,Io o ho k,trivial⟩ Tryz.func108 (by kernel_rfl) fun l depth c0 c1 c4 κ x h=>Eq.trans (b:=FJ hd k (y6 c0 c1 c4 κ) (fun out10 v17=>(Ba hd k).lp κ 3 [] k (K4 c0 c1 c4 l depth out10 v17)) l depth c0 c1 c4) (by kernel_rfl) (Eq.trans (by simp only [Wb];rfl) (aj h))
def A9 {S:Type} (hd:c_ S) (k:Nat):Fx S:=fp 98 [(102,EF k),(107,Nw k),(108,nA (tl Je RJ) (Nx hd k) (Ny hd k))] [(13,⟨[(2,.none),(3,.none),(6,.none),(8,.none),(10,.none),(53,.none),(54,.none),(55,.none)],[(3,[.none,.none]),(6,[.none,.none,.none,some (200387,true),some (200388,true),some (200389,true)]),(8,[.none,.none,.none,.none,.none,some (200517,true)]),(10,[.none]),(1000000,[.none]),(1000001,[.none]),(1000002,[.none]),(1000003,[.none])]⟩,ap 11 767)] k Tryz.f59 4
def K0 (c0:Int) (c1:List Cl) (t:Tm) (r1:List Cl×Int) (r2:List Tm×Int) (depth:Int) (b10_0:Int) (b8_5:List (Br Tm)) (v55:Int):St UU:=⟨[(2,(iI depth)),(3,(pt 3)),(6,(pt 6)),(8,(pt 8)),(10,(pt 10)),(53,(sB t.sys)),(54,(.int .i64 (t.sys.length:Int))),(55,(iI v55))],[(3,.cells [(.func 102 [] [(pt 1000000),(pt 1000001),(pt 1000002)]),(.func 102 [] [(pt 1000000),(pt 1000001),(pt 1000003)])]),(6,.cells [(iI 0),(iI 0),(.str ByteArray.empty),(.own 200387 0),(.own 200388 0),(.own 200389 0)]),(8,.cells [(iI t.kind),(iI t.n),(.str t.name),(sC r1.1),(sT r2.1),(.own 200517 0)]),(10,bI b10_0),(1000000,bI c0),(1000001,.cells [(sC c1)]),(1000002,.cells [(.func 105 [] [])]),(1000003,.cells [(.func 106 [] [])])],[(200517,⟨0,ET.B,b8_5⟩),(200389,⟨0,ET.B,([]:List (Br Tm))⟩),(200388,⟨0,ET.T,([]:List Tm)⟩),(200387,⟨0,ET.C,([]:List Cl)⟩)],[(200517,.wr),(200389,.wr),(200388,.wr),(200387,.wr)]⟩
section
variable {S:Type} (hd:c_ S) (k:Nat) (t:Tm) (depth c0:Int) (c1:List Cl) (κ:Out UU→Option S)
theorem V_ (r1 r2): ∀n b10_0 b8_5 v55,(A9 hd k).lp κ 13 [] n (K0 c0 c1 t r1 r2 depth b10_0 b8_5 v55)=fL hd k (yY c0 c1 κ) c0 c1 t r1 r2 depth n b10_0 b8_5 v55:=jj (vk hd k (yY c0 c1 κ) c0 c1 t r1 r2 depth) rfl (fun _=>rfl) fun r b10_0 b8_5 v55=>by kernel_rfl
end
theorem CN {S:Type} (o:Obj) (ho:ag o): ∀k:Nat,Tl o 59 (qu (dX k:c_ S))
 |0=>e9 fun t depth c0 c1 κ x h=>by cases h
 |k+1=>ai (A9 (dX k) k) ⟨Im o ho k,YX o ho k,uh (YY o ho (dX k) (CN o ho k) k) (YZ o ho (dX k) (CN o ho k) k),trivial⟩ Tryz.func59 (by kernel_rfl) fun t depth c0 c1 κ x h=>Eq.trans (b:=FM (dX k) k (yY c0 c1 κ) (fun r1 r2 b10_0 b8_5 v55=>(A9 (dX k) k).lp κ 13 [] k (K0 c0 c1 t r1 r2 depth b10_0 b8_5 v55)) t depth c0 c1) (by kernel_rfl) (Eq.trans (by simp only [V_];rfl) h)
def Nz {S:Type} (k:Nat):Rw S:=ah eV xn fun i κ=>aa k (BH k i) (adS κ)
def Ud {S:Type} (k:Nat):Fx S:=fp 8 [] [] k Tryz.f60 0
theorem Y0 {S:Type} (o:Obj) (ho:ag o) (k:Nat):Tl o 60 (Nz k:Rw S):=ai (Ud k) trivial Tryz.func60 (by kernel_rfl) fun i κ x h=>Eq.trans (by kernel_rfl) (aj h)
def NA {S:Type} (k:Nat):Rw S:=ah lq xn fun s i κ=>aa k (oq k s i) (bX κ)
def Ue {S:Type} (k:Nat):Fx S:=fp 24 [(130,ut k),(163,Eu k)] [] k Tryz.f113 0
theorem Y1 {S:Type} (o:Obj) (ho:ag o) (k:Nat):Tl o 113 (NA k:Rw S):=ai (Ue k) ⟨xV o ho k,Ic o ho k,trivial⟩ Tryz.func113 (by kernel_rfl) fun s i κ x h=>Eq.trans (by kernel_rfl) (aj h)
def DU {S:Type} (k:Nat):Rw S:=ah Z8 eN fun f depth c0 κ=>aa k (oh k f depth c0) (um c0 κ)
def Ai {S:Type} (k:Nat):Fx S:=fp 37 [(100,jq k),(113,NA k)] [(3,⟨[(1,.none),(2,.none),(7,some (100007,true)),(10,.none),(11,.none),(12,.none)],[(1000000,[.none])]⟩,ap 5 11)] k Tryz.f112 1
def JA (c0 depth:Int) (f:List Cl) (v12:Int) (out7:List Cl):St UU:=⟨[(1,(iI depth)),(2,(pt 1000000)),(7,(.own 100007 0)),(10,(sC f)),(11,(.int .i64 (f.length:Int))),(12,(iI v12))],[(1000000,bI c0)],[(100007,⟨0,ET.C,out7⟩)],[(100007,.wr)]⟩
section
variable {S:Type} (k:Nat) (f:List Cl) (depth c0:Int) (κ:Out UU→Option S)
theorem Ui: ∀n v12 out7,(Ai k).lp κ 3 [] n (JA c0 depth f v12 out7)=oY k (um c0 κ) c0 depth f n v12 out7:=aV (vf k (um c0 κ) c0 depth f) rfl (fun _=>rfl) fun r v12 out7=>by kernel_rfl
end
theorem HM {S:Type} (o:Obj) (ho:ag o) (k:Nat):Tl o 112 (DU k:Rw S):=ai (Ai k) ⟨jT o ho k,Y1 o ho k,trivial⟩ Tryz.func112 (by kernel_rfl) fun f depth c0 κ x h=>Eq.trans (b:=FE k (um c0 κ) (fun v12 out7=>(Ai k).lp κ 3 [] k (JA c0 depth f v12 out7)) f depth c0) (by kernel_rfl) (Eq.trans (by simp only [Ui];rfl) (aj h))
def LA {S:Type} (k:Nat):Rw S:=ah Jf eN fun t depth c0 κ=>aa k (wT k t depth c0) (um c0 κ)
def RT {S:Type} (k:Nat):Fx S:=fp 27 [(112,DU k)] [] k Tryz.f107 1
theorem W_ {S:Type} (o:Obj) (ho:ag o) (k:Nat):Tl o 107 (LA k:Rw S):=ai (RT k) ⟨HM o ho k,trivial⟩ Tryz.func107 (by kernel_rfl) fun t depth c0 κ x h=>Eq.trans (by kernel_rfl) (aj h)
def qc {S:Type} (hd:da S):Rw S:=ah Jf eN fun t depth c0 κ=>hd t depth c0 (y7 c0 κ)
def LB {S:Type} (hd:da S) (k:Nat):Rw S:=ah Jg Ae fun l depth c0 c1 κ=>aa k (BM hd k l depth c0 c1) (y8 c0 c1 κ)
def Ak {S:Type} (hd:da S) (k:Nat):Fx S:=fp 42 [(59,qc hd),(111,EH k)] [(3,⟨[(2,.none),(3,.none),(4,.none),(10,some (100010,true)),(15,.none),(16,.none),(17,.none)],[(4,[.none,.none]),(1000000,[.none]),(1000001,[.none])]⟩,ap 5 11)] k Tryz.f108 2
def JC (c0 c1:Int) (l:List Tm) (depth:Int) (out10:List Tm) (v17:Int):St UU:=⟨[(2,(iI depth)),(3,(.func 111 [] [(pt 1000001)])),(4,(pt 4)),(10,(.own 100010 0)),(15,(sT l)),(16,(.int .i64 (l.length:Int))),(17,(iI v17))],[(4,.cells [(.func 112 [] [(pt 1000000)]),(.func 112 [] [(pt 1000000)])]),(1000000,bI c0),(1000001,bI c1)],[(100010,⟨0,ET.T,out10⟩)],[(100010,.wr)]⟩
section
variable {S:Type} (hd:da S) (k:Nat) (l:List Tm) (depth c0 c1:Int) (κ:Out UU→Option S)
theorem Uk: ∀n out10 v17,(Ak hd k).lp κ 3 [] n (JC c0 c1 l depth out10 v17)=lv hd k (y8 c0 c1 κ) c0 c1 l depth n out10 v17:=aV (vg hd k (y8 c0 c1 κ) c0 c1 l depth) rfl (fun _=>rfl) fun r out10 v17=>by kernel_rfl
end
theorem Xa {S:Type} (o:Obj) (ho:ag o) (hd:da S) (Hd:Tl o 59 (qc hd)) (k:Nat):Tl o 108 (LB hd k:Rw S):=ai (Ak hd k) ⟨Hd,Ip o ho k,trivial⟩ Tryz.func108 (by kernel_rfl) fun l depth c0 c1 κ x h=>Eq.trans (b:=FG hd k (y8 c0 c1 κ) (fun out10 v17=>(Ak hd k).lp κ 3 [] k (JC c0 c1 l depth out10 v17)) l depth c0 c1) (by kernel_rfl) (Eq.trans (by simp only [Uk];rfl) (aj h))
def LC {S:Type} (hd:da S) (k:Nat):Rw S:=ah Z9 agT fun l depth c0 c1 κ=>aa k (BN hd k l depth c0 c1) (y9 c0 c1 κ)
def Al {S:Type} (hd:da S) (k:Nat):Fx S:=fp 42 [(59,qc hd),(109,EG k)] [(3,⟨[(2,.none),(3,.none),(4,.none),(10,some (100010,true)),(15,.none),(16,.none),(17,.none)],[(4,[.none,.none]),(1000000,[.none]),(1000001,[.none,.none,.none,.none,.none,.none])]⟩,ap 5 11)] k Tryz.f108 2
def JD (c0:Int) (c1:Tm) (l:List Tm) (depth:Int) (out10:List Tm) (v17:Int):St UU:=⟨[(2,(iI depth)),(3,(.func 109 [] [(pt 1000001)])),(4,(pt 4)),(10,(.own 100010 0)),(15,(sT l)),(16,(.int .i64 (l.length:Int))),(17,(iI v17))],[(4,.cells [(.func 112 [] [(pt 1000000)]),(.func 112 [] [(pt 1000000)])]),(1000000,bI c0),(1000001,bT c1)],[(100010,⟨0,ET.T,out10⟩)],[(100010,.wr)]⟩
section
variable {S:Type} (hd:da S) (k:Nat) (l:List Tm) (depth c0:Int) (c1:Tm) (κ:Out UU→Option S)
theorem Ul: ∀n out10 v17,(Al hd k).lp κ 3 [] n (JD c0 c1 l depth out10 v17)=lw hd k (y9 c0 c1 κ) c0 c1 l depth n out10 v17:=aV (vh hd k (y9 c0 c1 κ) c0 c1 l depth) rfl (fun _=>rfl) fun r out10 v17=>by kernel_rfl
end
theorem Xb {S:Type} (o:Obj) (ho:ag o) (hd:da S) (Hd:Tl o 59 (qc hd)) (k:Nat):Tl o 108 (LC hd k:Rw S):=ai (Al hd k) ⟨Hd,Io o ho k,trivial⟩ Tryz.func108 (by kernel_rfl) fun l depth c0 c1 κ x h=>Eq.trans (b:=FH hd k (y9 c0 c1 κ) (fun out10 v17=>(Al hd k).lp κ 3 [] k (JD c0 c1 l depth out10 v17)) l depth c0 c1) (by kernel_rfl) (Eq.trans (by simp only [Ul];rfl) (aj h))
def Aj {S:Type} (hd:da S) (k:Nat):Fx S:=fp 98 [(107,LA k),(108,nA (tl Jg Ae) (LB hd k) (LC hd k)),(112,DU k)] [(13,⟨[(2,.none),(3,.none),(6,.none),(8,.none),(10,.none),(53,.none),(54,.none),(55,.none)],[(3,[.none,.none]),(6,[.none,.none,.none,some (200387,true),some (200388,true),some (200389,true)]),(8,[.none,.none,.none,.none,.none,some (200517,true)]),(10,[.none]),(1000000,[.none])]⟩,ap 11 767)] k Tryz.f59 1
def JB (c0:Int) (t:Tm) (r1:List Cl×Int) (r2:List Tm×Int) (depth:Int) (b10_0:Int) (b8_5:List (Br Tm)) (v55:Int):St UU:=⟨[(2,(iI depth)),(3,(pt 3)),(6,(pt 6)),(8,(pt 8)),(10,(pt 10)),(53,(sB t.sys)),(54,(.int .i64 (t.sys.length:Int))),(55,(iI v55))],[(3,.cells [(.func 112 [] [(pt 1000000)]),(.func 112 [] [(pt 1000000)])]),(6,.cells [(iI 0),(iI 0),(.str ByteArray.empty),(.own 200387 0),(.own 200388 0),(.own 200389 0)]),(8,.cells [(iI t.kind),(iI t.n),(.str t.name),(sC r1.1),(sT r2.1),(.own 200517 0)]),(10,bI b10_0),(1000000,bI c0)],[(200517,⟨0,ET.B,b8_5⟩),(200389,⟨0,ET.B,([]:List (Br Tm))⟩),(200388,⟨0,ET.T,([]:List Tm)⟩),(200387,⟨0,ET.C,([]:List Cl)⟩)],[(200517,.wr),(200389,.wr),(200388,.wr),(200387,.wr)]⟩
section
variable {S:Type} (hd:da S) (k:Nat) (t:Tm) (depth c0:Int) (κ:Out UU→Option S)
theorem Uj (r1 r2): ∀n b10_0 b8_5 v55,(Aj hd k).lp κ 13 [] n (JB c0 t r1 r2 depth b10_0 b8_5 v55)=fM hd k (y7 c0 κ) c0 t r1 r2 depth n b10_0 b8_5 v55:=jj (vl hd k (y7 c0 κ) c0 t r1 r2 depth) rfl (fun _=>rfl) fun r b10_0 b8_5 v55=>by kernel_rfl
end
theorem CJ {S:Type} (o:Obj) (ho:ag o): ∀k:Nat,Tl o 59 (qc (dR k:da S))
 |0=>e9 fun t depth c0 κ x h=>by cases h
 |k+1=>ai (Aj (dR k) k) ⟨W_ o ho k,uh (Xa o ho (dR k) (CJ o ho k) k) (Xb o ho (dR k) (CJ o ho k) k),HM o ho k,trivial⟩ Tryz.func59 (by kernel_rfl) fun t depth c0 κ x h=>Eq.trans (b:=FN (dR k) k (y7 c0 κ) (fun r1 r2 b10_0 b8_5 v55=>(Aj (dR k) k).lp κ 13 [] k (JB c0 t r1 r2 depth b10_0 b8_5 v55)) t depth c0) (by kernel_rfl) (Eq.trans (by simp only [Uj];rfl) h)
def DV {S:Type} (k:Nat):Rw S:=ah C0 xn fun t i a_r κ=>aa k (og k t i a_r) (bY κ)
def RU {S:Type} (k:Nat):Fx S:=fp 48 [(56,M8 k),(57,qr k),(58,Na k),(59,nA (tl C2 G9) (qu (dX k)) (qc (dR k))),(60,Nz k)] [] k Tryz.f19 0
theorem HN {S:Type} (o:Obj) (ho:ag o) (k:Nat):Tl o 19 (DV k:Rw S):=ai (RU k) ⟨YA o ho k,th o ho k,YD o ho k,uh (CN o ho k) (CJ o ho k),Y0 o ho k,trivial⟩ Tryz.func19 (by kernel_rfl) fun t i a_r κ x h=>Eq.trans (by kernel_rfl) (aj h)
def ze {S:Type} (k:Nat):Rw S:=ah Z_ eN fun line a_r c0 κ=>aa k (gR k line a_r c0) (DQ κ)
def RV {S:Type} (k:Nat):Fx S:=fp 44 [(19,DV k),(52,kq k),(85,ko k),(93,M5 k)] [] k Tryz.f54 1
theorem Cf {S:Type} (o:Obj) (ho:ag o) (k:Nat):Tl o 54 (ze k:Rw S):=ai (RV k) ⟨HN o ho k,lc o ho k,lb o ho k,Yx o ho k,trivial⟩ Tryz.func54 (by kernel_rfl) fun line a_r c0 κ x h=>Eq.trans (by kernel_rfl) (aj h)
def LD {S:Type} (k:Nat):Rw S:=ah Ja RM fun c0 c1 c2 κ=>aa k (xg k c0 c1 c2) (adT c0 c1 c2 κ)
def RW {S:Type} (k:Nat):Fx S:=fp 11 [(141,zw (dE k))] [] k Tryz.f140 3
theorem Xc {S:Type} (o:Obj) (ho:ag o) (k:Nat):Tl o 140 (LD k:Rw S):=ai (RW k) ⟨CM o ho k,trivial⟩ Tryz.func140 (by kernel_rfl) fun c0 c1 c2 κ x h=>Eq.trans (by kernel_rfl) (aj h)
def LF {S:Type} (k:Nat):Rw S:=ah aaa RM fun t numbers c0 c1 c2 κ=>aa k (BY k t numbers c0 c1 c2) (y_ c0 c1 c2 κ)
def Am {S:Type} (k:Nat):Fx S:=⟨⟨30,(fun _=>[]),(fun _=>false),.none,fun|6=>true|7=>true|_=>false⟩,[(91,qn k),(140,LD k)],[(5,⟨[(2,.none),(6,.none),(7,.none),(17,.none),(18,.none),(19,.none)],[(1000000,[.none]),(1000001,[.none]),(1000002,[.none,.none,.none,.none,.none,.none]),(5000006,[.none,.none,.none,some (320200387,true),some (320200388,true),some (320200389,true)]),(5000007,[.none])]⟩,ap 5 11)],k,Tryz.f139,false,[],3,some (wC 16 189 Tryz.f189 k)⟩
def JE (c0 c1:Int) (c2:Tm) (numbers:List Int) (v19:Int):St UU:=⟨[(2,(.func 140 [] [(pt 1000000),(pt 1000001),(pt 1000002)])),(6,(pt 5000006)),(7,(pt 5000007)),(17,(mb numbers .none)),(18,(.int .i64 (numbers.length:Int))),(19,(iI v19))],[(1000000,bI c0),(1000001,bI c1),(1000002,bT c2),(5000006,.cells [(iI 0),(iI 0),(.str ByteArray.empty),(.own 320200387 0),(.own 320200388 0),(.own 320200389 0)]),(5000007,bI 0)],[(320200389,⟨0,ET.B,([]:List (Br Tm))⟩),(320200388,⟨0,ET.T,([]:List Tm)⟩),(320200387,⟨0,ET.C,([]:List Cl)⟩)],[(320200389,.wr),(320200388,.wr),(320200387,.wr)]⟩
section
variable {S:Type} (k:Nat) (t:Tm) (numbers:List Int) (c0 c1:Int) (c2:Tm) (κ:Out UU→Option S)
theorem Um: ∀n v19,(Am k).lp κ 5 [] n (JE c0 c1 c2 numbers v19)=m0 k (y_ c0 c1 c2 κ) c0 c1 c2 numbers n v19:=ct (vD k (y_ c0 c1 c2 κ) c0 c1 c2 numbers) rfl (fun _=>rfl) fun r v19=>by kernel_rfl
end
theorem Xd {S:Type} (o:Obj) (ho:ag o) (k:Nat):Tl o 139 (LF k:Rw S):=Ra (Am k) rfl (Hx o Tryz.func189 (by kernel_rfl)) ⟨tg o ho k,Xc o ho k,trivial⟩ Tryz.func139 (by kernel_rfl) fun t numbers c0 c1 c2 κ x h=>Eq.trans (b:=F6 k (y_ c0 c1 c2 κ) (fun v19=>(Am k).lp κ 5 [] k (JE c0 c1 c2 numbers v19)) t numbers c0 c1 c2) (by kernel_rfl) (Eq.trans (by simp only [Um];rfl) (aj h))
def LG {S:Type} (k:Nat):Rw S:=ah mV xn fun t vars dims κ=>aa k (xe k t vars dims) (bY κ)
def RX {S:Type} (k:Nat):Fx S:=fp 18 [(139,LF k)] [] k Tryz.f92 0
theorem Xe {S:Type} (o:Obj) (ho:ag o) (k:Nat):Tl o 92 (LG k:Rw S):=ai (RX k) ⟨Xd o ho k,trivial⟩ Tryz.func92 (by kernel_rfl) fun t vars dims κ x h=>Eq.trans (by kernel_rfl) (aj h)
def qe {S:Type} (k:Nat):Rw S:=ah aab eN fun t vars dims c0 κ=>aa k (co k t vars dims c0) (DQ κ)
def RZ {S:Type} (k:Nat):Fx S:=fp 30 [(52,kq k),(85,ko k),(92,LG k)] [] k Tryz.f51 1
theorem ta {S:Type} (o:Obj) (ho:ag o) (k:Nat):Tl o 51 (qe k:Rw S):=ai (RZ k) ⟨lc o ho k,lb o ho k,Xe o ho k,trivial⟩ Tryz.func51 (by kernel_rfl) fun t vars dims c0 κ x h=>Eq.trans (by kernel_rfl) (aj h)
def jo {S:Type} (k:Nat):Rw S:=ah Jh xn fun kind kids κ=>aa k (bt k kind kids) (Lw κ)
def R0 {S:Type} (k:Nat):Fx S:=fx 8 (fun _=>[]) (fun _=>false) [] [] k Tryz.f50 true [] 0
theorem jR {S:Type} (o:Obj) (ho:ag o) (k:Nat):Tl o 50 (jo k:Rw S):=ai (R0 k) trivial Tryz.func50 (by kernel_rfl) fun kind kids κ x h=>Eq.trans (by kernel_rfl) (aj h)
def nB {S:Type} (k:Nat):Rw S:=ah C3 eN fun t c0 κ=>aa k (cO k t c0) (adV κ)
def R1 {S:Type} (k:Nat):Fx S:=fp 28 [(52,kq k),(85,ko k),(91,qn k)] [] k Tryz.f55 1
theorem oK {S:Type} (o:Obj) (ho:ag o) (k:Nat):Tl o 55 (nB k:Rw S):=ai (R1 k) ⟨lc o ho k,lb o ho k,tg o ho k,trivial⟩ Tryz.func55 (by kernel_rfl) fun t c0 κ x h=>Eq.trans (by kernel_rfl) (aj h)
def DW {S:Type} (k:Nat):Rw S:=ah Ji xn fun line phi a a_end a_r κ=>aa k (sg k line phi a a_end a_r) (bY κ)
def R2 {S:Type} (k:Nat):Fx S:=fp 49 [(48,nI k),(50,jo k),(51,qe k),(53,Ev k),(54,ze k),(55,nB k),(84,uw k),(85,ko k),(86,M1 k)] [] k Tryz.f41 0
theorem HO {S:Type} (o:Obj) (ho:ag o) (k:Nat):Tl o 41 (DW k:Rw S):=ai (R2 k) ⟨oQ o ho k,jR o ho k,ta o ho k,Id o ho k,Cf o ho k,oK o ho k,xW o ho k,lb o ho k,Yt o ho k,trivial⟩ Tryz.func41 (by kernel_rfl) fun line phi a a_end a_r κ x h=>Eq.trans (by kernel_rfl) (aj h)
def DX {S:Type} (k:Nat):Rw S:=ah lr xn fun line phi a κ=>aa k (sf k line phi a) (bY κ)
def R3 {S:Type} (k:Nat):Fx S:=fp 17 [(41,DW k)] [] k Tryz.f11 0
theorem HP {S:Type} (o:Obj) (ho:ag o) (k:Nat):Tl o 11 (DX k:Rw S):=ai (R3 k) ⟨HO o ho k,trivial⟩ Tryz.func11 (by kernel_rfl) fun line phi a κ x h=>Eq.trans (by kernel_rfl) (aj h)
def DY {S:Type} (k:Nat):Rw S:=ah aad xn fun sys κ=>aa k (oa k sys) (adW κ)
def R4 {S:Type} (k:Nat):Fx S:=fx 8 (fun _=>[]) (fun _=>false) [(50,jo k)] [] k Tryz.f49 true [] 0
theorem HQ {S:Type} (o:Obj) (ho:ag o) (k:Nat):Tl o 49 (DY k:Rw S):=ai (R4 k) ⟨jR o ho k,trivial⟩ Tryz.func49 (by kernel_rfl) fun sys κ x h=>Eq.trans (by kernel_rfl) (aj h)
def DZ {S:Type} (k:Nat):Rw S:=ah ln xn fun t a sys κ=>aa k (sb k t a sys) (bY κ)
def An {S:Type} (k:Nat):Fx S:=fp 76 [(48,nI k),(49,DY k),(50,jo k),(51,qe k),(52,kq k),(53,Ev k),(54,ze k),(55,nB k)] [(4,⟨[(4,.none),(6,.none),(8,.none),(9,.none),(27,.none),(28,.none),(29,.none)],[(4,[.none,.none,.none,.none,.none,.none]),(6,[.none,.none,.none,some (200387,true),some (200388,true),some (200389,true)]),(9,[.none,.none,.none,some (200579,true),.none,some (200581,true)]),(19000,[.none])]⟩,ap 6 23)] k Tryz.f18 0
def JF (a:Tm) (r5:Int×Int×ByteArray×List Tm) (sys:List (Br Tm)) (b19000_0:Int) (b9_5:List (Br Tm)) (v29:Int):St UU:=⟨[(4,(pt 4)),(6,(pt 6)),(8,(pt 19000)),(9,(pt 9)),(27,(sB sys)),(28,(.int .i64 (sys.length:Int))),(29,(iI v29))],[(4,bT a),(6,.cells [(iI 0),(iI 0),(.str ByteArray.empty),(.own 200387 0),(.own 200388 0),(.own 200389 0)]),(9,.cells [(iI r5.1),(iI r5.2.1),(.str r5.2.2.1),(.own 200579 0),(sT r5.2.2.2),(.own 200581 0)]),(19000,bI b19000_0)],[(200581,⟨0,ET.B,b9_5⟩),(200579,⟨0,ET.C,([]:List Cl)⟩),(200389,⟨0,ET.B,([]:List (Br Tm))⟩),(200388,⟨0,ET.T,([]:List Tm)⟩),(200387,⟨0,ET.C,([]:List Cl)⟩)],[(200581,.wr),(200579,.wr),(200389,.wr),(200388,.wr),(200387,.wr)]⟩
section
variable {S:Type} (k:Nat) (t a:Tm) (sys:List (Br Tm)) (κ:Out UU→Option S)
theorem Un (r5): ∀n b19000_0 b9_5 v29,(An k).lp κ 4 [] n (JF a r5 sys b19000_0 b9_5 v29)=gu k (bY κ) a r5 sys n b19000_0 b9_5 v29:=jj (nU k (bY κ) a r5 sys) rfl (fun _=>rfl) fun r b19000_0 b9_5 v29=>by kernel_rfl
end
theorem HR {S:Type} (o:Obj) (ho:ag o) (k:Nat):Tl o 18 (DZ k:Rw S):=ai (An k) ⟨oQ o ho k,HQ o ho k,jR o ho k,ta o ho k,lc o ho k,Id o ho k,Cf o ho k,oK o ho k,trivial⟩ Tryz.func18 (by kernel_rfl) fun t a sys κ x h=>Eq.trans (b:=Fv k (bY κ) (fun r5 b19000_0 b9_5 v29=>(An k).lp κ 4 [] k (JF a r5 sys b19000_0 b9_5 v29)) t a sys) (by kernel_rfl) (Eq.trans (by simp only [Un];rfl) (aj h))
def zf {S:Type} (k:Nat):Rw S:=ah g5 xn fun a b κ=>aa k (iW k a b) (av κ)
def Ao {S:Type} (k:Nat):Fx S:=fp 26 [] [(4,a6 [0,1,5] [],ap 5 11)] k Tryz.f24 0
def JG (a b:List Cl) (i5:Int):St UU:=⟨[(0,(sC a)),(1,(sC b)),(5,(iI i5))],[],[],[]⟩
section
variable {S:Type} (k:Nat) (a b:List Cl) (κ:Out UU→Option S)
theorem Uo: ∀n i5,(Ao k).lp κ 4 [] n (JG a b i5)=j9 k (av κ) a b n i5:=ct (nV k (av κ) a b) rfl (fun _=>rfl) fun r i5=>by kernel_rfl
end
theorem Cg {S:Type} (o:Obj) (ho:ag o) (k:Nat):Tl o 24 (zf k:Rw S):=ai (Ao k) trivial Tryz.func24 (by kernel_rfl) fun a b κ x h=>Eq.trans (b:=zX k (av κ) (fun i5=>(Ao k).lp κ 4 [] k (JG a b i5)) a b) (by kernel_rfl) (Eq.trans (by simp only [Uo];rfl) (aj h))
def qf {S:Type} (k:Nat):Rw S:=ah eV xn fun a_n κ=>aa k (eR k a_n) (DR κ)
def R5 {S:Type} (k:Nat):Fx S:=fx 5 (fun _=>[]) (fun _=>false) [] [] k Tryz.f69 true [] 0
theorem tb {S:Type} (o:Obj) (ho:ag o) (k:Nat):Tl o 69 (qf k:Rw S):=ai (R5 k) trivial Tryz.func69 (by kernel_rfl) fun a_n κ x h=>Eq.trans (by kernel_rfl) (aj h)
def LI {S:Type} (k:Nat):Rw S:=ah dU xn fun a_r κ=>aa k (BG k a_r) (adX κ)
def R6 {S:Type} (k:Nat):Fx S:=fx 13 (fun _=>[]) (fun _=>false) [(50,jo k),(69,qf k)] [] k Tryz.f71 true [] 0
theorem Xg {S:Type} (o:Obj) (ho:ag o) (k:Nat):Tl o 71 (LI k:Rw S):=ai (R6 k) ⟨jR o ho k,tb o ho k,trivial⟩ Tryz.func71 (by kernel_rfl) fun a_r κ x h=>Eq.trans (by kernel_rfl) (aj h)
def D0 {S:Type} (k:Nat):Rw S:=ah cn xn fun κ=>aa k (sc k) (Lw κ)
def R8 {S:Type} (k:Nat):Fx S:=fx 37 (fun _=>[]) (fun _=>false) [(50,jo k),(69,qf k),(71,LI k)] [] k Tryz.f31 true [] 0
theorem HS {S:Type} (o:Obj) (ho:ag o) (k:Nat):Tl o 31 (D0 k:Rw S):=ai (R8 k) ⟨jR o ho k,tb o ho k,Xg o ho k,trivial⟩ Tryz.func31 (by kernel_rfl) fun κ x h=>Eq.trans (by kernel_rfl) (aj h)
def LK {S:Type} (k:Nat):Rw S:=ah mV xn fun t vars dims κ=>aa k (HF k t vars dims) (aQ κ)
def R9 {S:Type} (k:Nat):Fx S:=fp 28 [(80,DT k),(81,qm (fI k))] [] k Tryz.f37 0
theorem Xi {S:Type} (o:Obj) (ho:ag o) (k:Nat):Tl o 37 (LK k:Rw S):=ai (R9 k) ⟨HL o ho k,CL o ho k,trivial⟩ Tryz.func37 (by kernel_rfl) fun t vars dims κ x h=>Eq.trans (by kernel_rfl) (aj h)
def zg {S:Type} (k:Nat):Rw S:=ah cn xn fun κ=>aa k (fF k) (av κ)
def R_ {S:Type} (k:Nat):Fx S:=fp 75 [(11,DX k),(18,DZ k),(24,zf k),(31,D0 k),(37,LK k)] [] k Tryz.f10 0
theorem Ch {S:Type} (o:Obj) (ho:ag o) (k:Nat):Tl o 10 (zg k:Rw S):=ai (R_ k) ⟨HP o ho k,HR o ho k,Cg o ho k,HS o ho k,Xi o ho k,trivial⟩ Tryz.func10 (by kernel_rfl) fun κ x h=>Eq.trans (by kernel_rfl) (aj h)
def D4 {S:Type} (hd:gL S):Rw S:=ah fK xn fun t κ=>hd t (aQ κ)
def mi {S:Type} (hd:gL S) (k:Nat):Fx S:=fp 60 [(177,D4 hd)] [(3,a6 [1,3,4] [(1,6)],ap 5 11),(9,a6 [1,3,6] [(1,6)],ap 6 23),(12,a6 [1,3,6,7] [(1,6)],ap 12 1175)] k Tryz.f177 0
def Dm (t:Tm) (most3 i4:Int):St UU:=⟨[(1,(pt 1)),(3,(iI most3)),(4,(iI i4))],[(1,bT t)],[],[]⟩
def tI (t:Tm) (most3' i6:Int):St UU:=⟨[(1,(pt 1)),(3,(iI most3')),(6,(iI i6))],[(1,bT t)],[],[]⟩
def JH (t:Tm) (i6:Int) (most3'' v7:Int):St UU:=⟨[(1,(pt 1)),(3,(iI most3'')),(6,(iI i6)),(7,(iI v7))],[(1,bT t)],[],[]⟩
section
variable {S:Type} (hd:gL S) (k:Nat) (t:Tm) (κ:Out UU→Option S)
theorem Us (i6 κ1): ∀n most3'' v7,(mi hd k).lp κ 12 [κ1] n (JH t i6 most3'' v7)=j_ hd k (aQ κ) (fun most3' i6=>κ1 (tI t most3' i6)) t i6 n most3'' v7:=aV (wd hd k (aQ κ) t i6 (fun most3' i6=>κ1 (tI t most3' i6))) rfl (fun _=>rfl) fun r most3'' v7=>by kernel_rfl
theorem Ur: ∀n most3' i6,(mi hd k).lp κ 9 [] n (tI t most3' i6)=g9 hd k (aQ κ) t n most3' i6:=aV (fun own=>rG hd k (aQ κ) t (fun i6 most3'' v7=>j_ hd k (aQ κ) own t i6 k most3'' v7) own) rfl (fun _=>rfl) fun r most3' i6=>Eq.trans (b:=rG hd k (aQ κ) t (fun i6 most3'' v7=>(mi hd k).lp κ 12 [r] k (JH t i6 most3'' v7)) (fun most3' i6=>r (tI t most3' i6)) most3' i6) (by kernel_rfl) (by simp only [Us])
theorem Uq: ∀n most3 i4,(mi hd k).lp κ 3 [] n (Dm t most3 i4)=nd hd k (aQ κ) t n most3 i4:=aV (fun own=>rF hd k (aQ κ) t (fun most3' i6=>g9 hd k (aQ κ) t k most3' i6) own) rfl (fun _=>rfl) fun r most3 i4=>Eq.trans (b:=rF hd k (aQ κ) t (fun most3' i6=>(mi hd k).lp κ 9 [] k (tI t most3' i6)) (fun most3 i4=>r (Dm t most3 i4)) most3 i4) (by kernel_rfl) (by simp only [Ur])
end
theorem IM {S:Type} (o:Obj) (ho:ag o): ∀k:Nat,Tl o 177 (D4 (iX k:gL S))
 |0=>e9 fun t κ x h=>by cases h
 |k+1=>ai (mi (iX k) k) ⟨IM o ho k,trivial⟩ Tryz.func177 (by kernel_rfl) fun t κ x h=>Eq.trans (b:=Gx (iX k) k (aQ κ) (fun most3 i4=>(mi (iX k) k).lp κ 3 [] k (Dm t most3 i4)) t) (by kernel_rfl) (Eq.trans (by simp only [Uq];rfl) h)
def D5 {S:Type} (hd:gM S):Rw S:=ah fK xn fun t κ=>hd t (aQ κ)
def mj {S:Type} (hd:gM S) (k:Nat):Fx S:=fp 53 [(178,D5 hd)] [(3,a6 [1,3,4] [(1,6)],ap 5 11),(7,a6 [1,3,5] [(1,6)],ap 6 23),(10,a6 [1,3,5,6] [(1,6)],ap 12 1175)] k Tryz.f178 0
def Dp (t:Tm) (v3 i4:Int):St UU:=⟨[(1,(pt 1)),(3,(iI v3)),(4,(iI i4))],[(1,bT t)],[],[]⟩
def tJ (t:Tm) (v3' i5:Int):St UU:=⟨[(1,(pt 1)),(3,(iI v3')),(5,(iI i5))],[(1,bT t)],[],[]⟩
def JI (t:Tm) (i5:Int) (v3'' v6:Int):St UU:=⟨[(1,(pt 1)),(3,(iI v3'')),(5,(iI i5)),(6,(iI v6))],[(1,bT t)],[],[]⟩
section
variable {S:Type} (hd:gM S) (k:Nat) (t:Tm) (κ:Out UU→Option S)
theorem Uv (i5 κ1): ∀n v3'' v6,(mj hd k).lp κ 10 [κ1] n (JI t i5 v3'' v6)=lM hd k (aQ κ) (fun v3' i5=>κ1 (tJ t v3' i5)) t i5 n v3'' v6:=aV (wg hd k (aQ κ) t i5 (fun v3' i5=>κ1 (tJ t v3' i5))) rfl (fun _=>rfl) fun r v3'' v6=>by kernel_rfl
theorem Uu: ∀n v3' i5,(mj hd k).lp κ 7 [] n (tJ t v3' i5)=g_ hd k (aQ κ) t n v3' i5:=aV (fun own=>rI hd k (aQ κ) t (fun i5 v3'' v6=>lM hd k (aQ κ) own t i5 k v3'' v6) own) rfl (fun _=>rfl) fun r v3' i5=>Eq.trans (b:=rI hd k (aQ κ) t (fun i5 v3'' v6=>(mj hd k).lp κ 10 [r] k (JI t i5 v3'' v6)) (fun v3' i5=>r (tJ t v3' i5)) v3' i5) (by kernel_rfl) (by simp only [Uv])
theorem Ut: ∀n v3 i4,(mj hd k).lp κ 3 [] n (Dp t v3 i4)=pD hd k (aQ κ) t n v3 i4:=aV (fun own=>rH hd k (aQ κ) t (fun v3' i5=>g_ hd k (aQ κ) t k v3' i5) own) rfl (fun _=>rfl) fun r v3 i4=>Eq.trans (b:=rH hd k (aQ κ) t (fun v3' i5=>(mj hd k).lp κ 7 [] k (tJ t v3' i5)) (fun v3 i4=>r (Dp t v3 i4)) v3 i4) (by kernel_rfl) (by simp only [Uu])
end
theorem IN {S:Type} (o:Obj) (ho:ag o): ∀k:Nat,Tl o 178 (D5 (iY k:gM S))
 |0=>e9 fun t κ x h=>by cases h
 |k+1=>ai (mj (iY k) k) ⟨IN o ho k,trivial⟩ Tryz.func178 (by kernel_rfl) fun t κ x h=>Eq.trans (b:=Gz (iY k) k (aQ κ) (fun v3 i4=>(mj (iY k) k).lp κ 3 [] k (Dp t v3 i4)) t) (by kernel_rfl) (Eq.trans (by simp only [Ut];rfl) h)
def LM {S:Type} (k:Nat):Rw S:=ah fK xn fun t κ=>aa k (xy k t) (aQ κ)
def Sa {S:Type} (k:Nat):Fx S:=fp 9 [(177,D4 (iX k)),(178,D5 (iY k))] [] k Tryz.f134 0
theorem Xj {S:Type} (o:Obj) (ho:ag o) (k:Nat):Tl o 134 (LM k:Rw S):=ai (Sa k) ⟨IM o ho k,IN o ho k,trivial⟩ Tryz.func134 (by kernel_rfl) fun t κ x h=>Eq.trans (by kernel_rfl) (aj h)
def D6 {S:Type} (k:Nat):Rw S:=ah eV xn fun kind κ=>aa k (oB k kind) (aQ κ)
def Sb {S:Type} (k:Nat):Fx S:=fp 14 [] [] k Tryz.f119 0
theorem HT {S:Type} (o:Obj) (ho:ag o) (k:Nat):Tl o 119 (D6 k:Rw S):=ai (Sb k) trivial Tryz.func119 (by kernel_rfl) fun kind κ x h=>Eq.trans (by kernel_rfl) (aj h)
def LN {S:Type} (k:Nat):Rw S:=ah eV xn fun kind κ=>aa k (oD k kind) (aQ κ)
def Sc {S:Type} (k:Nat):Fx S:=fp 15 [] [] k Tryz.f179 0
theorem Xk {S:Type} (o:Obj) (ho:ag o) (k:Nat):Tl o 179 (LN k:Rw S):=ai (Sc k) trivial Tryz.func179 (by kernel_rfl) fun kind κ x h=>Eq.trans (by kernel_rfl) (aj h)
def LO {S:Type} (k:Nat):Rw S:=ah I2 xn fun s κ=>aa k (xx k s) (av κ)
def qM {S:Type} (k:Nat):Fx S:=fp 45 [] [(2,a6 [0,3] [],ap 4 5),(1000006,a6 [0,3,4] [],ap 10 805)] k Tryz.f180 0
def tK (s:ByteArray) (i3:Int):St UU:=⟨[(0,(.str s)),(3,(iI i3))],[],[],[]⟩
def JJ (s:ByteArray) (i3:Int) (x1:UInt8):St UU:=⟨[(0,(.str s)),(3,(iI i3)),(4,(.int .u8 (x1.toNat:Int)))],[],[],[]⟩
section
variable {S:Type} (k:Nat) (s:ByteArray) (κ:Out UU→Option S)
theorem Ux (i3 x1 κ0): ∀n,(qM k).jn κ 1000006 [κ0] n (JJ s i3 x1)=yA k (av κ) (fun i3=>κ0 (tK s i3)) s i3 x1 n:=lm (Bk k (av κ) s i3 x1 (fun i3=>κ0 (tK s i3))) rfl (fun _=>rfl) (by kernel_rfl)
theorem Uw: ∀n i3,(qM k).lp κ 2 [] n (tK s i3)=ng k (av κ) s n i3:=ct (fun own=>rJ k (av κ) s (fun i3 x1=>yA k (av κ) own s i3 x1 k) own) rfl (fun _=>rfl) fun r i3=>Eq.trans (b:=rJ k (av κ) s (fun i3 x1=>(qM k).jn κ 1000006 [r] k (JJ s i3 x1)) (fun i3=>r (tK s i3)) i3) (by kernel_rfl) (by simp only [Ux])
end
theorem Xl {S:Type} (o:Obj) (ho:ag o) (k:Nat):Tl o 180 (LO k:Rw S):=ai (qM k) trivial Tryz.func180 (by kernel_rfl) fun s κ x h=>Eq.trans (b:=GB k (av κ) (fun i3=>(qM k).lp κ 2 [] k (tK s i3)) s) (by kernel_rfl) (Eq.trans (by simp only [Uw];rfl) (aj h))
def zh {S:Type} (k:Nat):Rw S:=ah eV xn fun a_n κ=>aa k (ox k a_n) (aQ κ)
def Ap {S:Type} (k:Nat):Fx S:=fp 13 [] [(3,a6 [0,3,4] [],ap 5 11)] k Tryz.f187 0
def JK (a_n:Int) (p3 i4:Int):St UU:=⟨[(0,(iI a_n)),(3,(iI p3)),(4,(iI i4))],[],[],[]⟩
section
variable {S:Type} (k:Nat) (a_n:Int) (κ:Out UU→Option S)
theorem Uy: ∀n p3 i4,(Ap k).lp κ 3 [] n (JK a_n p3 i4)=pj k (aQ κ) a_n n p3 i4:=aV (vK k (aQ κ) a_n) rfl (fun _=>rfl) fun r p3 i4=>by kernel_rfl
end
theorem Ci {S:Type} (o:Obj) (ho:ag o) (k:Nat):Tl o 187 (zh k:Rw S):=ai (Ap k) trivial Tryz.func187 (by kernel_rfl) fun a_n κ x h=>Eq.trans (b:=Gc k (aQ κ) (fun p3 i4=>(Ap k).lp κ 3 [] k (JK a_n p3 i4)) a_n) (by kernel_rfl) (Eq.trans (by simp only [Uy];rfl) (aj h))
end
end Go.Proofs.YtapmagaejigpnaaGreatDoor
