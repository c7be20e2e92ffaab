/- Part 6 of a proof: the sources, with their names and remarks, lie in wip/. -/
import Derived.Test.YtapmagaejigpnaaGreatDoorX5
namespace Go.Proofs.YtapmagaejigpnaaGreatDoor
open Go PI
set_option linter.unusedVariables false
set_option linter.unusedSimpArgs false
set_option maxRecDepth 100000
noncomputable section
abbrev Rw (S:Type):=List PU→List (Box UU)→(Out UU→Option S)→Option S
abbrev Kn (S:Type):=(Out UU→Option S)→Option S
noncomputable def iI (n:Int):PU:= .int .i64 n
noncomputable def iU (n:Int):PU:= .int .u32 n
noncomputable def pt (i:Nat):PU:= .ptr i 0
noncomputable def aT (t:Tm):PU:= .agg [.int .i64 t.kind,.int .i64 t.n,.str t.name,cr t.r .none,f7 t.kids .none,gS t.sys .none]
noncomputable def aC (c:Cl):PU:= .agg [.int .u32 c.pos,.int .u32 c.neg]
noncomputable def aB (b:Br Tm):PU:= .agg [cr b.face .none,f7 b.kids .none]
noncomputable def bT (t:Tm):Box UU:= .cells [.int .i64 t.kind,.int .i64 t.n,.str t.name,cr t.r .none,f7 t.kids .none,gS t.sys .none]
noncomputable def bC (c:Cl):Box UU:= .cells [.int .u32 c.pos,.int .u32 c.neg]
noncomputable def bB (b:Br Tm):Box UU:= .cells [cr b.face .none,f7 b.kids .none]
noncomputable def bI (n:Int):Box UU:= .cells [.int .i64 n]
noncomputable def bb (b:Bool):Box UU:= .cells [.bool b]
noncomputable def sC (l:List Cl):PU:=cr l .none
noncomputable def sT (l:List Tm):PU:=f7 l .none
noncomputable def sB (l:List (Br Tm)):PU:=gS l .none
structure Cd where
 D:Type→Type
 k:{ρ:Type}→ρ→D ρ
 dec:{ρ:Type}→D ρ→PU→Option ρ
 A:{ρ:Type}→D ρ→(PU→ρ→Prop)→Prop
 law: ∀ {ρ:Type} (f:D ρ) (v:PU) (r:ρ) (Q:PU→ρ→Prop),A f Q→dec f v=some r→Q v r
structure Cs where
 D:Type→Type
 n:Nat
 k:{ρ:Type}→ρ→D ρ
 dec:{ρ:Type}→D ρ→List PU→Option ρ
 A:{ρ:Type}→D ρ→(List PU→ρ→Prop)→Prop
 law: ∀ {ρ:Type} (f:D ρ) (v:List PU) (r:ρ) (Q:List PU→ρ→Prop),A f Q→dec f v=some r→Q v r
 len: ∀ {ρ:Type} (f:D ρ) (v:List PU) (r:ρ),dec f v=some r→v.length=n
structure Bs where
 D:Type→Type
 n:Nat
 k:{ρ:Type}→ρ→D ρ
 dec:{ρ:Type}→D ρ→List (Box UU)→Option ρ
 A:{ρ:Type}→D ρ→(List (Box UU)→ρ→Prop)→Prop
 law: ∀ {ρ:Type} (f:D ρ) (v:List (Box UU)) (r:ρ) (Q:List (Box UU)→ρ→Prop),A f Q→dec f v=some r→Q v r
 len: ∀ {ρ:Type} (f:D ρ) (v:List (Box UU)) (r:ρ),dec f v=some r→v.length=n
noncomputable def cn:Cs where
 D ρ:=ρ
 n:=0
 k r:=r
 dec f:=fun|[]=>some f|_=> .none
 A f Q:=Q [] f
 law f v r Q h e:=by split at e<;>cases e;exact h
 len f v r e:=by split at e<;>cases e;rfl
noncomputable def cc (c:Cd) (s:Cs):Cs where
 D ρ:=c.D (s.D ρ)
 n:=s.n+1
 k r:=c.k (s.k r)
 dec f:=fun|v::l=>(c.dec f v).bind fun g=>s.dec g l|[]=> .none
 A f Q:=c.A f fun v g=>s.A g fun l r=>Q (v::l) r
 law f v r Q h e:=by
  split at e
  ·obtain ⟨g,h1,h2⟩:=Option.bind_eq_some_iff.1 e
   have:=s.law g _ r _ (c.law f _ g _ h h1) h2;exact this
  ·cases e
 len f v r e:=by
  split at e
  ·obtain ⟨g,h1,h2⟩:=Option.bind_eq_some_iff.1 e
   simp [s.len g _ r h2]
  ·cases e
noncomputable def xn:Bs where
 D ρ:=ρ
 n:=0
 k r:=r
 dec f:=fun|[]=>some f|_=> .none
 A f Q:=Q [] f
 law f v r Q h e:=by split at e<;>cases e;exact h
 len f v r e:=by split at e<;>cases e;rfl
noncomputable def xc (c:Cs) (s:Bs):Bs where
 D ρ:=c.D (s.D ρ)
 n:=s.n+1
 k r:=c.k (s.k r)
 dec f:=fun| .cells v::l=>(c.dec f v).bind fun g=>s.dec g l|_=> .none
 A f Q:=c.A f fun v g=>s.A g fun l r=>Q (.cells v::l) r
 law f v r Q h e:=by
  split at e
  ·obtain ⟨g,h1,h2⟩:=Option.bind_eq_some_iff.1 e
   have:=s.law g _ r _ (c.law f _ g _ h h1) h2;exact this
  ·cases e
 len f v r e:=by
  split at e
  ·obtain ⟨g,h1,h2⟩:=Option.bind_eq_some_iff.1 e
   simp [s.len g _ r h2]
  ·cases e
noncomputable def xm (s:Bs):Bs where
 D ρ:=List (Cl×Bool)→s.D ρ
 n:=s.n+1
 k r:=fun _=>s.k r
 dec f:=fun| .map .C m::l=>s.dec (f m) l|_=> .none
 A f Q:= ∀m:List (Cl×Bool),s.A (f m) fun l r=>Q (.map (U:=UU) ET.C m::l) r
 law f v r Q h e:=by
  split at e
  ·have:=s.law _ _ r _ (h _) e;exact this
  ·cases e
 len f v r e:=by
  split at e
  ·simp [s.len _ _ r e]
  ·cases e
noncomputable def cI:Cd where
 D ρ:=Int→ρ
 k r:=fun _=>r
 dec f:=fun| .int .i64 n=>some (f n)|_=> .none
 A f Q:= ∀n:Int,Q (iI n) (f n)
 law f v r Q h e:=by split at e<;>cases e;exact h _
noncomputable def cU:Cd where
 D ρ:=Int→ρ
 k r:=fun _=>r
 dec f:=fun| .int .u32 n=>some (f n)|_=> .none
 A f Q:= ∀n:Int,Q (iU n) (f n)
 law f v r Q h e:=by split at e<;>cases e;exact h _
noncomputable def cN (kd:IntKind):Cd where
 D ρ:=Int→ρ
 k r:=fun _=>r
 dec f:=fun| .int q n=>(match decEq q kd with| .isTrue _=>some (f n)| .isFalse _=> .none)|_=> .none
 A f Q:= ∀n:Int,Q (.int kd n) (f n)
 law f v r Q h e:=by
  split at e
  ·split at e
   ·rename_i hq _;subst hq;cases e;exact h _
   ·cases e
  ·cases e
noncomputable def cb:Cd where
 D ρ:=Bool→ρ
 k r:=fun _=>r
 dec f:=fun| .bool n=>some (f n)|_=> .none
 A f Q:= ∀n:Bool,Q (.bool n) (f n)
 law f v r Q h e:=by split at e<;>cases e;exact h _
noncomputable def cs:Cd where
 D ρ:=ByteArray→ρ
 k r:=fun _=>r
 dec f:=fun| .str n=>some (f n)|_=> .none
 A f Q:= ∀n:ByteArray,Q (.str n) (f n)
 law f v r Q h e:=by split at e<;>cases e;exact h _
noncomputable def lC:Cd where
 D ρ:=List Cl→ρ
 k r:=fun _=>r
 dec f:=fun| .sl .C n .none=>some (f n)|_=> .none
 A f Q:= ∀n:List Cl,Q (sC n) (f n)
 law f v r Q h e:=by split at e<;>cases e;exact h _
noncomputable def lT:Cd where
 D ρ:=List Tm→ρ
 k r:=fun _=>r
 dec f:=fun| .sl .T n .none=>some (f n)|_=> .none
 A f Q:= ∀n:List Tm,Q (sT n) (f n)
 law f v r Q h e:=by split at e<;>cases e;exact h _
noncomputable def lB:Cd where
 D ρ:=List (Br Tm)→ρ
 k r:=fun _=>r
 dec f:=fun| .sl .B n .none=>some (f n)|_=> .none
 A f Q:= ∀n:List (Br Tm),Q (sB n) (f n)
 law f v r Q h e:=by split at e<;>cases e;exact h _
noncomputable def lI:Cd where
 D ρ:=List Int→ρ
 k r:=fun _=>r
 dec f:=fun| .sl .I n .none=>some (f n)|_=> .none
 A f Q:= ∀n:List Int,Q (lg n .none) (f n)
 law f v r Q h e:=by split at e<;>cases e;exact h _
noncomputable def lF:Cd where
 D ρ:=List (List Cl)→ρ
 k r:=fun _=>r
 dec f:=fun| .sl .F n .none=>some (f n)|_=> .none
 A f Q:= ∀n:List (List Cl),Q (yL n .none) (f n)
 law f v r Q h e:=by split at e<;>cases e;exact h _
noncomputable def hC:Cd where
 D ρ:=List Cl→ρ
 k r:=fun _=>r
 dec f:=fun| .fresh .C n=>some (f n)|_=> .none
 A f Q:= ∀n:List Cl,Q (Bq n) (f n)
 law f v r Q h e:=by split at e<;>cases e;exact h _
noncomputable def cT:Cd where
 D ρ:=Tm→ρ
 k r:=fun _=>r
 dec f:=fun| .agg [.int .i64 a,.int .i64 b,.str c,.sl .C d .none,.sl .T e .none,.sl .B g .none]=>some (f (Tm.mk a b c d e g))|_=> .none
 A f Q:= ∀t:Tm,Q (aT t) (f t)
 law f v r Q h e:=by split at e<;>cases e;exact h (Tm.mk _ _ _ _ _ _)
noncomputable def cC:Cd where
 D ρ:=Cl→ρ
 k r:=fun _=>r
 dec f:=fun| .agg [.int .u32 a,.int .u32 b]=>some (f ⟨a,b⟩)|_=> .none
 A f Q:= ∀t:Cl,Q (aC t) (f t)
 law f v r Q h e:=by split at e<;>cases e;exact h (⟨_,_⟩)
noncomputable def cB:Cd where
 D ρ:=Br Tm→ρ
 k r:=fun _=>r
 dec f:=fun| .agg [.sl .C a .none,.sl .T b .none]=>some (f (Br.mk a b))|_=> .none
 A f Q:= ∀t:Br Tm,Q (aB t) (f t)
 law f v r Q h e:=by split at e<;>cases e;exact h (Br.mk _ _)
noncomputable def xT (s:Bs):Bs where
 D ρ:=Tm→s.D ρ
 n:=s.n+1
 k r:=fun _=>s.k r
 dec f:=fun| .cells [.int .i64 a,.int .i64 b,.str c,.sl .C d .none,.sl .T e .none,.sl .B g .none]::l=>s.dec (f (Tm.mk a b c d e g)) l|_=> .none
 A f Q:= ∀t:Tm,s.A (f t) fun l r=>Q (bT t::l) r
 law f v r Q h e:=by
  split at e
  ·have:=s.law _ _ r _ (h (Tm.mk _ _ _ _ _ _)) e;exact this
  ·cases e
 len f v r e:=by
  split at e
  ·simp [s.len _ _ r e]
  ·cases e
noncomputable def xC (s:Bs):Bs where
 D ρ:=Cl→s.D ρ
 n:=s.n+1
 k r:=fun _=>s.k r
 dec f:=fun| .cells [.int .u32 a,.int .u32 b]::l=>s.dec (f ⟨a,b⟩) l|_=> .none
 A f Q:= ∀t:Cl,s.A (f t) fun l r=>Q (bC t::l) r
 law f v r Q h e:=by
  split at e
  ·have:=s.law _ _ r _ (h (⟨_,_⟩)) e;exact this
  ·cases e
 len f v r e:=by
  split at e
  ·simp [s.len _ _ r e]
  ·cases e
noncomputable def xB (s:Bs):Bs where
 D ρ:=Br Tm→s.D ρ
 n:=s.n+1
 k r:=fun _=>s.k r
 dec f:=fun| .cells [.sl .C a .none,.sl .T b .none]::l=>s.dec (f (Br.mk a b)) l|_=> .none
 A f Q:= ∀t:Br Tm,s.A (f t) fun l r=>Q (bB t::l) r
 law f v r Q h e:=by
  split at e
  ·have:=s.law _ _ r _ (h (Br.mk _ _)) e;exact this
  ·cases e
 len f v r e:=by
  split at e
  ·simp [s.len _ _ r e]
  ·cases e
noncomputable def xI (s:Bs):Bs where
 D ρ:=Int→s.D ρ
 n:=s.n+1
 k r:=fun _=>s.k r
 dec f:=fun| .cells [.int .i64 a]::l=>s.dec (f a) l|_=> .none
 A f Q:= ∀t:Int,s.A (f t) fun l r=>Q (bI t::l) r
 law f v r Q h e:=by
  split at e
  ·have:=s.law _ _ r _ (h _) e;exact this
  ·cases e
 len f v r e:=by
  split at e
  ·simp [s.len _ _ r e]
  ·cases e
noncomputable def cp (i:Nat):Cd where
 D ρ:=ρ
 k r:=r
 dec f:=fun| .ptr j 0=>(match decEq j i with| .isTrue _=>some f| .isFalse _=> .none)|_=> .none
 A f Q:=Q (pt i) f
 law f v r Q h e:=by
  split at e
  ·split at e
   ·rename_i hq _;subst hq;cases e;exact h
   ·cases e
  ·cases e
noncomputable def cg (s:Cs):Cd where
 D ρ:=s.D ρ
 k r:=s.k r
 dec f:=fun| .agg l=>s.dec f l|_=> .none
 A f Q:=s.A f fun l r=>Q (.agg l) r
 law f v r Q h e:=by
  split at e
  ·have:=s.law f _ r _ h e;exact this
  ·cases e
noncomputable def cf (i:Nat) (s:Cs) (u:Cs):Cd where
 D ρ:=s.D (u.D ρ)
 k r:=s.k (u.k r)
 dec f:=fun| .func j l m=>(match decEq j i with| .isTrue _=>(s.dec f l).bind fun g=>u.dec g m| .isFalse _=> .none)|_=> .none
 A f Q:=s.A f fun l g=>u.A g fun m r=>Q (.func i l m) r
 law f v r Q h e:=by
  split at e
  ·split at e
   ·rename_i hq _
    subst hq
    obtain ⟨g,h1,h2⟩:=Option.bind_eq_some_iff.1 e
    have:=u.law g _ r _ (s.law f _ g _ h h1) h2;exact this
   ·cases e
  ·cases e
noncomputable def ag {S:Type} (K:Cs) (B:Bs) (F:K.D (B.D (Kn S))):Rw S:=fun vs bs κ=>(K.dec F vs).bind fun g=>(B.dec g bs).bind fun h=>h κ
noncomputable def si (K:Cs) (B:Bs) (vs:List PU) (bs:List (Box UU)):Bool:=((K.dec (K.k (B.k ())) vs).bind fun g=>B.dec g bs).isSome
noncomputable def AA {S:Type} (K:Cs) (B:Bs) (F:K.D (B.D (Kn S))) (Q:List PU→List (Box UU)→Kn S→Prop):Prop:=K.A F fun vs g=>B.A g fun bs h=>Q vs bs h
theorem Co {S:Type} {K:Cs} {B:Bs} {F:K.D (B.D (Kn S))} {Q:List PU→List (Box UU)→Kn S→Prop} (hA:AA K B F Q) {vs:List PU} {bs:List (Box UU)} {κ:Out UU→Option S} {x:S} (h:ag K B F vs bs κ=some x):
  ∃g,Q vs bs g∧g κ=some x∧vs.length=K.n∧bs.length=B.n:=by
 obtain ⟨g,h1,h2⟩:=Option.bind_eq_some_iff.1 h
 obtain ⟨u,h3,h4⟩:=Option.bind_eq_some_iff.1 h2
 have:=K.law F vs g _ hA h1
 have:=B.law g bs u _ this h3
 exact ⟨u,this,h4,K.len _ _ _ h1,B.len _ _ _ h3⟩
noncomputable def Tl {S:Type} (o:Obj) (f:Nat) (r:Rw S):Prop:= ∀vs bs κ x,r vs bs κ=some x→ ∃out,bW (LL o) f vs bs out∧κ out=some x
noncomputable def ta {S:Type}:List (Nat×Rw S)→Oracle UU S
 |[],_,_,_,_=> .none
 |(g,r)::l,f,vs,bs,κ=>bif Nat.beq f g then r vs bs κ else ta l f vs bs κ
noncomputable def TA {S:Type} (o:Obj):List (Nat×Rw S)→Prop
 |[]=>True
 |(f,r)::l=>Tl o f r∧TA o l
theorem TA.tells {S:Type} {o:Obj}: ∀ {l:List (Nat×Rw S)},TA o l→(ta l).Tells (bW (LL o))
 |[],_,f,vs,bs,κ,x,h=>by cases h
 |(g,r)::l,hl,f,vs,bs,κ,x,h=>by
  unfold ta at h
  cases hb:Nat.beq f g with
  |true=>
   rw [hb] at h
   have:=Nat.eq_of_beq_eq_true hb
   subst this
   exact hl.1 _ _ _ _ h
  |false=>
   rw [hb] at h
   exact TA.tells hl.2 _ _ _ _ _ h
noncomputable def mI {S:Type} (b:List PU→List (Box UU)→Bool) (r q:Rw S):Rw S:=fun vs bs κ=>bif b vs bs then r vs bs κ else q vs bs κ
theorem td {S:Type} {o:Obj} {f:Nat} {b:List PU→List (Box UU)→Bool} {r q:Rw S} (h1:Tl o f r) (h2:Tl o f q):Tl o f (mI b r q):=fun vs bs κ x h=>by
 unfold mI at h
 rcases UA h with h|h
 ·exact h1 _ _ _ _ h
 ·exact h2 _ _ _ _ h
structure Fx (S:Type) where
 sd:Side UU
 rows:List (Nat×Rw S)
 loops:List (Nat×Ann×List Bool)
 k:Nat
 fn:Func
 kp:Bool
 hn:List Bool
 nb:Nat
 cd:Option (PU→Oracle UU S)
noncomputable def FK:List (Nat×Ann×List Bool)→Nat→Option Ann
 |[],_=> .none
 |(i,a,_)::l,n=>bif Nat.beq n i then some a else FK l n
noncomputable def B4:List (Nat×Ann×List Bool)→Nat→Ann×List Bool
 |[],_=>(⟨[],[]⟩,[])
 |(i,a)::l,n=>bif Nat.beq n i then a else B4 l n
noncomputable def aS (rs:List Nat) (bs:List (Nat×Nat)):Ann:=⟨rs.map fun n=>(n,.none),bs.map fun p=>(p.1,List.replicate p.2 .none)⟩
noncomputable def ap:Nat→Nat→List Bool
 |0,_=>[]
 |n+1,b=>Nat.beq (b%2) 1::ap n (b/2)
noncomputable def fx {S:Type} (nt:Nat) (gv:Nat→List Bool) (ip:Nat→Bool) (rows:List (Nat×Rw S)) (loops:List (Nat×Ann×List Bool)) (k:Nat) (fn:Func) (kp:Bool) (hn:List Bool) (nb:Nat):Fx S:=
 ⟨⟨nt,gv,ip,.none,fun _=>false⟩,rows,loops,k,fn,kp,hn,nb,.none⟩
noncomputable def fp {S:Type} (nt:Nat) (rows:List (Nat×Rw S)) (loops:List (Nat×Ann×List Bool)) (k:Nat) (fn:Func) (nb:Nat):Fx S:=fx nt (fun _=>[]) (fun _=>false) rows loops k fn false [] nb
variable {S:Type}
noncomputable def Fx.oc (F:Fx S):Oracle UU S:=ta F.rows
noncomputable def Fx.an (F:Fx S):Nat→Option Ann:=FK F.loops
noncomputable def Fx.go (F:Fx S) (c:Code) (σ:St UU) (κ:Ex UU→St UU→Option S):Option S:=PI.run VV F.sd F.oc F.an F.k c σ κ
noncomputable def Fx.kt (F:Fx S) (κ:Out UU→Option S) (p:List Bool) (κs:List (St UU→Option S)):Ex UU→St UU→Option S:=match F.cd with
 | .none=>kE VV F.sd F.oc F.an F.k (fO F.fn) p κs F.an (kF VV F.oc F.kp F.hn F.fn F.nb κ)
 |some C=>HP VV F.sd F.oc F.an F.k (fO F.fn) p κs F.an (kF VV F.oc F.kp F.hn F.fn F.nb κ) (kD VV F.oc C F.kp F.hn F.fn F.nb κ)
noncomputable def Fx.run (F:Fx S) (vs:List PU) (bs:List (Box UU)) (κ:Out UU→Option S):Option S:=match F.cd with
 | .none=>py VV F.sd F.oc F.an F.k F.kp F.hn F.fn vs bs κ
 |some C=>Ds VV F.sd F.oc F.an F.k C F.kp F.hn F.fn vs bs κ
noncomputable def Fx.A (F:Fx S) (i:Nat):Ann:=(B4 F.loops i).1
noncomputable def Fx.p (F:Fx S) (i:Nat):List Bool:=(B4 F.loops i).2
noncomputable def Fx.lp (F:Fx S) (κ:Out UU→Option S) (i:Nat) (κs:List (St UU→Option S)) (n:Nat) (σ:St UU):Option S:=
 sE (dF (F.A i)) (fun σ κ=>F.go (g6 (fO F.fn) (F.p i++[false])) σ κ) n σ (F.kt κ (F.p i) κs)
noncomputable def Fx.st (F:Fx S) (κ:Out UU→Option S) (i:Nat) (κs:List (St UU→Option S)) (r:St UU→Option S) (σ:St UU):Option S:=
 F.go (g6 (fO F.fn) (F.p i++[false])) σ (back (dF (F.A i)) r (F.kt κ (F.p i) κs))
noncomputable def Fx.jn (F:Fx S) (κ:Out UU→Option S) (i:Nat) (κs:List (St UU→Option S)) (n:Nat) (σ:St UU):Option S:=
 BH (fun σ κ=>F.go (g6 (fO F.fn) (F.p i)) σ κ) n σ (F.kt κ (F.p i) κs)
noncomputable def Fx.sj (F:Fx S) (κ:Out UU→Option S) (i:Nat) (κs:List (St UU→Option S)) (σ:St UU):Option S:=F.go (g6 (fO F.fn) (F.p i)) σ (F.kt κ (F.p i) κs)
theorem Fx.lp_succ (F:Fx S) (κ:Out UU→Option S) (i:Nat) (κs:List (St UU→Option S)) (n:Nat) (σ:St UU):F.lp κ i κs (n+1) σ=F.st κ i κs (fun τ=>F.lp κ i κs n τ) σ:=rfl
theorem Fx.jn_succ (F:Fx S) (κ:Out UU→Option S) (i:Nat) (κs:List (St UU→Option S)) (n:Nat) (σ:St UU):F.jn κ i κs (n+1) σ=F.sj κ i κs σ:=rfl
noncomputable def tb (F:Fx S) (n m:Nat):Bool:=(F.fn.name== "runtime.NumGoroutine")==false&&(F.fn.body.isNone==false&&(Nat.beq F.fn.ntmps F.sd.nt&&(Nat.ble F.sd.nt 1000000&&(Nat.ble n F.sd.nt&&Nat.ble m 1000000))))
theorem Cu {F:Fx S} {n m:Nat} (h:tb F n m=true):(F.fn.name== "runtime.NumGoroutine")=false∧F.fn.body.isNone=false∧F.fn.ntmps=F.sd.nt∧F.sd.nt≤1000000∧n≤F.sd.nt∧m≤1000000:=by
 unfold tb at h
 simp only [Bool.and_eq_true,beq_iff_eq] at h
 obtain ⟨h1,h2,h3,h4,h5,h6⟩:=h
 exact ⟨h1,h2,Nat.eq_of_beq_eq_true h3,Nat.le_of_ble_eq_true h4,Nat.le_of_ble_eq_true h5,Nat.le_of_ble_eq_true h6⟩
theorem ai {o:Obj} {K:Cs} {B:Bs} {R:K.D (B.D (Kn S))} (F:Fx S) {f:FuncId} (ht:TA o F.rows) (hf:Tryz.prog.funcs[f]? =some F.fn) (hb:tb F K.n B.n=true) (run:AA K B R fun vs bs g=> ∀κ x,g κ=some x→F.run vs bs κ=some x)
  (h1:F.sd.rcv= .none:=by rfl) (h2:F.sd.pin=(fun _=>false):=by rfl) (h3:F.cd= .none:=by rfl):Tl o f (ag K B R):=fun vs bs κ x h=>by
 obtain ⟨g,hg,hx,hl,hm⟩:=Co run h
 have hr:=hg κ x hx
 unfold Fx.run at hr
 rw [h3] at hr
 obtain ⟨b1,b2,b3,b4,b5,b6⟩:=Cu hb
 exact sw (Ma xA (xd o) h1 h2 ht.tells hf b1 b2 b3 b4 (by omega) hr)
theorem e_ {o:Obj} {K:Cs} {B:Bs} {R:K.D (B.D (Kn S))} {f:FuncId} (h0:AA K B R fun vs bs g=> ∀κ x,g κ=some x→False):Tl o f (ag K B R):=fun vs bs κ x h=>by
 obtain ⟨g,hg,hx,_⟩:=Co h0 h
 exact (hg κ x hx).elim
noncomputable def vq (nt f:Nat) (fn:Func) (k:Nat):PU→Oracle UU S:=fun v g vs bs κ=>bif Nat.beq g f&&Nat.ble vs.length nt then Dt VV ⟨nt,fun _=>[],fun _=>false,.none,fun _=>false⟩ (ta []) (fun _=> .none) k true [] fn v vs bs κ else .none
theorem FX (o:Obj) {nt f:Nat} {fn:Func} {k:Nat} (hf:Tryz.prog.funcs[f]? =some fn) (hb:tb (fp nt [] [] k fn 0:Fx S) 0 0=true): ∀v u u',RcvOK v u u'→(vq (S:=S) nt f fn k v).Tells (iR (LL o) (jU Tryz.prog u u')):=by
 intro v u u' hv g vs bs κ x h
 unfold vq at h
 cases hc:Nat.beq g f&&Nat.ble vs.length nt with
 |false=>rw [hc] at h;cases h
 |true=>
  rw [hc] at h
  rw [Bool.and_eq_true] at hc
  have:=Nat.eq_of_beq_eq_true hc.1
  subst this
  obtain ⟨b1,b2,b3,b4,_,_⟩:=Cu hb
  exact sw (ab4 xA (xd o) rfl rfl (TA.tells (l:=[]) (o:=o) trivial) hf b1 b2 b3 b4 hv (Nat.le_of_ble_eq_true hc.2) h)
theorem Pp {o:Obj} {K:Cs} {B:Bs} {R:K.D (B.D (Kn S))} (F:Fx S) {f:FuncId} {C:PU→Oracle UU S} (h3:F.cd=some C) (hC: ∀v u u',RcvOK v u u'→(C v).Tells (iR (LL o) (jU Tryz.prog u u'))) (ht:TA o F.rows) (hf:Tryz.prog.funcs[f]? =some F.fn) (hb:tb F K.n B.n=true)
  (run:AA K B R fun vs bs g=> ∀κ x,g κ=some x→F.run vs bs κ=some x) (h1:F.sd.rcv= .none:=by rfl):Tl o f (ag K B R):=fun vs bs κ x h=>by
 obtain ⟨g,hg,hx,hl,hm⟩:=Co run h
 have hr:=hg κ x hx
 unfold Fx.run at hr
 rw [h3] at hr
 obtain ⟨b1,b2,b3,b4,b5,b6⟩:=Cu hb
 exact sw (ab2 xA (xd o) h1 ht.tells hC hf b1 b2 b3 b4 (by omega) (by omega) hr)
theorem lp0 {F:Fx S} {κ:Out UU→Option S} {i:Nat} {κs:List (St UU→Option S)} {mk:St UU} {l:Nat→Option S} (b:(Option S)→Option S) (h0:l 0= .none) (hs: ∀n,l (n+1)=b (l n)) (B: ∀ (r:St UU→Option S),F.st κ i κs r mk=b (r mk)): ∀ (n:Nat),F.lp κ i κs n mk=l n:=by
 intro n
 induction n with
 |zero=>intros;rw [h0];rfl
 |succ n ih=>
  intros
  rw [hs,Fx.lp_succ,B]
  exact congrArg (fun g=>b g) ih
theorem kB {F:Fx S} {κ:Out UU→Option S} {i:Nat} {κs:List (St UU→Option S)} {mk:St UU} {l:Nat→Option S} (b:Option S) (h0:l 0= .none) (hs: ∀n,l (n+1)=b) (B:F.sj κ i κs mk=b): ∀ (n:Nat),F.jn κ i κs n mk=l n:=by
 intro n
 cases n with
 |zero=>intros;rw [h0];rfl
 |succ n=>intros;rw [hs,Fx.jn_succ];exact B
theorem ci {F:Fx S} {κ:Out UU→Option S} {i:Nat} {κs:List (St UU→Option S)} {α0:Type} {mk:α0→St UU} {l:Nat→α0→Option S} (b:(α0→Option S)→α0→Option S) (h0:l 0=fun x0=> .none) (hs: ∀n,l (n+1)=b (l n)) (B: ∀ (r:St UU→Option S) x0,F.st κ i κs r (mk x0)=b (fun x0=>r (mk x0)) x0): ∀ (n:Nat) x0,F.lp κ i κs n (mk x0)=l n x0:=by
 intro n
 induction n with
 |zero=>intros;rw [h0];rfl
 |succ n ih=>
  intros
  rw [hs,Fx.lp_succ,B]
  exact congrArg (fun g=>b g _) (funext fun x0=>ih x0)
theorem sq {F:Fx S} {κ:Out UU→Option S} {i:Nat} {κs:List (St UU→Option S)} {α0:Type} {mk:α0→St UU} {l:Nat→α0→Option S} (b:α0→Option S) (h0:l 0=fun x0=> .none) (hs: ∀n,l (n+1)=b) (B: ∀x0,F.sj κ i κs (mk x0)=b x0): ∀ (n:Nat) x0,F.jn κ i κs n (mk x0)=l n x0:=by
 intro n
 cases n with
 |zero=>intros;rw [h0];rfl
 |succ n=>intros;rw [hs,Fx.jn_succ];exact B _
theorem aP {F:Fx S} {κ:Out UU→Option S} {i:Nat} {κs:List (St UU→Option S)} {α0 α1:Type} {mk:α0→α1→St UU} {l:Nat→α0→α1→Option S} (b:(α0→α1→Option S)→α0→α1→Option S) (h0:l 0=fun x0 x1=> .none) (hs: ∀n,l (n+1)=b (l n)) (B: ∀ (r:St UU→Option S) x0 x1,F.st κ i κs r (mk x0 x1)=b (fun x0 x1=>r (mk x0 x1)) x0 x1): ∀ (n:Nat) x0 x1,F.lp κ i κs n (mk x0 x1)=l n x0 x1:=by
 intro n
 induction n with
 |zero=>intros;rw [h0];rfl
 |succ n ih=>
  intros
  rw [hs,Fx.lp_succ,B]
  exact congrArg (fun g=>b g _ _) (funext fun x0=>funext fun x1=>ih x0 x1)
theorem Hr {F:Fx S} {κ:Out UU→Option S} {i:Nat} {κs:List (St UU→Option S)} {α0 α1:Type} {mk:α0→α1→St UU} {l:Nat→α0→α1→Option S} (b:α0→α1→Option S) (h0:l 0=fun x0 x1=> .none) (hs: ∀n,l (n+1)=b) (B: ∀x0 x1,F.sj κ i κs (mk x0 x1)=b x0 x1): ∀ (n:Nat) x0 x1,F.jn κ i κs n (mk x0 x1)=l n x0 x1:=by
 intro n
 cases n with
 |zero=>intros;rw [h0];rfl
 |succ n=>intros;rw [hs,Fx.jn_succ];exact B _ _
theorem jA {F:Fx S} {κ:Out UU→Option S} {i:Nat} {κs:List (St UU→Option S)} {α0 α1 α2:Type} {mk:α0→α1→α2→St UU} {l:Nat→α0→α1→α2→Option S} (b:(α0→α1→α2→Option S)→α0→α1→α2→Option S) (h0:l 0=fun x0 x1 x2=> .none) (hs: ∀n,l (n+1)=b (l n)) (B: ∀ (r:St UU→Option S) x0 x1 x2,F.st κ i κs r (mk x0 x1 x2)=b (fun x0 x1 x2=>r (mk x0 x1 x2)) x0 x1 x2): ∀ (n:Nat) x0 x1 x2,F.lp κ i κs n (mk x0 x1 x2)=l n x0 x1 x2:=by
 intro n
 induction n with
 |zero=>intros;rw [h0];rfl
 |succ n ih=>
  intros
  rw [hs,Fx.lp_succ,B]
  exact congrArg (fun g=>b g _ _ _) (funext fun x0=>funext fun x1=>funext fun x2=>ih x0 x1 x2)
theorem jn3 {F:Fx S} {κ:Out UU→Option S} {i:Nat} {κs:List (St UU→Option S)} {α0 α1 α2:Type} {mk:α0→α1→α2→St UU} {l:Nat→α0→α1→α2→Option S} (b:α0→α1→α2→Option S) (h0:l 0=fun x0 x1 x2=> .none) (hs: ∀n,l (n+1)=b) (B: ∀x0 x1 x2,F.sj κ i κs (mk x0 x1 x2)=b x0 x1 x2): ∀ (n:Nat) x0 x1 x2,F.jn κ i κs n (mk x0 x1 x2)=l n x0 x1 x2:=by
 intro n
 cases n with
 |zero=>intros;rw [h0];rfl
 |succ n=>intros;rw [hs,Fx.jn_succ];exact B _ _ _
theorem lp4 {F:Fx S} {κ:Out UU→Option S} {i:Nat} {κs:List (St UU→Option S)} {α0 α1 α2 α3:Type} {mk:α0→α1→α2→α3→St UU} {l:Nat→α0→α1→α2→α3→Option S} (b:(α0→α1→α2→α3→Option S)→α0→α1→α2→α3→Option S) (h0:l 0=fun x0 x1 x2 x3=> .none) (hs: ∀n,l (n+1)=b (l n)) (B: ∀ (r:St UU→Option S) x0 x1 x2 x3,F.st κ i κs r (mk x0 x1 x2 x3)=b (fun x0 x1 x2 x3=>r (mk x0 x1 x2 x3)) x0 x1 x2 x3): ∀ (n:Nat) x0 x1 x2 x3,F.lp κ i κs n (mk x0 x1 x2 x3)=l n x0 x1 x2 x3:=by
 intro n
 induction n with
 |zero=>intros;rw [h0];rfl
 |succ n ih=>
  intros
  rw [hs,Fx.lp_succ,B]
  exact congrArg (fun g=>b g _ _ _ _) (funext fun x0=>funext fun x1=>funext fun x2=>funext fun x3=>ih x0 x1 x2 x3)
theorem jn4 {F:Fx S} {κ:Out UU→Option S} {i:Nat} {κs:List (St UU→Option S)} {α0 α1 α2 α3:Type} {mk:α0→α1→α2→α3→St UU} {l:Nat→α0→α1→α2→α3→Option S} (b:α0→α1→α2→α3→Option S) (h0:l 0=fun x0 x1 x2 x3=> .none) (hs: ∀n,l (n+1)=b) (B: ∀x0 x1 x2 x3,F.sj κ i κs (mk x0 x1 x2 x3)=b x0 x1 x2 x3): ∀ (n:Nat) x0 x1 x2 x3,F.jn κ i κs n (mk x0 x1 x2 x3)=l n x0 x1 x2 x3:=by
 intro n
 cases n with
 |zero=>intros;rw [h0];rfl
 |succ n=>intros;rw [hs,Fx.jn_succ];exact B _ _ _ _
theorem lp5 {F:Fx S} {κ:Out UU→Option S} {i:Nat} {κs:List (St UU→Option S)} {α0 α1 α2 α3 α4:Type} {mk:α0→α1→α2→α3→α4→St UU} {l:Nat→α0→α1→α2→α3→α4→Option S} (b:(α0→α1→α2→α3→α4→Option S)→α0→α1→α2→α3→α4→Option S) (h0:l 0=fun x0 x1 x2 x3 x4=> .none) (hs: ∀n,l (n+1)=b (l n)) (B: ∀ (r:St UU→Option S) x0 x1 x2 x3 x4,F.st κ i κs r (mk x0 x1 x2 x3 x4)=b (fun x0 x1 x2 x3 x4=>r (mk x0 x1 x2 x3 x4)) x0 x1 x2 x3 x4): ∀ (n:Nat) x0 x1 x2 x3 x4,F.lp κ i κs n (mk x0 x1 x2 x3 x4)=l n x0 x1 x2 x3 x4:=by
 intro n
 induction n with
 |zero=>intros;rw [h0];rfl
 |succ n ih=>
  intros
  rw [hs,Fx.lp_succ,B]
  exact congrArg (fun g=>b g _ _ _ _ _) (funext fun x0=>funext fun x1=>funext fun x2=>funext fun x3=>funext fun x4=>ih x0 x1 x2 x3 x4)
theorem jn5 {F:Fx S} {κ:Out UU→Option S} {i:Nat} {κs:List (St UU→Option S)} {α0 α1 α2 α3 α4:Type} {mk:α0→α1→α2→α3→α4→St UU} {l:Nat→α0→α1→α2→α3→α4→Option S} (b:α0→α1→α2→α3→α4→Option S) (h0:l 0=fun x0 x1 x2 x3 x4=> .none) (hs: ∀n,l (n+1)=b) (B: ∀x0 x1 x2 x3 x4,F.sj κ i κs (mk x0 x1 x2 x3 x4)=b x0 x1 x2 x3 x4): ∀ (n:Nat) x0 x1 x2 x3 x4,F.jn κ i κs n (mk x0 x1 x2 x3 x4)=l n x0 x1 x2 x3 x4:=by
 intro n
 cases n with
 |zero=>intros;rw [h0];rfl
 |succ n=>intros;rw [hs,Fx.jn_succ];exact B _ _ _ _ _
theorem lp6 {F:Fx S} {κ:Out UU→Option S} {i:Nat} {κs:List (St UU→Option S)} {α0 α1 α2 α3 α4 α5:Type} {mk:α0→α1→α2→α3→α4→α5→St UU} {l:Nat→α0→α1→α2→α3→α4→α5→Option S} (b:(α0→α1→α2→α3→α4→α5→Option S)→α0→α1→α2→α3→α4→α5→Option S) (h0:l 0=fun x0 x1 x2 x3 x4 x5=> .none) (hs: ∀n,l (n+1)=b (l n)) (B: ∀ (r:St UU→Option S) x0 x1 x2 x3 x4 x5,F.st κ i κs r (mk x0 x1 x2 x3 x4 x5)=b (fun x0 x1 x2 x3 x4 x5=>r (mk x0 x1 x2 x3 x4 x5)) x0 x1 x2 x3 x4 x5): ∀ (n:Nat) x0 x1 x2 x3 x4 x5,F.lp κ i κs n (mk x0 x1 x2 x3 x4 x5)=l n x0 x1 x2 x3 x4 x5:=by
 intro n
 induction n with
 |zero=>intros;rw [h0];rfl
 |succ n ih=>
  intros
  rw [hs,Fx.lp_succ,B]
  exact congrArg (fun g=>b g _ _ _ _ _ _) (funext fun x0=>funext fun x1=>funext fun x2=>funext fun x3=>funext fun x4=>funext fun x5=>ih x0 x1 x2 x3 x4 x5)
theorem jn6 {F:Fx S} {κ:Out UU→Option S} {i:Nat} {κs:List (St UU→Option S)} {α0 α1 α2 α3 α4 α5:Type} {mk:α0→α1→α2→α3→α4→α5→St UU} {l:Nat→α0→α1→α2→α3→α4→α5→Option S} (b:α0→α1→α2→α3→α4→α5→Option S) (h0:l 0=fun x0 x1 x2 x3 x4 x5=> .none) (hs: ∀n,l (n+1)=b) (B: ∀x0 x1 x2 x3 x4 x5,F.sj κ i κs (mk x0 x1 x2 x3 x4 x5)=b x0 x1 x2 x3 x4 x5): ∀ (n:Nat) x0 x1 x2 x3 x4 x5,F.jn κ i κs n (mk x0 x1 x2 x3 x4 x5)=l n x0 x1 x2 x3 x4 x5:=by
 intro n
 cases n with
 |zero=>intros;rw [h0];rfl
 |succ n=>intros;rw [hs,Fx.jn_succ];exact B _ _ _ _ _ _
theorem lp7 {F:Fx S} {κ:Out UU→Option S} {i:Nat} {κs:List (St UU→Option S)} {α0 α1 α2 α3 α4 α5 α6:Type} {mk:α0→α1→α2→α3→α4→α5→α6→St UU} {l:Nat→α0→α1→α2→α3→α4→α5→α6→Option S} (b:(α0→α1→α2→α3→α4→α5→α6→Option S)→α0→α1→α2→α3→α4→α5→α6→Option S) (h0:l 0=fun x0 x1 x2 x3 x4 x5 x6=> .none) (hs: ∀n,l (n+1)=b (l n)) (B: ∀ (r:St UU→Option S) x0 x1 x2 x3 x4 x5 x6,F.st κ i κs r (mk x0 x1 x2 x3 x4 x5 x6)=b (fun x0 x1 x2 x3 x4 x5 x6=>r (mk x0 x1 x2 x3 x4 x5 x6)) x0 x1 x2 x3 x4 x5 x6): ∀ (n:Nat) x0 x1 x2 x3 x4 x5 x6,F.lp κ i κs n (mk x0 x1 x2 x3 x4 x5 x6)=l n x0 x1 x2 x3 x4 x5 x6:=by
 intro n
 induction n with
 |zero=>intros;rw [h0];rfl
 |succ n ih=>
  intros
  rw [hs,Fx.lp_succ,B]
  exact congrArg (fun g=>b g _ _ _ _ _ _ _) (funext fun x0=>funext fun x1=>funext fun x2=>funext fun x3=>funext fun x4=>funext fun x5=>funext fun x6=>ih x0 x1 x2 x3 x4 x5 x6)
theorem jn7 {F:Fx S} {κ:Out UU→Option S} {i:Nat} {κs:List (St UU→Option S)} {α0 α1 α2 α3 α4 α5 α6:Type} {mk:α0→α1→α2→α3→α4→α5→α6→St UU} {l:Nat→α0→α1→α2→α3→α4→α5→α6→Option S} (b:α0→α1→α2→α3→α4→α5→α6→Option S) (h0:l 0=fun x0 x1 x2 x3 x4 x5 x6=> .none) (hs: ∀n,l (n+1)=b) (B: ∀x0 x1 x2 x3 x4 x5 x6,F.sj κ i κs (mk x0 x1 x2 x3 x4 x5 x6)=b x0 x1 x2 x3 x4 x5 x6): ∀ (n:Nat) x0 x1 x2 x3 x4 x5 x6,F.jn κ i κs n (mk x0 x1 x2 x3 x4 x5 x6)=l n x0 x1 x2 x3 x4 x5 x6:=by
 intro n
 cases n with
 |zero=>intros;rw [h0];rfl
 |succ n=>intros;rw [hs,Fx.jn_succ];exact B _ _ _ _ _ _ _
theorem lp8 {F:Fx S} {κ:Out UU→Option S} {i:Nat} {κs:List (St UU→Option S)} {α0 α1 α2 α3 α4 α5 α6 α7:Type} {mk:α0→α1→α2→α3→α4→α5→α6→α7→St UU} {l:Nat→α0→α1→α2→α3→α4→α5→α6→α7→Option S} (b:(α0→α1→α2→α3→α4→α5→α6→α7→Option S)→α0→α1→α2→α3→α4→α5→α6→α7→Option S) (h0:l 0=fun x0 x1 x2 x3 x4 x5 x6 x7=> .none) (hs: ∀n,l (n+1)=b (l n)) (B: ∀ (r:St UU→Option S) x0 x1 x2 x3 x4 x5 x6 x7,F.st κ i κs r (mk x0 x1 x2 x3 x4 x5 x6 x7)=b (fun x0 x1 x2 x3 x4 x5 x6 x7=>r (mk x0 x1 x2 x3 x4 x5 x6 x7)) x0 x1 x2 x3 x4 x5 x6 x7): ∀ (n:Nat) x0 x1 x2 x3 x4 x5 x6 x7,F.lp κ i κs n (mk x0 x1 x2 x3 x4 x5 x6 x7)=l n x0 x1 x2 x3 x4 x5 x6 x7:=by
 intro n
 induction n with
 |zero=>intros;rw [h0];rfl
 |succ n ih=>
  intros
  rw [hs,Fx.lp_succ,B]
  exact congrArg (fun g=>b g _ _ _ _ _ _ _ _) (funext fun x0=>funext fun x1=>funext fun x2=>funext fun x3=>funext fun x4=>funext fun x5=>funext fun x6=>funext fun x7=>ih x0 x1 x2 x3 x4 x5 x6 x7)
theorem jn8 {F:Fx S} {κ:Out UU→Option S} {i:Nat} {κs:List (St UU→Option S)} {α0 α1 α2 α3 α4 α5 α6 α7:Type} {mk:α0→α1→α2→α3→α4→α5→α6→α7→St UU} {l:Nat→α0→α1→α2→α3→α4→α5→α6→α7→Option S} (b:α0→α1→α2→α3→α4→α5→α6→α7→Option S) (h0:l 0=fun x0 x1 x2 x3 x4 x5 x6 x7=> .none) (hs: ∀n,l (n+1)=b) (B: ∀x0 x1 x2 x3 x4 x5 x6 x7,F.sj κ i κs (mk x0 x1 x2 x3 x4 x5 x6 x7)=b x0 x1 x2 x3 x4 x5 x6 x7): ∀ (n:Nat) x0 x1 x2 x3 x4 x5 x6 x7,F.jn κ i κs n (mk x0 x1 x2 x3 x4 x5 x6 x7)=l n x0 x1 x2 x3 x4 x5 x6 x7:=by
 intro n
 cases n with
 |zero=>intros;rw [h0];rfl
 |succ n=>intros;rw [hs,Fx.jn_succ];exact B _ _ _ _ _ _ _ _
theorem lp9 {F:Fx S} {κ:Out UU→Option S} {i:Nat} {κs:List (St UU→Option S)} {α0 α1 α2 α3 α4 α5 α6 α7 α8:Type} {mk:α0→α1→α2→α3→α4→α5→α6→α7→α8→St UU} {l:Nat→α0→α1→α2→α3→α4→α5→α6→α7→α8→Option S} (b:(α0→α1→α2→α3→α4→α5→α6→α7→α8→Option S)→α0→α1→α2→α3→α4→α5→α6→α7→α8→Option S) (h0:l 0=fun x0 x1 x2 x3 x4 x5 x6 x7 x8=> .none) (hs: ∀n,l (n+1)=b (l n)) (B: ∀ (r:St UU→Option S) x0 x1 x2 x3 x4 x5 x6 x7 x8,F.st κ i κs r (mk x0 x1 x2 x3 x4 x5 x6 x7 x8)=b (fun x0 x1 x2 x3 x4 x5 x6 x7 x8=>r (mk x0 x1 x2 x3 x4 x5 x6 x7 x8)) x0 x1 x2 x3 x4 x5 x6 x7 x8): ∀ (n:Nat) x0 x1 x2 x3 x4 x5 x6 x7 x8,F.lp κ i κs n (mk x0 x1 x2 x3 x4 x5 x6 x7 x8)=l n x0 x1 x2 x3 x4 x5 x6 x7 x8:=by
 intro n
 induction n with
 |zero=>intros;rw [h0];rfl
 |succ n ih=>
  intros
  rw [hs,Fx.lp_succ,B]
  exact congrArg (fun g=>b g _ _ _ _ _ _ _ _ _) (funext fun x0=>funext fun x1=>funext fun x2=>funext fun x3=>funext fun x4=>funext fun x5=>funext fun x6=>funext fun x7=>funext fun x8=>ih x0 x1 x2 x3 x4 x5 x6 x7 x8)
theorem jn9 {F:Fx S} {κ:Out UU→Option S} {i:Nat} {κs:List (St UU→Option S)} {α0 α1 α2 α3 α4 α5 α6 α7 α8:Type} {mk:α0→α1→α2→α3→α4→α5→α6→α7→α8→St UU} {l:Nat→α0→α1→α2→α3→α4→α5→α6→α7→α8→Option S} (b:α0→α1→α2→α3→α4→α5→α6→α7→α8→Option S) (h0:l 0=fun x0 x1 x2 x3 x4 x5 x6 x7 x8=> .none) (hs: ∀n,l (n+1)=b) (B: ∀x0 x1 x2 x3 x4 x5 x6 x7 x8,F.sj κ i κs (mk x0 x1 x2 x3 x4 x5 x6 x7 x8)=b x0 x1 x2 x3 x4 x5 x6 x7 x8): ∀ (n:Nat) x0 x1 x2 x3 x4 x5 x6 x7 x8,F.jn κ i κs n (mk x0 x1 x2 x3 x4 x5 x6 x7 x8)=l n x0 x1 x2 x3 x4 x5 x6 x7 x8:=by
 intro n
 cases n with
 |zero=>intros;rw [h0];rfl
 |succ n=>intros;rw [hs,Fx.jn_succ];exact B _ _ _ _ _ _ _ _ _
theorem aff {F:Fx S} {κ:Out UU→Option S} {i:Nat} {κs:List (St UU→Option S)} {α0 α1 α2 α3 α4 α5 α6 α7 α8 α9:Type} {mk:α0→α1→α2→α3→α4→α5→α6→α7→α8→α9→St UU} {l:Nat→α0→α1→α2→α3→α4→α5→α6→α7→α8→α9→Option S} (b:(α0→α1→α2→α3→α4→α5→α6→α7→α8→α9→Option S)→α0→α1→α2→α3→α4→α5→α6→α7→α8→α9→Option S) (h0:l 0=fun x0 x1 x2 x3 x4 x5 x6 x7 x8 x9=> .none) (hs: ∀n,l (n+1)=b (l n)) (B: ∀ (r:St UU→Option S) x0 x1 x2 x3 x4 x5 x6 x7 x8 x9,F.st κ i κs r (mk x0 x1 x2 x3 x4 x5 x6 x7 x8 x9)=b (fun x0 x1 x2 x3 x4 x5 x6 x7 x8 x9=>r (mk x0 x1 x2 x3 x4 x5 x6 x7 x8 x9)) x0 x1 x2 x3 x4 x5 x6 x7 x8 x9): ∀ (n:Nat) x0 x1 x2 x3 x4 x5 x6 x7 x8 x9,F.lp κ i κs n (mk x0 x1 x2 x3 x4 x5 x6 x7 x8 x9)=l n x0 x1 x2 x3 x4 x5 x6 x7 x8 x9:=by
 intro n
 induction n with
 |zero=>intros;rw [h0];rfl
 |succ n ih=>
  intros
  rw [hs,Fx.lp_succ,B]
  exact congrArg (fun g=>b g _ _ _ _ _ _ _ _ _ _) (funext fun x0=>funext fun x1=>funext fun x2=>funext fun x3=>funext fun x4=>funext fun x5=>funext fun x6=>funext fun x7=>funext fun x8=>funext fun x9=>ih x0 x1 x2 x3 x4 x5 x6 x7 x8 x9)
theorem ae5 {F:Fx S} {κ:Out UU→Option S} {i:Nat} {κs:List (St UU→Option S)} {α0 α1 α2 α3 α4 α5 α6 α7 α8 α9:Type} {mk:α0→α1→α2→α3→α4→α5→α6→α7→α8→α9→St UU} {l:Nat→α0→α1→α2→α3→α4→α5→α6→α7→α8→α9→Option S} (b:α0→α1→α2→α3→α4→α5→α6→α7→α8→α9→Option S) (h0:l 0=fun x0 x1 x2 x3 x4 x5 x6 x7 x8 x9=> .none) (hs: ∀n,l (n+1)=b) (B: ∀x0 x1 x2 x3 x4 x5 x6 x7 x8 x9,F.sj κ i κs (mk x0 x1 x2 x3 x4 x5 x6 x7 x8 x9)=b x0 x1 x2 x3 x4 x5 x6 x7 x8 x9): ∀ (n:Nat) x0 x1 x2 x3 x4 x5 x6 x7 x8 x9,F.jn κ i κs n (mk x0 x1 x2 x3 x4 x5 x6 x7 x8 x9)=l n x0 x1 x2 x3 x4 x5 x6 x7 x8 x9:=by
 intro n
 cases n with
 |zero=>intros;rw [h0];rfl
 |succ n=>intros;rw [hs,Fx.jn_succ];exact B _ _ _ _ _ _ _ _ _ _
end
end Go.Proofs.YtapmagaejigpnaaGreatDoor
namespace Go.Proofs.YtapmagaejigpnaaGreatDoor
open Go PI
set_option linter.unusedVariables false
set_option maxRecDepth 100000
noncomputable def tZ:Side UU:=⟨8,fun _=>[],fun _=>false,.none,fun _=>false⟩
noncomputable def xK {S:Type}:Oracle UU S:=fun _ _ _ _=> .none
theorem c1 {S:Type} (κ:Out UU→Option S):py VV tZ xK (fun _=> .none) 5 false [] Tryz.f114 [.sl (U:=UU) ET.C [] .void] [] κ=κ (.ret (cr [] .none) []):=by kernel_rfl
theorem c2 {S:Type} (l:List Cl) (κ:Out UU→Option S):py VV tZ xK (fun _=> .none) 5 false [] Tryz.f114 [.sl (U:=UU) ET.C l .sure] [] κ=Option.bind (ax 1099511627776 0 l.length) fun _=>κ (.ret (cr l .none) []):=by kernel_rfl
theorem aa8 {S:Type} (o:Obj):(xK (S:=S)).Tells (bW (LL o)):=fun _ _ _ _ _ h=>by cases h
theorem FY (o:Obj) {args:List PU} (hl:args.length=1) {out:Out UU} (h:py VV tZ xK (fun _=> .none) 5 false [] Tryz.f114 args [] some=some out):bW (LL o) 114 args [] out:=by
 obtain ⟨out',h1,h2⟩:=Ma xA (xd o) (S:=tZ) rfl rfl (aa8 o) (f:=114) Tryz.func114 (by kernel_rfl) rfl rfl (by decide) (by rw [hl];decide) h
 injection h1 with h1
 exact h1▸h2
theorem Hf {X:Link VV Tryz.prog} {w:World} {vs:Array Value} {N0:aF} {ν:Nat→Nat} {δ:Nat→Option Nat} {p q:PU} (h:Given X w vs N0 ν δ [p] [])
  (hr:RepG X w (NB N0 0 ν δ) (gB UU 0 ν) (vs.getD 0 undef) (δ 0) p→RepG X w (NB N0 0 ν δ) (gB UU 0 ν) (vs.getD 0 undef) (δ 0) q):Given X w vs N0 ν δ [q] []:=
 {h with
  args:=fun j r hj=>by
   cases j with
   |zero=>
    injection hj with hj
    subst hj
    exact hr (h.args 0 p rfl)
   |succ j=>simp at hj}
theorem UR (o:Obj) (l:List Cl) {u:Unit} (hroom:ax 1099511627776 0 l.length=some u):bW (LL o) 114 [cr l .none] [] (.ret (cr l .none) []):=by
 refine ⟨⟨Tryz.f114,Tryz.func114,by kernel_rfl,rfl⟩,fun w vs N0 ν δ hg=> ?_⟩
 have h0:Rep (LL o) w (NB N0 0 ν δ) (gB UU 0 ν) (vs.getD 0 undef) (cr l .none):=hg.args 0 _ rfl
 generalize hv:vs.getD 0 undef=v at h0
 cases h0 with
 |sl A n c _ _ _ val hl hc _ h1 h2=>
 cases A with
 |none=>
  have hl0:l=[]:=by
   cases l with
   |nil=>rfl
   |cons x r=>
    obtain ⟨a,ha,_⟩:=h1 0 x rfl 0 _ rfl
    cases ha
  subst hl0
  exact (FY o (args:=[cr [] .void]) rfl (c1 some)).2 w vs N0 ν δ (Hf hg fun _=>by
   rw [hv];exact Rep.sl (X:=LL o) none n c ET.C (show List Cl from []) .void val hl hc rfl h1 h2)
 |some a=>
  refine (FY o (args:=[cr l .sure]) rfl (out:= .ret (cr l .none) []) ((c2 l some).trans (by rw [hroom];rfl))).2 w vs N0 ν δ (Hf hg fun _=> ?_)
  rw [hv]
  exact Rep.sl (X:=LL o) (some a) n c ET.C l .sure val hl hc (fun h=>by cases h) h1 h2
theorem ad_ {S:Type} (o:Obj) (ho:af o) (vs:List PU) (bs:List (Box UU)) (κ:Out UU→Option S) (x:S) (h:Dq vs bs κ=some x): ∃out,bW (LL o) Xg vs bs out∧κ out=some x:=by
 unfold Dq at h
 split at h
 case h_2=>cases h
 rename_i κ y
 unfold o9 at h
 obtain ⟨u,hr,h⟩:=Option.bind_eq_some_iff.1 h
 exact ⟨_,UR o y hr,h⟩
end Go.Proofs.YtapmagaejigpnaaGreatDoor
namespace Go.Proofs.YtapmagaejigpnaaGreatDoor
open Go PI
set_option linter.unusedVariables false
set_option maxRecDepth 100000
noncomputable section
noncomputable def BI:Cs:=cc cT (cc cI cn)
noncomputable def Hu:Cs:=cc cT (cc cT (cc lB cn))
noncomputable def Hx:Cs:=cc cI (cc cI cn)
noncomputable def HA:Cs:=cc cT (cc cI (cc cI (cc (cp 0) cn)))
noncomputable def eS:Bs:=xI xn
noncomputable def XZ:Cs:=cc cT (cc (cf 168 cn (cc (cp 0) cn)) cn)
noncomputable def X6:Cs:=cc cT (cc (cf 170 cn (cc (cp 0) cn)) cn)
noncomputable def PZ:Bs:=xc (cc (cf 169 cn (cc (cp 1) (cc (cp 0) cn))) cn) (xI xn)
noncomputable def Yd:Cs:=cc cT (cc (cp 0) (cc (cp 1) cn))
noncomputable def xX9:Bs:=xI (xc (cc (cf 169 cn (cc (cp 0) (cc (cp 1) cn))) cn) xn)
noncomputable def fV:Cs:=cc cT cn
noncomputable def eJ:Cs:=cc cI cn
noncomputable def Hv:Cs:=cc cs cn
noncomputable def su:Cs:=cc cU cn
noncomputable def l9:Cs:=cc cC cn
noncomputable def sx:Cs:=cc cC (cc cC cn)
noncomputable def BJ:Cs:=cc cC (cc (cp 0) cn)
noncomputable def tW:Bs:=xC xn
noncomputable def Hw:Cs:=cc lC (cc (cf 149 cn (cc (cp 0) cn)) cn)
noncomputable def aeF:Bs:=xc (cc lC cn) xn
noncomputable def dK:Cs:=cc lC cn
noncomputable def gw:Cs:=cc lC (cc lC cn)
noncomputable def kC:Cs:=cc cU (cc cI cn)
noncomputable def BL:Cs:=cc lC (cc cI cn)
noncomputable def Hy:Cs:=cc lC (cc (cf 132 cn cn) cn)
noncomputable def l_:Cs:=cc cT (cc cI (cc cI cn))
noncomputable def Hz:Cs:=cc cT (cc cI (cc cI (cc cb cn)))
noncomputable def XO:Cs:=cc cT (cc cI (cc cI (cc (cp 0) (cc (cp 1) (cc (cp 2) cn)))))
noncomputable def PT:Bs:=xI (xI (xc (cc cb cn) xn))
noncomputable def XP:Cs:=cc cT (cc (cf 129 cn (cc (cp 0) (cc (cp 1) (cc (cp 2) cn)))) cn)
noncomputable def XQ:Cs:=cc (cp 0) (cc cI cn)
noncomputable def BM:Cs:=cc lT cn
noncomputable def XR:Cs:=cc (cp 0) cn
noncomputable def HB:Cs:=cc lF cn
noncomputable def HC:Cs:=cc cU (cc cI (cc cI cn))
noncomputable def HD:Cs:=cc cC (cc cI (cc cI cn))
noncomputable def XS:Cs:=cc hC (cc cC (cc (cp 0) (cc (cp 1) cn)))
noncomputable def za:Bs:=xI (xI xn)
noncomputable def XT:Cs:=cc lC (cc hC (cc (cf 98 cn (cc (cp 0) (cc (cp 1) cn))) cn))
noncomputable def BN:Cs:=cc lC (cc cI (cc cI cn))
noncomputable def XU:Cs:=cc (cp 0) (cc lC cn)
noncomputable def XV:Cs:=cc (cp 0) (cc lC (cc lC cn))
noncomputable def XW:Cs:=cc (cg (cc cI (cc cI cn))) (cc lC (cc cI cn))
noncomputable def XX:Cs:=cc (cg (cc cI (cc cI cn))) (cc cT (cc cI (cc cI cn)))
noncomputable def HE:Cs:=cc (cp 0) (cc (cp 1) (cc (cp 2) cn))
noncomputable def PW:Bs:=xI (xT (xI xn))
noncomputable def XY:Cs:=cc cT (cc lI (cc (cf 142 cn (cc (cp 0) (cc (cp 1) (cc (cp 2) cn)))) cn))
noncomputable def BO:Cs:=cc cT (cc cI (cc lC cn))
noncomputable def HF:Cs:=cc (cf 105 cn cn) (cc (cp 0) (cc (cp 1) cn))
noncomputable def tX:Bs:=xI (xc (cc lC cn) xn)
noncomputable def X0:Cs:=cc (cf 106 cn cn) (cc (cp 0) (cc (cp 1) cn))
noncomputable def X1:Cs:=cc cI (cc lC cn)
noncomputable def X2:Cs:=cc lC (cc (cf 200 cn cn) cn)
noncomputable def X3:Cs:=cc lC (cc (cf 201 cn (cc (cp 0) cn)) cn)
noncomputable def HG:Cs:=cc lC (cc cC cn)
noncomputable def X4:Cs:=cc lC (cc lC (cc (cf 197 cn cn) cn))
noncomputable def xh:Cs:=cc lC (cc cI (cc lC cn))
noncomputable def BP:Cs:=cc lC (cc cI (cc (cp 0) (cc (cp 1) (cc (cp 2) cn))))
noncomputable def aeG:Bs:=xI (xc (cc lC cn) (xc (cc (cf 106 cn cn) cn) xn))
noncomputable def X5:Cs:=cc lC (cc cC (cc (cp 0) (cc (cp 1) cn)))
noncomputable def X7:Cs:=cc lC (cc lC (cc (cf 154 cn (cc (cp 0) (cc (cp 1) cn))) cn))
noncomputable def PX:Bs:=xI (xc (cc lC cn) (xc (cc (cf 105 cn cn) cn) xn))
noncomputable def BQ:Cs:=cc (cg (cc (cf 102 cn (cc (cp 0) (cc (cp 1) (cc (cp 2) cn)))) (cc (cf 102 cn (cc (cp 0) (cc (cp 1) (cc (cp 3) cn)))) cn))) (cc cT (cc cI cn))
noncomputable def FA:Bs:=xI (xc (cc lC cn) (xc (cc (cf 105 cn cn) cn) (xc (cc (cf 106 cn cn) cn) xn)))
noncomputable def HH:Cs:=cc cI (cc (cp 0) cn)
noncomputable def aeH:Bs:=xT xn
noncomputable def HI:Cs:=cc (cg (cc (cf 102 cn (cc (cp 0) (cc (cp 1) (cc (cp 2) cn)))) (cc (cf 102 cn (cc (cp 0) (cc (cp 1) (cc (cp 3) cn)))) cn))) (cc lT (cc cI (cc (cf 111 cn (cc (cp 4) cn)) cn)))
noncomputable def PY:Bs:=xI (xc (cc lC cn) (xc (cc (cf 105 cn cn) cn) (xc (cc (cf 106 cn cn) cn) (xI xn))))
noncomputable def X8:Cs:=cc (cg (cc (cf 102 cn (cc (cp 0) (cc (cp 1) (cc (cp 2) cn)))) (cc (cf 102 cn (cc (cp 0) (cc (cp 1) (cc (cp 3) cn)))) cn))) (cc lT (cc cI (cc (cf 109 cn (cc (cp 4) cn)) cn)))
noncomputable def aeI:Bs:=xI (xc (cc lC cn) (xc (cc (cf 105 cn cn) cn) (xc (cc (cf 106 cn cn) cn) (xT xn))))
noncomputable def X9:Cs:=cc lC (cc cI (cc (cp 0) cn))
noncomputable def HJ:Cs:=cc (cg (cc (cf 112 cn (cc (cp 0) cn)) (cc (cf 112 cn (cc (cp 0) cn)) cn))) (cc cT (cc cI cn))
noncomputable def HK:Cs:=cc (cg (cc (cf 112 cn (cc (cp 0) cn)) (cc (cf 112 cn (cc (cp 0) cn)) cn))) (cc lT (cc cI (cc (cf 111 cn (cc (cp 1) cn)) cn)))
noncomputable def X_:Cs:=cc (cg (cc (cf 112 cn (cc (cp 0) cn)) (cc (cf 112 cn (cc (cp 0) cn)) cn))) (cc lT (cc cI (cc (cf 109 cn (cc (cp 1) cn)) cn)))
noncomputable def aeJ:Bs:=xI (xT xn)
noncomputable def Ya:Cs:=cc (cp 0) (cc cT (cc lC cn))
noncomputable def P0:Bs:=xI (xI (xT xn))
noncomputable def Yb:Cs:=cc cT (cc lI (cc (cf 140 cn (cc (cp 0) (cc (cp 1) (cc (cp 2) cn)))) cn))
noncomputable def Yc:Cs:=cc (cp 0) (cc cT (cc cI (cc cI cn)))
noncomputable def HL:Cs:=cc cI (cc lT cn)
noncomputable def HM:Cs:=cc (cp 0) (cc cT cn)
noncomputable def HN:Cs:=cc cT (cc lC (cc cT (cc cC (cc lC cn))))
noncomputable def ma:Cs:=cc cT (cc lC (cc cT cn))
noncomputable def Ye:Cs:=cc lB cn
noncomputable def Yf:Cs:=cc lI cn
noncomputable def Yg:Cs:=cc cT (cc cI (cc cI (cc cI (cc cI cn))))
noncomputable def Yh:Cs:=cc cU (cc cU cn)
noncomputable def Yi:Cs:=cc lC (cc cb (cc cI (cc lC (cc cI cn))))
noncomputable def Yj:Cs:=cc cT (cc cI (cc lC (cc cI (cc cb cn))))
noncomputable def Yk:Cs:=cc cT (cc lC cn)
noncomputable def Yl:Cs:=cc cI (cc cT (cc cT cn))
noncomputable def xj:Cs:=cc cT (cc cT cn)
noncomputable def Ym:Cs:=cc lT (cc lT cn)
noncomputable def Yn:Cs:=cc cT (cc cI (cc cT (cc cI cn)))
noncomputable def Yo:Cs:=cc (cp 0) (cc cT (cc cT (cc cT (cc cT cn))))
noncomputable def xk:Cs:=cc cT (cc cT (cc cT (cc cT cn)))
noncomputable def Yp:Cs:=cc cI (cc cT (cc cT (cc cT cn)))
noncomputable def Yq:Cs:=cc cI (cc cT cn)
noncomputable def aJ {S:Type} (κ:Out UU→Option S):Int→Option S:=fun r=>κ (.ret (iI r) [])
noncomputable def ar {S:Type} (κ:Out UU→Option S):Bool→Option S:=fun r=>κ (.ret (.bool r) [])
noncomputable def jF {S:Type} (κ:Out UU→Option S):Int×Int→Option S:=fun r=>κ (.ret (.tuple [(iI r.1),(iI r.2)]) [])
noncomputable def e9 {S:Type} (c0:Int) (κ:Out UU→Option S):Bool→Option S:=fun r=>κ (.ret (.bool r) [bI c0])
noncomputable def fG {S:Type} (κ:Out UU→Option S):Bool×Int→Option S:=fun r=>κ (.ret (.bool r.1) [.cells [(.func 169 [] [(pt 1),(pt 0)])],bI r.2])
noncomputable def qX5 {S:Type} (κ:Out UU→Option S):Bool×Int→Option S:=fun r=>κ (.ret (.bool r.1) [bI r.2,.cells [(.func 169 [] [(pt 0),(pt 1)])]])
noncomputable def JO {S:Type} (κ:Out UU→Option S):Cl→Option S:=fun r=>κ (.ret (aC r) [])
noncomputable def JP {S:Type} (c0:Cl) (κ:Out UU→Option S):Bool→Option S:=fun r=>κ (.ret (.bool r) [bC c0])
noncomputable def ye {S:Type} (c0:Cl) (κ:Out UU→Option S):Int→Option S:=fun r=>κ (.ret (iI r) [bC c0])
noncomputable def qX9 {S:Type} (c0:List Cl) (κ:Out UU→Option S):Bool→Option S:=fun r=>κ (.ret (.bool r) [.cells [(sC c0)]])
noncomputable def aq {S:Type} (κ:Out UU→Option S):List Cl×Int→Option S:=fun r=>κ (.ret (.tuple [(sC r.1),(iI r.2)]) [])
noncomputable def bQ {S:Type} (κ:Out UU→Option S):Int→Option S:=fun r=>κ (.ret (iU r) [])
noncomputable def fF {S:Type} (c0 c1:Int) (c2:Bool) (κ:Out UU→Option S):Bool→Option S:=fun r=>κ (.ret (.bool r) [bI c0,bI c1,.cells [(.bool c2)]])
noncomputable def abr {S:Type} (κ:Out UU→Option S):Int→Option S:=fun r=>κ (.ret (.tuple []) [bI r])
noncomputable def xR {S:Type} (κ:Out UU→Option S):Int→Option S:=fun r=>κ (.ret (pt 0) [bI r])
noncomputable def abt {S:Type} (κ:Out UU→Option S):List Cl→Option S:=fun r=>κ (.ret (Bq r) [])
noncomputable def tg {S:Type} (κ:Out UU→Option S):Int×Int→Option S:=fun r=>κ (.ret (.tuple [(iU r.1),(iI r.2)]) [])
noncomputable def JJ {S:Type} (κ:Out UU→Option S):Cl×Int→Option S:=fun r=>κ (.ret (.tuple [(aC r.1),(iI r.2)]) [])
noncomputable def abu {S:Type} (c0 c1:Int) (κ:Out UU→Option S):List Cl×Int→Option S:=fun r=>κ (.ret (.tuple [(Bq r.1),(iI r.2)]) [bI c0,bI c1])
noncomputable def xS {S:Type} (c0 c1:Int) (κ:Out UU→Option S):List Cl×Int→Option S:=fun r=>κ (.ret (.tuple [(sC r.1),(iI r.2)]) [bI c0,bI c1])
noncomputable def JK {S:Type} (κ:Out UU→Option S):List Cl×Int→Option S:=fun r=>κ (.ret (sC r.1) [bI r.2])
noncomputable def abv {S:Type} (κ:Out UU→Option S):Pan Int (List Cl)→Option S:=fun r=>Pan.elim r (fun r=>κ (.ret (sC r) [])) (fun e=>κ (.panic (.iface 29 (iI e)) []))
noncomputable def er {S:Type} (κ:Out UU→Option S):Pan Int Tm→Option S:=fun r=>Pan.elim r (fun r=>κ (.ret (aT r) [])) (fun e=>κ (.panic (.iface 29 (iI e)) []))
noncomputable def abw {S:Type} (c0:Int) (c1:Tm) (c2:Int) (κ:Out UU→Option S):Pan Int Tm→Option S:=fun r=>Pan.elim r (fun r=>κ (.ret (aT r) [bI c0,bT c1,bI c2])) (fun e=>κ (.panic (.iface 29 (iI e)) [bI c0,bT c1,bI c2]))
noncomputable def xU {S:Type} (c0:Int) (c1:Tm) (c2:Int) (κ:Out UU→Option S):Tm×Int→Option S:=fun r=>κ (.ret (.tuple [(aT r.1),(iI r.2)]) [bI c0,bT c1,bI c2])
noncomputable def cm {S:Type} (κ:Out UU→Option S):Tm×Int→Option S:=fun r=>κ (.ret (.tuple [(aT r.1),(iI r.2)]) [])
noncomputable def abx {S:Type} (c0:Int) (c1:List Cl) (κ:Out UU→Option S):Unit→Option S:=fun r=>κ (.ret (.func 102 [] [(pt 0),(pt 1),(pt 2)]) [bI c0,.cells [(sC c1)],.cells [(.func 105 [] [])]])
noncomputable def aby {S:Type} (c0:Int) (c1:List Cl) (κ:Out UU→Option S):Unit→Option S:=fun r=>κ (.ret (.func 102 [] [(pt 0),(pt 1),(pt 2)]) [bI c0,.cells [(sC c1)],.cells [(.func 106 [] [])]])
noncomputable def abz {S:Type} (κ:Out UU→Option S):Int×List Cl→Option S:=fun r=>κ (.ret (.agg [(.func 102 [] [(pt 0),(pt 1),(pt 2)]),(.func 102 [] [(pt 0),(pt 1),(pt 3)])]) [bI r.1,.cells [(sC r.2)],.cells [(.func 105 [] [])],.cells [(.func 106 [] [])]])
noncomputable def e7 {S:Type} (κ:Out UU→Option S):List Cl→Option S:=fun r=>κ (.ret (sC r) [])
noncomputable def abA {S:Type} (κ:Out UU→Option S):Cl×Bool→Option S:=fun r=>κ (.ret (.tuple [(aC r.1),(.bool r.2)]) [])
noncomputable def abB {S:Type} (c0:Cl) (κ:Out UU→Option S):Cl×Bool→Option S:=fun r=>κ (.ret (.tuple [(aC r.1),(.bool r.2)]) [bC c0])
noncomputable def xV {S:Type} (c0:Cl) (κ:Out UU→Option S):List Cl→Option S:=fun r=>κ (.ret (sC r) [bC c0])
noncomputable def abC {S:Type} (c0:Int) (c1:List Cl) (κ:Out UU→Option S):List Cl×Int→Option S:=fun r=>κ (.ret (.tuple [(sC r.1),(iI r.2)]) [bI c0,.cells [(sC c1)],.cells [(.func 106 [] [])]])
noncomputable def th {S:Type} (c0:Int) (c1:List Cl) (κ:Out UU→Option S):List Cl×Int→Option S:=fun r=>κ (.ret (.tuple [(sC r.1),(iI r.2)]) [bI c0,.cells [(sC c1)]])
noncomputable def abD {S:Type} (c0:Int) (c1:List Cl) (κ:Out UU→Option S):List Cl×Int→Option S:=fun r=>κ (.ret (.tuple [(sC r.1),(iI r.2)]) [bI c0,.cells [(sC c1)],.cells [(.func 105 [] [])]])
noncomputable def abE {S:Type} (c0:Int) (c1:List Cl) (κ:Out UU→Option S):List Cl×Int→Option S:=fun r=>κ (.ret (.tuple [(sC r.1),(iI r.2)]) [bI c0,.cells [(sC c1)],.cells [(.func 105 [] [])],.cells [(.func 106 [] [])]])
noncomputable def abF {S:Type} (c0:Tm) (κ:Out UU→Option S):Int→Option S:=fun r=>κ (.ret (iI r) [bT c0])
noncomputable def abG {S:Type} (c0:Int) (κ:Out UU→Option S):Int→Option S:=fun r=>κ (.ret (iI r) [bI c0])
noncomputable def xW {S:Type} (c0:Int) (c1:List Cl) (κ:Out UU→Option S):Tm×Int→Option S:=fun r=>κ (.ret (.tuple [(aT r.1),(iI r.2)]) [bI c0,.cells [(sC c1)],.cells [(.func 105 [] [])],.cells [(.func 106 [] [])]])
noncomputable def xX {S:Type} (c0:Int) (c1:List Cl) (c4:Int) (κ:Out UU→Option S):List Tm×Int→Option S:=fun r=>κ (.ret (.tuple [(sT r.1),(iI r.2)]) [bI c0,.cells [(sC c1)],.cells [(.func 105 [] [])],.cells [(.func 106 [] [])],bI c4])
noncomputable def xY {S:Type} (c0:Int) (c1:List Cl) (c4:Tm) (κ:Out UU→Option S):List Tm×Int→Option S:=fun r=>κ (.ret (.tuple [(sT r.1),(iI r.2)]) [bI c0,.cells [(sC c1)],.cells [(.func 105 [] [])],.cells [(.func 106 [] [])],bT c4])
noncomputable def abH {S:Type} (κ:Out UU→Option S):Int→Option S:=fun r=>κ (.ret (.agg [(.func 112 [] [(pt 0)]),(.func 112 [] [(pt 0)])]) [bI r])
noncomputable def ti {S:Type} (c0:Int) (κ:Out UU→Option S):List Cl×Int→Option S:=fun r=>κ (.ret (.tuple [(sC r.1),(iI r.2)]) [bI c0])
noncomputable def xZ {S:Type} (c0:Int) (κ:Out UU→Option S):Tm×Int→Option S:=fun r=>κ (.ret (.tuple [(aT r.1),(iI r.2)]) [bI c0])
noncomputable def x_ {S:Type} (c0 c1:Int) (κ:Out UU→Option S):List Tm×Int→Option S:=fun r=>κ (.ret (.tuple [(sT r.1),(iI r.2)]) [bI c0,bI c1])
noncomputable def ya {S:Type} (c0:Int) (c1:Tm) (κ:Out UU→Option S):List Tm×Int→Option S:=fun r=>κ (.ret (.tuple [(sT r.1),(iI r.2)]) [bI c0,bT c1])
noncomputable def JL {S:Type} (κ:Out UU→Option S):Tm×Int→Option S:=fun r=>κ (.ret (aT r.1) [bI r.2])
noncomputable def abI {S:Type} (c0 c1:Int) (c2:Tm) (κ:Out UU→Option S):Pan Int Tm→Option S:=fun r=>Pan.elim r (fun r=>κ (.ret (aT r) [bI c0,bI c1,bT c2])) (fun e=>κ (.panic (.iface 29 (iI e)) [bI c0,bI c1,bT c2]))
noncomputable def yb {S:Type} (c0 c1:Int) (c2:Tm) (κ:Out UU→Option S):Tm×Int→Option S:=fun r=>κ (.ret (.tuple [(aT r.1),(iI r.2)]) [bI c0,bI c1,bT c2])
noncomputable def JM {S:Type} (κ:Out UU→Option S):Int×Int×ByteArray×List Tm→Option S:=fun r=>κ (.ret (.agg [(iI r.1),(iI r.2.1),(.str r.2.2.1),(cr [] .nil),(sT r.2.2.2),(gS [] .nil)]) [])
noncomputable def abK {S:Type} (κ:Out UU→Option S):Tm×Int×Int→Option S:=fun r=>κ (.ret (.tuple [(aT r.1),(iI r.2.1)]) [bI r.2.2])
noncomputable def abL {S:Type} (κ:Out UU→Option S):Int×Int×ByteArray×List Tm×List (Br Tm)→Option S:=fun r=>κ (.ret (.agg [(iI r.1),(iI r.2.1),(.str r.2.2.1),(cr [] .nil),(sT r.2.2.2.1),(sB r.2.2.2.2)]) [])
noncomputable def CB {S:Type} (κ:Out UU→Option S):Int×Int×ByteArray→Option S:=fun r=>κ (.ret (.agg [(iI r.1),(iI r.2.1),(.str r.2.2),(cr [] .nil),(f7 [] .nil),(gS [] .nil)]) [])
noncomputable def abM {S:Type} (κ:Out UU→Option S):Int×Int×ByteArray×List Cl×List Tm→Option S:=fun r=>κ (.ret (.agg [(iI r.1),(iI r.2.1),(.str r.2.2.1),(sC r.2.2.2.1),(sT r.2.2.2.2),(gS [] .nil)]) [])
noncomputable def yc {S:Type} (κ:Out UU→Option S):List Int→Option S:=fun r=>κ (.ret (Xr r) [])
noncomputable def bg {S:Type} (κ:Out UU→Option S):Tm→Option S:=fun r=>κ (.ret (aT r) [])
noncomputable def yd {S:Type} (κ:Out UU→Option S):List Tm→Option S:=fun r=>κ (.ret (sT r) [])
noncomputable def JN {S:Type} (κ:Out UU→Option S):Int×Int×ByteArray×List Tm×Int→Option S:=fun r=>κ (.ret (.agg [(iI r.1),(iI r.2.1),(.str r.2.2.1),(cr [] .nil),(sT r.2.2.2.1),(gS [] .nil)]) [bI r.2.2.2.2])
end
end Go.Proofs.YtapmagaejigpnaaGreatDoor
namespace Go.Proofs.YtapmagaejigpnaaGreatDoor
open Go PI
set_option linter.unusedVariables false
set_option maxRecDepth 100000
noncomputable section
def CC {S:Type} (hd:gb S):Rw S:=ag BI xn fun t most κ=>hd t most (aJ κ)
def ln {S:Type} (hd:gb S) (k:Nat):Fx S:=fp 119 [(40,CC hd)] [(5,aS [1,2,5,6] [(2,6)],ap 6 23),(9,aS [1,2,5,7] [(2,6)],ap 7 47),(15,aS [1,2,5,7,8] [(2,6)],ap 15 14639)] k Tryz.f40 0
def B8 (t:Tm) (most:Int) (v5 i6:Int):St UU:=⟨[(1,(iI most)),(2,(pt 2)),(5,(iI v5)),(6,(iI i6))],[(2,bT t)],[],[]⟩
def sG (t:Tm) (most:Int) (v5' i7:Int):St UU:=⟨[(1,(iI most)),(2,(pt 2)),(5,(iI v5')),(7,(iI i7))],[(2,bT t)],[],[]⟩
def H3 (t:Tm) (most i7:Int) (v5'' v8:Int):St UU:=⟨[(1,(iI most)),(2,(pt 2)),(5,(iI v5'')),(7,(iI i7)),(8,(iI v8))],[(2,bT t)],[],[]⟩
section
variable {S:Type} (hd:gb S) (k:Nat) (t:Tm) (most:Int) (κ:Out UU→Option S)
theorem Sq (i7 κ1): ∀n v5'' v8,(ln hd k).lp κ 15 [κ1] n (H3 t most i7 v5'' v8)=eX hd k (aJ κ) (fun v5' i7=>κ1 (sG t most v5' i7)) t most i7 n v5'' v8:=aP (m7 hd k (aJ κ) t most i7 (fun v5' i7=>κ1 (sG t most v5' i7))) rfl (fun _=>rfl) fun r v5'' v8=>by kernel_rfl
theorem Sp: ∀n v5' i7,(ln hd k).lp κ 9 [] n (sG t most v5' i7)=eK hd k (aJ κ) t most n v5' i7:=aP (fun own=>lG hd k (aJ κ) t most (fun i7 v5'' v8=>eX hd k (aJ κ) own t most i7 k v5'' v8) own) rfl (fun _=>rfl) fun r v5' i7=>Eq.trans (b:=lG hd k (aJ κ) t most (fun i7 v5'' v8=>(ln hd k).lp κ 15 [r] k (H3 t most i7 v5'' v8)) (fun v5' i7=>r (sG t most v5' i7)) v5' i7) (by kernel_rfl) (by simp only [Sq])
theorem So: ∀n v5 i6,(ln hd k).lp κ 5 [] n (B8 t most v5 i6)=gy hd k (aJ κ) t most n v5 i6:=aP (fun own=>lE hd k (aJ κ) t most (fun v5' i7=>eK hd k (aJ κ) t most k v5' i7) own) rfl (fun _=>rfl) fun r v5 i6=>Eq.trans (b:=lE hd k (aJ κ) t most (fun v5' i7=>(ln hd k).lp κ 9 [] k (sG t most v5' i7)) (fun v5 i6=>r (B8 t most v5 i6)) v5 i6) (by kernel_rfl) (by simp only [Sp])
end
theorem Hg {S:Type} (o:Obj) (ho:af o): ∀k:Nat,Tl o 40 (CC (cF k:gb S))
 |0=>e_ fun t most κ x h=>by cases h
 |k+1=>ai (ln (cF k) k) ⟨Hg o ho k,trivial⟩ Tryz.func40 (by kernel_rfl) fun t most κ x h=>Eq.trans (b:=yU (cF k) k (aJ κ) (fun v5 i6=>(ln (cF k) k).lp κ 5 [] k (B8 t most v5 i6)) t most) (by kernel_rfl) (Eq.trans (by simp only [So];rfl) h)
def CD {S:Type} (k:Nat):Rw S:=ag Hu xn fun a b sys κ=>aa k (j7 k a b sys) (ar κ)
def P3 {S:Type} (k:Nat):Fx S:=fp 21 [(40,CC (cF k))] [] k Tryz.f9 0
theorem Gf {S:Type} (o:Obj) (ho:af o) (k:Nat):Tl o 9 (CD k:Rw S):=ai (P3 k) ⟨Hg o ho k,trivial⟩ Tryz.func9 (by kernel_rfl) fun a b sys κ x h=>Eq.trans (by kernel_rfl) (aj h)
def pk {S:Type} (k:Nat):Rw S:=ag Hx xn fun kind kid κ=>aa k (kf k kind kid) (jF κ)
def Q9 {S:Type} (k:Nat):Fx S:=fp 26 [] [] k Tryz.f110 0
theorem r_ {S:Type} (o:Obj) (ho:af o) (k:Nat):Tl o 110 (pk k:Rw S):=ai (Q9 k) trivial Tryz.func110 (by kernel_rfl) fun kind kid κ x h=>Eq.trans (by kernel_rfl) (aj h)
def tt {S:Type} (hd:dm S):Rw S:=ag BI xn fun t left κ=>hd t left (ar κ)
def Lb {S:Type} (hd:dm S) (k:Nat):Rw S:=ag HA eS fun a_k p p' c0 κ=>aa k (rM hd k a_k p p' c0) (e9 c0 κ)
def RA {S:Type} (hd:dm S) (k:Nat):Fx S:=fp 12 [(125,tt hd)] [] k Tryz.f168 1
theorem Wl {S:Type} (o:Obj) (ho:af o) (hd:dm S) (Hd:Tl o 125 (tt hd)) (k:Nat):Tl o 168 (Lb hd k:Rw S):=ai (RA hd k) ⟨Hd,trivial⟩ Tryz.func168 (by kernel_rfl) fun a_k p p' c0 κ x h=>Eq.trans (by kernel_rfl) (aj h)
def Lg {S:Type} (hd:dm S) (k:Nat):Rw S:=ag XZ eS fun t c0 κ=>aa k (A0 hd k t c0) (e9 c0 κ)
def lx {S:Type} (hd:dm S) (k:Nat):Fx S:=fp 60 [(110,pk k),(168,Lb hd k)] [(2,aS [1,2,15,16,17] [(2,6),(1000000,1)],ap 4 5),(12,aS [1,9,40,41,42] [(1000000,1)],ap 7 47),(15,aS [1,9,40,41,42,47,48,49] [(1000000,1)],ap 15 13103)] k Tryz.f128 1
def Ci (c0:Int) (t:Tm) (v17:Int):St UU:=⟨[(1,(.func 168 [] [(pt 1000000)])),(2,(pt 2)),(15,(sT t.kids)),(16,(.int .i64 (t.kids.length:Int))),(17,(iI v17))],[(2,bT t),(1000000,bI c0)],[],[]⟩
def sW (c0:Int) (t:Tm) (v42 more9:Int):St UU:=⟨[(1,(.func 168 [] [(pt 1000000)])),(9,(iI more9)),(40,(sB t.sys)),(41,(.int .i64 (t.sys.length:Int))),(42,(iI v42))],[(1000000,bI c0)],[],[]⟩
def I8 (c0:Int) (t:Tm) (v42:Int) (x4:(Br Tm)) (more9:Int) (v49:Int):St UU:=⟨[(1,(.func 168 [] [(pt 1000000)])),(9,(iI more9)),(40,(sB t.sys)),(41,(.int .i64 (t.sys.length:Int))),(42,(iI v42)),(47,(sT x4.kids)),(48,(.int .i64 (x4.kids.length:Int))),(49,(iI v49))],[(1000000,bI c0)],[],[]⟩
section
variable {S:Type} (hd:dm S) (k:Nat) (t:Tm) (c0:Int) (κ:Out UU→Option S)
theorem TX (v42 x4 more9 κ1): ∀n v49,(lx hd k).lp κ 15 [κ1] n (I8 c0 t v42 x4 more9 v49)=kV hd k (e9 c0 κ) (fun v42 more9=>κ1 (sW c0 t v42 more9)) c0 t v42 x4 more9 n v49:=ci (vl hd k (e9 c0 κ) c0 t v42 x4 more9 (fun v42 more9=>κ1 (sW c0 t v42 more9))) rfl (fun _=>rfl) fun r v49=>by kernel_rfl
theorem TW: ∀n v42 more9,(lx hd k).lp κ 12 [] n (sW c0 t v42 more9)=gH hd k (e9 c0 κ) c0 t n v42 more9:=aP (fun own=>qP hd k (e9 c0 κ) c0 t (fun v42 x4 more9 v49=>kV hd k (e9 c0 κ) own c0 t v42 x4 more9 k v49) own) rfl (fun _=>rfl) fun r v42 more9=>Eq.trans (b:=qP hd k (e9 c0 κ) c0 t (fun v42 x4 more9 v49=>(lx hd k).lp κ 15 [r] k (I8 c0 t v42 x4 more9 v49)) (fun v42 more9=>r (sW c0 t v42 more9)) v42 more9) (by kernel_rfl) (by simp only [TX])
theorem TV: ∀n v17,(lx hd k).lp κ 2 [] n (Ci c0 t v17)=oM hd k (e9 c0 κ) c0 t n v17:=ci (fun own=>qO hd k (e9 c0 κ) c0 t (fun v42 more9=>gH hd k (e9 c0 κ) c0 t k v42 more9) own) rfl (fun _=>rfl) fun r v17=>Eq.trans (b:=qO hd k (e9 c0 κ) c0 t (fun v42 more9=>(lx hd k).lp κ 12 [] k (sW c0 t v42 more9)) (fun v17=>r (Ci c0 t v17)) v17) (by kernel_rfl) (by simp only [TW])
end
theorem Wq {S:Type} (o:Obj) (ho:af o) (hd:dm S) (Hd:Tl o 125 (tt hd)) (k:Nat):Tl o 128 (Lg hd k:Rw S):=ai (lx hd k) ⟨r_ o ho k,Wl o ho hd Hd k,trivial⟩ Tryz.func128 (by kernel_rfl) fun t c0 κ x h=>Eq.trans (b:=Fi hd k (e9 c0 κ) (fun v17=>(lx hd k).lp κ 2 [] k (Ci c0 t v17)) t c0) (by kernel_rfl) (Eq.trans (by simp only [TV];rfl) (aj h))
def Rs {S:Type} (hd:dm S) (k:Nat):Fx S:=fp 12 [(128,Lg hd k)] [] k Tryz.f125 0
theorem Hl {S:Type} (o:Obj) (ho:af o): ∀k:Nat,Tl o 125 (tt (h_ k:dm S))
 |0=>e_ fun t left κ x h=>by cases h
 |k+1=>ai (Rs (h_ k) k) ⟨Wq o ho (h_ k) (Hl o ho k) k,trivial⟩ Tryz.func125 (by kernel_rfl) fun t left κ x h=>Eq.trans (by kernel_rfl) h
def yu {S:Type} (hd:dl S):Rw S:=ag X6 PZ fun t c1 κ=>hd t c1 (fG κ)
def Da {S:Type} (hd:dl S) (k:Nat):Rw S:=ag Yd xX9 fun t c0 κ=>aa k (nF hd k t c0) (qX5 κ)
def R3 {S:Type} (hd:dl S) (k:Nat):Fx S:=fp 14 [(128,yu hd)] [] k Tryz.f169 2
theorem GK {S:Type} (o:Obj) (ho:af o) (hd:dl S) (Hd:Tl o 128 (yu hd)) (k:Nat):Tl o 169 (Da hd k:Rw S):=ai (R3 hd k) ⟨Hd,trivial⟩ Tryz.func169 (by kernel_rfl) fun t c0 κ x h=>Eq.trans (by kernel_rfl) (aj h)
def LC {S:Type} (hd:dl S) (k:Nat):Rw S:=ag HA PZ fun a_k p p' c1 κ=>aa k (rO hd k a_k p p' c1) (fG κ)
def R9 {S:Type} (hd:dl S) (k:Nat):Fx S:=fp 11 [(169,Da hd k)] [] k Tryz.f170 2
theorem WM {S:Type} (o:Obj) (ho:af o) (hd:dl S) (Hd:Tl o 128 (yu hd)) (k:Nat):Tl o 170 (LC hd k:Rw S):=ai (R9 hd k) ⟨GK o ho hd Hd k,trivial⟩ Tryz.func170 (by kernel_rfl) fun a_k p p' c1 κ x h=>Eq.trans (by kernel_rfl) (aj h)
def ly {S:Type} (hd:dl S) (k:Nat):Fx S:=fp 60 [(110,pk k),(170,LC hd k)] [(2,aS [1,2,15,16,17] [(2,6),(1000000,1),(1000001,1)],ap 4 5),(12,aS [1,9,40,41,42] [(1000000,1),(1000001,1)],ap 7 47),(15,aS [1,9,40,41,42,47,48,49] [(1000000,1),(1000001,1)],ap 15 13103)] k Tryz.f128 2
def Cj (t:Tm) (e1_0 v17:Int):St UU:=⟨[(1,(.func 170 [] [(pt 1000000)])),(2,(pt 2)),(15,(sT t.kids)),(16,(.int .i64 (t.kids.length:Int))),(17,(iI v17))],[(2,bT t),(1000000,.cells [(.func 169 [] [(pt 1000001),(pt 1000000)])]),(1000001,bI e1_0)],[],[]⟩
def sX (t:Tm) (e1_0' v42 more9:Int):St UU:=⟨[(1,(.func 170 [] [(pt 1000000)])),(9,(iI more9)),(40,(sB t.sys)),(41,(.int .i64 (t.sys.length:Int))),(42,(iI v42))],[(1000000,.cells [(.func 169 [] [(pt 1000001),(pt 1000000)])]),(1000001,bI e1_0')],[],[]⟩
def I9 (t:Tm) (v42:Int) (x4:(Br Tm)) (more9:Int) (e1_0'' v49:Int):St UU:=⟨[(1,(.func 170 [] [(pt 1000000)])),(9,(iI more9)),(40,(sB t.sys)),(41,(.int .i64 (t.sys.length:Int))),(42,(iI v42)),(47,(sT x4.kids)),(48,(.int .i64 (x4.kids.length:Int))),(49,(iI v49))],[(1000000,.cells [(.func 169 [] [(pt 1000001),(pt 1000000)])]),(1000001,bI e1_0'')],[],[]⟩
section
variable {S:Type} (hd:dl S) (k:Nat) (t:Tm) (c1:Int) (κ:Out UU→Option S)
theorem T0 (v42 x4 more9 κ1): ∀n e1_0'' v49,(ly hd k).lp κ 15 [κ1] n (I9 t v42 x4 more9 e1_0'' v49)=gF hd k (fG κ) (fun e1_0' v42 more9=>κ1 (sX t e1_0' v42 more9)) t v42 x4 more9 n e1_0'' v49:=aP (vj hd k (fG κ) t v42 x4 more9 (fun e1_0' v42 more9=>κ1 (sX t e1_0' v42 more9))) rfl (fun _=>rfl) fun r e1_0'' v49=>by kernel_rfl
theorem TZ: ∀n e1_0' v42 more9,(ly hd k).lp κ 12 [] n (sX t e1_0' v42 more9)=fz hd k (fG κ) t n e1_0' v42 more9:=jA (fun own=>qL hd k (fG κ) t (fun v42 x4 more9 e1_0'' v49=>gF hd k (fG κ) own t v42 x4 more9 k e1_0'' v49) own) rfl (fun _=>rfl) fun r e1_0' v42 more9=>Eq.trans (b:=qL hd k (fG κ) t (fun v42 x4 more9 e1_0'' v49=>(ly hd k).lp κ 15 [r] k (I9 t v42 x4 more9 e1_0'' v49)) (fun e1_0' v42 more9=>r (sX t e1_0' v42 more9)) e1_0' v42 more9) (by kernel_rfl) (by simp only [T0])
theorem TY: ∀n e1_0 v17,(ly hd k).lp κ 2 [] n (Cj t e1_0 v17)=mt hd k (fG κ) t n e1_0 v17:=aP (fun own=>qK hd k (fG κ) t (fun e1_0' v42 more9=>fz hd k (fG κ) t k e1_0' v42 more9) own) rfl (fun _=>rfl) fun r e1_0 v17=>Eq.trans (b:=qK hd k (fG κ) t (fun e1_0' v42 more9=>(ly hd k).lp κ 12 [] k (sX t e1_0' v42 more9)) (fun e1_0 v17=>r (Cj t e1_0 v17)) e1_0 v17) (by kernel_rfl) (by simp only [TZ])
end
theorem Hm {S:Type} (o:Obj) (ho:af o): ∀k:Nat,Tl o 128 (yu (eT k:dl S))
 |0=>e_ fun t c1 κ x h=>by cases h
 |k+1=>ai (ly (eT k) k) ⟨r_ o ho k,WM o ho (eT k) (Hm o ho k) k,trivial⟩ Tryz.func128 (by kernel_rfl) fun t c1 κ x h=>Eq.trans (b:=Fg (eT k) k (fG κ) (fun e1_0 v17=>(ly (eT k) k).lp κ 2 [] k (Cj t e1_0 v17)) t c1) (by kernel_rfl) (Eq.trans (by simp only [TY];rfl) h)
def LN {S:Type} (k:Nat):Rw S:=ag BI xn fun t most κ=>aa k (wF k t most) (ar κ)
def Sg {S:Type} (k:Nat):Fx S:=fp 10 [(169,Da (eT k) k)] [] k Tryz.f126 0
theorem WV {S:Type} (o:Obj) (ho:af o) (k:Nat):Tl o 126 (LN k:Rw S):=ai (Sg k) ⟨GK o ho (eT k) (Hm o ho k) k,trivial⟩ Tryz.func126 (by kernel_rfl) fun t most κ x h=>Eq.trans (by kernel_rfl) (aj h)
def CE {S:Type} (k:Nat):Rw S:=ag fV xn fun t κ=>aa k (rN k t) (aJ κ)
def P4 {S:Type} (k:Nat):Fx S:=fp 11 [(125,tt (h_ k)),(126,LN k)] [] k Tryz.f80 0
theorem Gg {S:Type} (o:Obj) (ho:af o) (k:Nat):Tl o 80 (CE k:Rw S):=ai (P4 k) ⟨Hl o ho k,WV o ho k,trivial⟩ Tryz.func80 (by kernel_rfl) fun t κ x h=>Eq.trans (by kernel_rfl) (aj h)
def JX {S:Type} (k:Nat):Rw S:=ag eJ xn fun kind κ=>aa k (wC k kind) (aJ κ)
def P_ {S:Type} (k:Nat):Fx S:=fp 38 [] [] k Tryz.f171 0
theorem Vd {S:Type} (o:Obj) (ho:af o) (k:Nat):Tl o 171 (JX k:Rw S):=ai (P_ k) trivial Tryz.func171 (by kernel_rfl) fun kind κ x h=>Eq.trans (by kernel_rfl) (aj h)
def J8 {S:Type} (k:Nat):Rw S:=ag eJ xn fun kind κ=>aa k (kh k kind) (aJ κ)
def Qi {S:Type} (k:Nat):Fx S:=fp 10 [] [] k Tryz.f172 0
theorem Vh {S:Type} (o:Obj) (ho:af o) (k:Nat):Tl o 172 (J8 k:Rw S):=ai (Qi k) trivial Tryz.func172 (by kernel_rfl) fun kind κ x h=>Eq.trans (by kernel_rfl) (aj h)
def Kd {S:Type} (k:Nat):Rw S:=ag Hv xn fun s κ=>aa k (wE k s) (ar κ)
def pL {S:Type} (k:Nat):Fx S:=fp 49 [] [(2,aS [0,7,8] [],ap 4 5),(1000006,aS [0,3,4,5,7,8] [],ap 12 3685)] k Tryz.f173 0
def sM (s:ByteArray) (v8:Int):St UU:=⟨[(0,(.str s)),(7,(.int .i64 (s.size:Int))),(8,(iI v8))],[],[],[]⟩
def Ii (s:ByteArray) (v8:Int) (x1:UInt8) (letter5:Bool):St UU:=⟨[(0,(.str s)),(3,(iI v8)),(4,(.int .u8 (x1.toNat:Int))),(5,(.bool letter5)),(7,(.int .i64 (s.size:Int))),(8,(iI v8))],[],[],[]⟩
section
variable {S:Type} (k:Nat) (s:ByteArray) (κ:Out UU→Option S)
theorem SQ (v8 x1 κ0): ∀n letter5,(pL k).jn κ 1000006 [κ0] n (Ii s v8 x1 letter5)=xv k (ar κ) (fun v8=>κ0 (sM s v8)) s v8 x1 n letter5:=sq (Ah k (ar κ) s v8 x1 (fun v8=>κ0 (sM s v8))) rfl (fun _=>rfl) (fun letter5=>by kernel_rfl)
theorem SP: ∀n v8,(pL k).lp κ 2 [] n (sM s v8)=mw k (ar κ) s n v8:=ci (fun own=>qQ k (ar κ) s (fun v8 x1 letter5=>xv k (ar κ) own s v8 x1 k letter5) own) rfl (fun _=>rfl) fun r v8=>Eq.trans (b:=qQ k (ar κ) s (fun v8 x1 letter5=>(pL k).jn κ 1000006 [r] k (Ii s v8 x1 letter5)) (fun v8=>r (sM s v8)) v8) (by kernel_rfl) (by simp only [SQ])
end
theorem Vn {S:Type} (o:Obj) (ho:af o) (k:Nat):Tl o 173 (Kd k:Rw S):=ai (pL k) trivial Tryz.func173 (by kernel_rfl) fun s κ x h=>Eq.trans (b:=Fj k (ar κ) (fun v8=>(pL k).lp κ 2 [] k (sM s v8)) s) (by kernel_rfl) (Eq.trans (by simp only [SP];rfl) (aj h))
def Ki {S:Type} (k:Nat):Rw S:=ag su xn fun s κ=>aa k (nr k s) (ar κ)
def Qv {S:Type} (k:Nat):Fx S:=fp 6 [] [] k Tryz.f192 0
theorem Vs {S:Type} (o:Obj) (ho:af o) (k:Nat):Tl o 192 (Ki k:Rw S):=ai (Qv k) trivial Tryz.func192 (by kernel_rfl) fun s κ x h=>Eq.trans (by kernel_rfl) (aj h)
def CS {S:Type} (k:Nat):Rw S:=ag l9 xn fun c κ=>aa k (qY k c) (ar κ)
def Qz {S:Type} (k:Nat):Fx S:=fp 11 [(192,Ki k)] [] k Tryz.f146 0
theorem Gs {S:Type} (o:Obj) (ho:af o) (k:Nat):Tl o 146 (CS k:Rw S):=ai (Qz k) ⟨Vs o ho k,trivial⟩ Tryz.func146 (by kernel_rfl) fun c κ x h=>Eq.trans (by kernel_rfl) (aj h)
def yl {S:Type} (k:Nat):Rw S:=ag sx xn fun a b κ=>aa k (nh k a b) (JO κ)
def QJ {S:Type} (k:Nat):Fx S:=fp 16 [] [] k Tryz.f193 0
theorem Ba {S:Type} (o:Obj) (ho:af o) (k:Nat):Tl o 193 (yl k:Rw S):=ai (QJ k) trivial Tryz.func193 (by kernel_rfl) fun a b κ x h=>Eq.trans (by kernel_rfl) (aj h)
def Kx {S:Type} (k:Nat):Rw S:=ag sx xn fun a b κ=>aa k (vB k a b) (ar κ)
def QO {S:Type} (k:Nat):Fx S:=fp 10 [(193,yl k)] [] k Tryz.f150 0
theorem VH {S:Type} (o:Obj) (ho:af o) (k:Nat):Tl o 150 (Kx k:Rw S):=ai (QO k) ⟨Ba o ho k,trivial⟩ Tryz.func150 (by kernel_rfl) fun a b κ x h=>Eq.trans (by kernel_rfl) (aj h)
def KG {S:Type} (k:Nat):Rw S:=ag BJ tW fun d c0 κ=>aa k (vD k d c0) (JP c0 κ)
def QV {S:Type} (k:Nat):Fx S:=fp 12 [(150,Kx k)] [] k Tryz.f149 1
theorem VR {S:Type} (o:Obj) (ho:af o) (k:Nat):Tl o 149 (KG k:Rw S):=ai (QV k) ⟨VH o ho k,trivial⟩ Tryz.func149 (by kernel_rfl) fun d c0 κ x h=>Eq.trans (by kernel_rfl) (aj h)
def KN {S:Type} (k:Nat):Rw S:=ag Hw tW fun s c0 κ=>aa k (AY k s c0) (ye c0 κ)
def zK {S:Type} (k:Nat):Fx S:=fp 19 [(149,KG k)] [(2,aS [0,1,7,8] [(1000000,2)],ap 4 5)] k Tryz.f175 1
def IT (c0:Cl) (s:List Cl) (v8:Int):St UU:=⟨[(0,(sC s)),(1,(.func 149 [] [(pt 1000000)])),(7,(.int .i64 (s.length:Int))),(8,(iI v8))],[(1000000,bC c0)],[],[]⟩
section
variable {S:Type} (k:Nat) (s:List Cl) (c0:Cl) (κ:Out UU→Option S)
theorem TB: ∀n v8,(zK k).lp κ 2 [] n (IT c0 s v8)=oI k (ye c0 κ) c0 s n v8:=ci (vf k (ye c0 κ) c0 s) rfl (fun _=>rfl) fun r v8=>by kernel_rfl
end
theorem VY {S:Type} (o:Obj) (ho:af o) (k:Nat):Tl o 175 (KN k:Rw S):=ai (zK k) ⟨VR o ho k,trivial⟩ Tryz.func175 (by kernel_rfl) fun s c0 κ x h=>Eq.trans (b:=Fb k (ye c0 κ) (fun v8=>(zK k).lp κ 2 [] k (IT c0 s v8)) s c0) (by kernel_rfl) (Eq.trans (by simp only [TB];rfl) (aj h))
def KS {S:Type} (k:Nat):Rw S:=ag Hw tW fun s c0 κ=>aa k (AW k s c0) (JP c0 κ)
def Q_ {S:Type} (k:Nat):Fx S:=fp 9 [(175,KN k)] [] k Tryz.f131 1
theorem V3 {S:Type} (o:Obj) (ho:af o) (k:Nat):Tl o 131 (KS k:Rw S):=ai (Q_ k) ⟨VY o ho k,trivial⟩ Tryz.func131 (by kernel_rfl) fun s c0 κ x h=>Eq.trans (by kernel_rfl) (aj h)
def K0 {S:Type} (k:Nat):Rw S:=ag BJ aeF fun c c0 κ=>aa k (vC k c c0) (qX9 c0 κ)
def Rk {S:Type} (k:Nat):Fx S:=fp 7 [(131,KS k)] [] k Tryz.f148 1
theorem Wa {S:Type} (o:Obj) (ho:af o) (k:Nat):Tl o 148 (K0 k:Rw S):=ai (Rk k) ⟨V3 o ho k,trivial⟩ Tryz.func148 (by kernel_rfl) fun c c0 κ x h=>Eq.trans (by kernel_rfl) (aj h)
def iC {S:Type} (k:Nat):Rw S:=ag dK xn fun l κ=>aa k (fQ k l) (aq κ)
def pR {S:Type} (k:Nat):Fx S:=fx 55 (fun _=>[]) (fun|53=>true|_=>false) [(146,CS k),(148,K0 k)] [(4,⟨[(4,.none),(5,.none),(13,.none),(14,.none),(15,.none)],[(5,[some (200320,true)]),(12,[])]⟩,ap 6 23),(15,⟨[(8,.none),(9,some (100009,true)),(34,.none),(35,.none),(36,.none)],[(5,[.none])]⟩,ap 9 191)] k Tryz.f100 false [] 0
def Cf (l:List Cl) (b12_0:List (Cl×Bool)) (b5_0:List Cl) (v15:Int):St UU:=⟨[(4,(.mp 12)),(5,(pt 5)),(13,(sC l)),(14,(.int .i64 (l.length:Int))),(15,(iI v15))],[(5,.cells [(.own 200320 0)]),(12,.map ET.C b12_0)],[(200320,⟨0,ET.C,b5_0⟩)],[(200320,.wr)]⟩
def IU (b5_0:List Cl) (v36:Int) (kept9:List Cl):St UU:=⟨[(8,(.func 148 [] [(pt 5)])),(9,(.own 100009 0)),(34,(sC b5_0)),(35,(.int .i64 (b5_0.length:Int))),(36,(iI v36))],[(5,.cells [(sC b5_0)])],[(100009,⟨0,ET.C,kept9⟩)],[(100009,.wr)]⟩
section
variable {S:Type} (k:Nat) (l:List Cl) (κ:Out UU→Option S)
theorem TD (b5_0): ∀n v36 kept9,(pR k).lp κ 15 [] n (IU b5_0 v36 kept9)=mb k (aq κ) b5_0 n v36 kept9:=aP (uc k (aq κ) b5_0) rfl (fun _=>rfl) fun r v36 kept9=>by kernel_rfl
theorem TC: ∀n b12_0 b5_0 v15,(pR k).lp κ 4 [] n (Cf l b12_0 b5_0 v15)=nV k (aq κ) l n b12_0 b5_0 v15:=jA (fun own=>p9 k (aq κ) l (fun b5_0 v36 kept9=>mb k (aq κ) b5_0 k v36 kept9) own) rfl (fun _=>rfl) fun r b12_0 b5_0 v15=>Eq.trans (b:=p9 k (aq κ) l (fun b5_0 v36 kept9=>(pR k).lp κ 15 [] k (IU b5_0 v36 kept9)) (fun b12_0 b5_0 v15=>r (Cf l b12_0 b5_0 v15)) b12_0 b5_0 v15) (by kernel_rfl) (by simp only [TD])
end
theorem ji {S:Type} (o:Obj) (ho:af o) (k:Nat):Tl o 100 (iC k:Rw S):=ai (pR k) ⟨Gs o ho k,Wa o ho k,trivial⟩ Tryz.func100 (by kernel_rfl) fun l κ x h=>Eq.trans (b:=D6 k (aq κ) (fun b12_0 b5_0 v15=>(pR k).lp κ 4 [] k (Cf l b12_0 b5_0 v15)) l) (by kernel_rfl) (Eq.trans (by simp only [TC];rfl) (aj h))
def K5 {S:Type} (k:Nat):Rw S:=ag gw xn fun s1 s2 κ=>aa k (wB k s1 s2) (ar κ)
def zO {S:Type} (k:Nat):Fx S:=fp 26 [] [(4,aS [0,1,12,13] [],ap 5 11)] k Tryz.f145 0
def IV (s1 s2:List Cl) (v13:Int):St UU:=⟨[(0,(sC s1)),(1,(sC s2)),(12,(.int .i64 (s1.length:Int))),(13,(iI v13))],[],[],[]⟩
section
variable {S:Type} (k:Nat) (s1 s2:List Cl) (κ:Out UU→Option S)
theorem TE: ∀n v13,(zO k).lp κ 4 [] n (IV s1 s2 v13)=oH k (ar κ) s1 s2 n v13:=ci (ve k (ar κ) s1 s2) rfl (fun _=>rfl) fun r v13=>by kernel_rfl
end
theorem Wd {S:Type} (o:Obj) (ho:af o) (k:Nat):Tl o 145 (K5 k:Rw S):=ai (zO k) trivial Tryz.func145 (by kernel_rfl) fun s1 s2 κ x h=>Eq.trans (b:=Fa k (ar κ) (fun v13=>(zO k).lp κ 4 [] k (IV s1 s2 v13)) s1 s2) (by kernel_rfl) (Eq.trans (by simp only [TE];rfl) (aj h))
def mM {S:Type} (k:Nat):Rw S:=ag dK xn fun f κ=>aa k (gk k f) (ar κ)
def Rn {S:Type} (k:Nat):Fx S:=fp 17 [(100,iC k),(145,K5 k)] [] k Tryz.f95 0
theorem nN {S:Type} (o:Obj) (ho:af o) (k:Nat):Tl o 95 (mM k:Rw S):=ai (Rn k) ⟨ji o ho k,Wd o ho k,trivial⟩ Tryz.func95 (by kernel_rfl) fun f κ x h=>Eq.trans (by kernel_rfl) (aj h)
def tr {S:Type} (k:Nat):Rw S:=ag eJ xn fun i κ=>aa k (lO k i) (ar κ)
def Ro {S:Type} (k:Nat):Fx S:=fp 9 [] [] k Tryz.f130 0
theorem wL {S:Type} (o:Obj) (ho:af o) (k:Nat):Tl o 130 (tr k:Rw S):=ai (Ro k) trivial Tryz.func130 (by kernel_rfl) fun i κ x h=>Eq.trans (by kernel_rfl) (aj h)
def yo {S:Type} (k:Nat):Rw S:=ag kC xn fun s i κ=>aa k (jb k s i) (bQ κ)
def Rp {S:Type} (k:Nat):Fx S:=fp 16 [(130,tr k)] [] k Tryz.f82 0
theorem Bd {S:Type} (o:Obj) (ho:af o) (k:Nat):Tl o 82 (yo k:Rw S):=ai (Rp k) ⟨wL o ho k,trivial⟩ Tryz.func82 (by kernel_rfl) fun s i κ x h=>Eq.trans (by kernel_rfl) (aj h)
def yp {S:Type} (k:Nat):Rw S:=ag dK xn fun f κ=>aa k (nk k f) (bQ κ)
def zP {S:Type} (k:Nat):Fx S:=fp 22 [(82,yo k)] [(3,aS [3,6,7,8] [],ap 5 11)] k Tryz.f38 0
def IW (f:List Cl) (s3 v8:Int):St UU:=⟨[(3,(iU s3)),(6,(sC f)),(7,(.int .i64 (f.length:Int))),(8,(iI v8))],[],[],[]⟩
section
variable {S:Type} (k:Nat) (f:List Cl) (κ:Out UU→Option S)
theorem TF: ∀n s3 v8,(zP k).lp κ 3 [] n (IW f s3 v8)=n5 k (bQ κ) f n s3 v8:=aP (ut k (bQ κ) f) rfl (fun _=>rfl) fun r s3 v8=>by kernel_rfl
end
theorem Be {S:Type} (o:Obj) (ho:af o) (k:Nat):Tl o 38 (yp k:Rw S):=ai (zP k) ⟨Bd o ho k,trivial⟩ Tryz.func38 (by kernel_rfl) fun f κ x h=>Eq.trans (b:=Em k (bQ κ) (fun s3 v8=>(zP k).lp κ 3 [] k (IW f s3 v8)) f) (by kernel_rfl) (Eq.trans (by simp only [TF];rfl) (aj h))
def K6 {S:Type} (k:Nat):Rw S:=ag BL xn fun f dims κ=>aa k (kj k f dims) (ar κ)
def Rq {S:Type} (k:Nat):Fx S:=fp 15 [(38,yp k)] [] k Tryz.f174 0
theorem We {S:Type} (o:Obj) (ho:af o) (k:Nat):Tl o 174 (K6 k:Rw S):=ai (Rq k) ⟨Be o ho k,trivial⟩ Tryz.func174 (by kernel_rfl) fun f dims κ x h=>Eq.trans (by kernel_rfl) (aj h)
def C5 {S:Type} (k:Nat):Rw S:=ag l9 xn fun c κ=>aa k (qX k c) (ar κ)
def Rr {S:Type} (k:Nat):Fx S:=fp 9 [] [] k Tryz.f132 0
theorem GE {S:Type} (o:Obj) (ho:af o) (k:Nat):Tl o 132 (C5 k:Rw S):=ai (Rr k) trivial Tryz.func132 (by kernel_rfl) fun c κ x h=>Eq.trans (by kernel_rfl) (aj h)
def K7 {S:Type} (k:Nat):Rw S:=ag Hy xn fun s κ=>aa k (AZ k s) (aJ κ)
def zQ {S:Type} (k:Nat):Fx S:=fp 19 [(132,C5 k)] [(2,aS [0,1,7,8] [],ap 4 5)] k Tryz.f175 0
def IX (s:List Cl) (v8:Int):St UU:=⟨[(0,(sC s)),(1,(.func 132 [] [])),(7,(.int .i64 (s.length:Int))),(8,(iI v8))],[],[],[]⟩
section
variable {S:Type} (k:Nat) (s:List Cl) (κ:Out UU→Option S)
theorem TG: ∀n v8,(zQ k).lp κ 2 [] n (IX s v8)=oJ k (aJ κ) s n v8:=ci (vg k (aJ κ) s) rfl (fun _=>rfl) fun r v8=>by kernel_rfl
end
theorem Wf {S:Type} (o:Obj) (ho:af o) (k:Nat):Tl o 175 (K7 k:Rw S):=ai (zQ k) ⟨GE o ho k,trivial⟩ Tryz.func175 (by kernel_rfl) fun s κ x h=>Eq.trans (b:=Fc k (aJ κ) (fun v8=>(zQ k).lp κ 2 [] k (IX s v8)) s) (by kernel_rfl) (Eq.trans (by simp only [TG];rfl) (aj h))
def K8 {S:Type} (k:Nat):Rw S:=ag Hy xn fun s κ=>aa k (AX k s) (ar κ)
def Rt {S:Type} (k:Nat):Fx S:=fp 9 [(175,K7 k)] [] k Tryz.f131 0
theorem Wg {S:Type} (o:Obj) (ho:af o) (k:Nat):Tl o 131 (K8 k:Rw S):=ai (Rt k) ⟨Wf o ho k,trivial⟩ Tryz.func131 (by kernel_rfl) fun s κ x h=>Eq.trans (by kernel_rfl) (aj h)
def tu {S:Type} (k:Nat):Rw S:=ag dK xn fun f κ=>aa k (j5 k f) (ar κ)
def Ru {S:Type} (k:Nat):Fx S:=fp 10 [(95,mM k),(131,K8 k)] [] k Tryz.f84 0
theorem wM {S:Type} (o:Obj) (ho:af o) (k:Nat):Tl o 84 (tu k:Rw S):=ai (Ru k) ⟨nN o ho k,Wg o ho k,trivial⟩ Tryz.func84 (by kernel_rfl) fun f κ x h=>Eq.trans (by kernel_rfl) (aj h)
def K9 {S:Type} (k:Nat):Rw S:=ag l_ xn fun t vars dims κ=>aa k (rL k t vars dims) (ar κ)
def pS {S:Type} (k:Nat):Fx S:=fp 138 [(84,tu k),(95,mM k),(171,JX k),(172,J8 k),(173,Kd k),(174,K6 k)] [(1000003,aS [1,2,3] [(3,6)],ap 2 3),(15,aS [2,3,107,108,109] [(3,6)],ap 6 23)] k Tryz.f127 0
def IY (t:Tm) (vars dims:Int):St UU:=⟨[(1,(iI vars)),(2,(iI dims)),(3,(pt 3))],[(3,bT t)],[],[]⟩
def IZ (t:Tm) (dims:Int) (v109:Int):St UU:=⟨[(2,(iI dims)),(3,(pt 3)),(107,(sB t.sys)),(108,(.int .i64 (t.sys.length:Int))),(109,(iI v109))],[(3,bT t)],[],[]⟩
section
variable {S:Type} (k:Nat) (t:Tm) (vars dims:Int) (κ:Out UU→Option S)
theorem TI: ∀n v109,(pS k).lp κ 15 [] n (IZ t dims v109)=jy k (ar κ) t dims n v109:=ci (vm k (ar κ) t dims) rfl (fun _=>rfl) fun r v109=>by kernel_rfl
theorem TH: ∀n,(pS k).jn κ 1000003 [] n (IY t vars dims)=xw k (ar κ) t vars dims n:=kB (qR k (ar κ) t vars dims (fun v109=>jy k (ar κ) t dims k v109)) rfl (fun _=>rfl) (Eq.trans (b:=qR k (ar κ) t vars dims (fun v109=>(pS k).lp κ 15 [] k (IZ t dims v109))) (by kernel_rfl) (by simp only [TI]))
end
theorem Wh {S:Type} (o:Obj) (ho:af o) (k:Nat):Tl o 127 (K9 k:Rw S):=ai (pS k) ⟨wM o ho k,nN o ho k,Vd o ho k,Vh o ho k,Vn o ho k,We o ho k,trivial⟩ Tryz.func127 (by kernel_rfl) fun t vars dims κ x h=>Eq.trans (b:=Fk k (ar κ) ((pS k).jn κ 1000003 [] k (IY t vars dims)) t vars dims) (by kernel_rfl) (Eq.trans (by simp only [TH];rfl) (aj h))
def pm {S:Type} (hd:dk S):Rw S:=ag Hz xn fun t vars dims bound κ=>hd t vars dims bound (ar κ)
def K_ {S:Type} (hd:dk S) (k:Nat):Rw S:=ag XO PT fun a_k v d c0 c1 c2 κ=>aa k (rI hd k a_k v d c0 c1 c2) (fF c0 c1 c2 κ)
def Rx {S:Type} (hd:dk S) (k:Nat):Fx S:=fp 21 [(81,pm hd)] [] k Tryz.f129 3
theorem Wi {S:Type} (o:Obj) (ho:af o) (hd:dk S) (Hd:Tl o 81 (pm hd)) (k:Nat):Tl o 129 (K_ hd k:Rw S):=ai (Rx hd k) ⟨Hd,trivial⟩ Tryz.func129 (by kernel_rfl) fun a_k v d c0 c1 c2 κ x h=>Eq.trans (by kernel_rfl) (aj h)
def La {S:Type} (hd:dk S) (k:Nat):Rw S:=ag XP PT fun t c0 c1 c2 κ=>aa k (wD hd k t c0 c1 c2) (fF c0 c1 c2 κ)
def lw {S:Type} (hd:dk S) (k:Nat):Fx S:=fp 60 [(110,pk k),(129,K_ hd k)] [(2,aS [1,2,15,16,17] [(2,6),(1000000,1),(1000001,1),(1000002,1)],ap 4 5),(12,aS [1,9,40,41,42] [(1000000,1),(1000001,1),(1000002,1)],ap 7 47),(15,aS [1,9,40,41,42,47,48,49] [(1000000,1),(1000001,1),(1000002,1)],ap 15 13103)] k Tryz.f128 3
def Cg (c0 c1:Int) (c2:Bool) (t:Tm) (v17:Int):St UU:=⟨[(1,(.func 129 [] [(pt 1000000),(pt 1000001),(pt 1000002)])),(2,(pt 2)),(15,(sT t.kids)),(16,(.int .i64 (t.kids.length:Int))),(17,(iI v17))],[(2,bT t),(1000000,bI c0),(1000001,bI c1),(1000002,.cells [(.bool c2)])],[],[]⟩
def sU (c0 c1:Int) (c2:Bool) (t:Tm) (v42 more9:Int):St UU:=⟨[(1,(.func 129 [] [(pt 1000000),(pt 1000001),(pt 1000002)])),(9,(iI more9)),(40,(sB t.sys)),(41,(.int .i64 (t.sys.length:Int))),(42,(iI v42))],[(1000000,bI c0),(1000001,bI c1),(1000002,.cells [(.bool c2)])],[],[]⟩
def I0 (c0 c1:Int) (c2:Bool) (t:Tm) (v42:Int) (x4:(Br Tm)) (more9:Int) (v49:Int):St UU:=⟨[(1,(.func 129 [] [(pt 1000000),(pt 1000001),(pt 1000002)])),(9,(iI more9)),(40,(sB t.sys)),(41,(.int .i64 (t.sys.length:Int))),(42,(iI v42)),(47,(sT x4.kids)),(48,(.int .i64 (x4.kids.length:Int))),(49,(iI v49))],[(1000000,bI c0),(1000001,bI c1),(1000002,.cells [(.bool c2)])],[],[]⟩
section
variable {S:Type} (hd:dk S) (k:Nat) (t:Tm) (c0 c1:Int) (c2:Bool) (κ:Out UU→Option S)
theorem TL (v42 x4 more9 κ1): ∀n v49,(lw hd k).lp κ 15 [κ1] n (I0 c0 c1 c2 t v42 x4 more9 v49)=kU hd k (fF c0 c1 c2 κ) (fun v42 more9=>κ1 (sU c0 c1 c2 t v42 more9)) c0 c1 c2 t v42 x4 more9 n v49:=ci (vk hd k (fF c0 c1 c2 κ) c0 c1 c2 t v42 x4 more9 (fun v42 more9=>κ1 (sU c0 c1 c2 t v42 more9))) rfl (fun _=>rfl) fun r v49=>by kernel_rfl
theorem TK: ∀n v42 more9,(lw hd k).lp κ 12 [] n (sU c0 c1 c2 t v42 more9)=gG hd k (fF c0 c1 c2 κ) c0 c1 c2 t n v42 more9:=aP (fun own=>qN hd k (fF c0 c1 c2 κ) c0 c1 c2 t (fun v42 x4 more9 v49=>kU hd k (fF c0 c1 c2 κ) own c0 c1 c2 t v42 x4 more9 k v49) own) rfl (fun _=>rfl) fun r v42 more9=>Eq.trans (b:=qN hd k (fF c0 c1 c2 κ) c0 c1 c2 t (fun v42 x4 more9 v49=>(lw hd k).lp κ 15 [r] k (I0 c0 c1 c2 t v42 x4 more9 v49)) (fun v42 more9=>r (sU c0 c1 c2 t v42 more9)) v42 more9) (by kernel_rfl) (by simp only [TL])
theorem TJ: ∀n v17,(lw hd k).lp κ 2 [] n (Cg c0 c1 c2 t v17)=mu hd k (fF c0 c1 c2 κ) c0 c1 c2 t n v17:=ci (fun own=>qM hd k (fF c0 c1 c2 κ) c0 c1 c2 t (fun v42 more9=>gG hd k (fF c0 c1 c2 κ) c0 c1 c2 t k v42 more9) own) rfl (fun _=>rfl) fun r v17=>Eq.trans (b:=qM hd k (fF c0 c1 c2 κ) c0 c1 c2 t (fun v42 more9=>(lw hd k).lp κ 12 [] k (sU c0 c1 c2 t v42 more9)) (fun v17=>r (Cg c0 c1 c2 t v17)) v17) (by kernel_rfl) (by simp only [TK])
end
theorem Wj {S:Type} (o:Obj) (ho:af o) (hd:dk S) (Hd:Tl o 81 (pm hd)) (k:Nat):Tl o 128 (La hd k:Rw S):=ai (lw hd k) ⟨r_ o ho k,Wi o ho hd Hd k,trivial⟩ Tryz.func128 (by kernel_rfl) fun t c0 c1 c2 κ x h=>Eq.trans (b:=Fh hd k (fF c0 c1 c2 κ) (fun v17=>(lw hd k).lp κ 2 [] k (Cg c0 c1 c2 t v17)) t c0 c1 c2) (by kernel_rfl) (Eq.trans (by simp only [TJ];rfl) (aj h))
def Rv {S:Type} (hd:dk S) (k:Nat):Fx S:=fp 24 [(127,K9 k),(128,La hd k)] [] k Tryz.f81 0
theorem Bz {S:Type} (o:Obj) (ho:af o): ∀k:Nat,Tl o 81 (pm (fl k:dk S))
 |0=>e_ fun t vars dims bound κ x h=>by cases h
 |k+1=>ai (Rv (fl k) k) ⟨Wh o ho k,Wj o ho (fl k) (Bz o ho k) k,trivial⟩ Tryz.func81 (by kernel_rfl) fun t vars dims bound κ x h=>Eq.trans (by kernel_rfl) h
def pn {S:Type} (k:Nat):Rw S:=ag fV xn fun t κ=>aa k (kg k t) (aJ κ)
def Ry {S:Type} (k:Nat):Fx S:=fp 12 [(80,CE k),(81,pm (fl k))] [] k Tryz.f91 0
theorem sa {S:Type} (o:Obj) (ho:af o) (k:Nat):Tl o 91 (pn k:Rw S):=ai (Ry k) ⟨Gg o ho k,Bz o ho k,trivial⟩ Tryz.func91 (by kernel_rfl) fun t κ x h=>Eq.trans (by kernel_rfl) (aj h)
def lb {S:Type} (k:Nat):Rw S:=ag XQ eS fun a_e c0 κ=>aa k (gj k a_e c0) (abr κ)
def Rz {S:Type} (k:Nat):Fx S:=fp 13 [] [] k Tryz.f85 1
theorem lW {S:Type} (o:Obj) (ho:af o) (k:Nat):Tl o 85 (lb k:Rw S):=ai (Rz k) trivial Tryz.func85 (by kernel_rfl) fun a_e c0 κ x h=>Eq.trans (by kernel_rfl) (aj h)
def po {S:Type} (k:Nat):Rw S:=ag BM xn fun l κ=>aa k (jZ k l) (xR κ)
def zR {S:Type} (k:Nat):Fx S:=fp 22 [(85,lb k),(91,pn k)] [(3,aS [3,8,9,10] [(7,1)],ap 5 11)] k Tryz.f48 0
def I1 (l:List Tm) (b7_0 v10:Int):St UU:=⟨[(3,(pt 7)),(8,(sT l)),(9,(.int .i64 (l.length:Int))),(10,(iI v10))],[(7,bI b7_0)],[],[]⟩
section
variable {S:Type} (k:Nat) (l:List Tm) (κ:Out UU→Option S)
theorem TM: ∀n b7_0 v10,(zR k).lp κ 3 [] n (I1 l b7_0 v10)=nU k (xR κ) l n b7_0 v10:=aP (ub k (xR κ) l) rfl (fun _=>rfl) fun r b7_0 v10=>by kernel_rfl
end
theorem sb {S:Type} (o:Obj) (ho:af o) (k:Nat):Tl o 48 (po k:Rw S):=ai (zR k) ⟨lW o ho k,sa o ho k,trivial⟩ Tryz.func48 (by kernel_rfl) fun l κ x h=>Eq.trans (b:=DX k (xR κ) (fun b7_0 v10=>(zR k).lp κ 3 [] k (I1 l b7_0 v10)) l) (by kernel_rfl) (Eq.trans (by simp only [TM];rfl) (aj h))
def mN {S:Type} (k:Nat):Rw S:=ag XR eS fun c0 κ=>aa k (du k c0) (e9 c0 κ)
def RB {S:Type} (k:Nat):Fx S:=fp 8 [] [] k Tryz.f52 1
theorem nO {S:Type} (o:Obj) (ho:af o) (k:Nat):Tl o 52 (mN k:Rw S):=ai (RB k) trivial Tryz.func52 (by kernel_rfl) fun c0 κ x h=>Eq.trans (by kernel_rfl) (aj h)
def yq {S:Type} (k:Nat):Rw S:=ag HB xn fun l κ=>aa k (np k l) (aJ κ)
def zS {S:Type} (k:Nat):Fx S:=fp 15 [(95,mM k)] [(2,aS [5,6,7] [],ap 4 5)] k Tryz.f96 0
def I2 (l:List (List Cl)) (v7:Int):St UU:=⟨[(5,(yL l .none)),(6,(.int .i64 (l.length:Int))),(7,(iI v7))],[],[],[]⟩
section
variable {S:Type} (k:Nat) (l:List (List Cl)) (κ:Out UU→Option S)
theorem TN: ∀n v7,(zS k).lp κ 2 [] n (I2 l v7)=oa k (aJ κ) l n v7:=ci (uA k (aJ κ) l) rfl (fun _=>rfl) fun r v7=>by kernel_rfl
end
theorem Bf {S:Type} (o:Obj) (ho:af o) (k:Nat):Tl o 96 (yq k:Rw S):=ai (zS k) ⟨nN o ho k,trivial⟩ Tryz.func96 (by kernel_rfl) fun l κ x h=>Eq.trans (b:=Eu k (aJ κ) (fun v7=>(zS k).lp κ 2 [] k (I2 l v7)) l) (by kernel_rfl) (Eq.trans (by simp only [TN];rfl) (aj h))
def C6 {S:Type} (k:Nat):Rw S:=ag cn xn fun κ=>aa k (ri k) (abt κ)
def RD {S:Type} (k:Nat):Fx S:=fx 1 (fun _=>[]) (fun _=>false) [] [] k Tryz.f21 false [true] 0
theorem GF {S:Type} (o:Obj) (ho:af o) (k:Nat):Tl o 21 (C6 k:Rw S):=ai (RD k) trivial Tryz.func21 (by kernel_rfl) fun κ x h=>Eq.trans (by kernel_rfl) (aj h)
def C7 {S:Type} (k:Nat):Rw S:=ag eJ xn fun i κ=>aa k (nu k i) (bQ κ)
def RE {S:Type} (k:Nat):Fx S:=fp 9 [] [] k Tryz.f163 0
theorem GG {S:Type} (o:Obj) (ho:af o) (k:Nat):Tl o 163 (C7 k:Rw S):=ai (RE k) trivial Tryz.func163 (by kernel_rfl) fun i κ x h=>Eq.trans (by kernel_rfl) (aj h)
def Lc {S:Type} (k:Nat):Rw S:=ag HC xn fun s a_from a_by κ=>aa k (j9 k s a_from a_by) (tg κ)
def RG {S:Type} (k:Nat):Fx S:=fp 46 [(163,C7 k)] [] k Tryz.f147 0
theorem Wm {S:Type} (o:Obj) (ho:af o) (k:Nat):Tl o 147 (Lc k:Rw S):=ai (RG k) ⟨GG o ho k,trivial⟩ Tryz.func147 (by kernel_rfl) fun s a_from a_by κ x h=>Eq.trans (by kernel_rfl) (aj h)
def Ld {S:Type} (k:Nat):Rw S:=ag HD xn fun c a_from a_by κ=>aa k (vE k c a_from a_by) (JJ κ)
def RH {S:Type} (k:Nat):Fx S:=fp 42 [(146,CS k),(147,Lc k)] [] k Tryz.f99 0
theorem Wn {S:Type} (o:Obj) (ho:af o) (k:Nat):Tl o 99 (Ld k:Rw S):=ai (RH k) ⟨Gs o ho k,Wm o ho k,trivial⟩ Tryz.func99 (by kernel_rfl) fun c a_from a_by κ x h=>Eq.trans (by kernel_rfl) (aj h)
def Le {S:Type} (k:Nat):Rw S:=ag XS za fun a_have c c0 c1 κ=>aa k (AI k a_have c c0 c1) (abu c0 c1 κ)
def RI {S:Type} (k:Nat):Fx S:=fx 22 (fun _=>[]) (fun _=>false) [(99,Ld k)] [] k Tryz.f98 false [true,false] 2
theorem Wo {S:Type} (o:Obj) (ho:af o) (k:Nat):Tl o 98 (Le k:Rw S):=ai (RI k) ⟨Wn o ho k,trivial⟩ Tryz.func98 (by kernel_rfl) fun a_have c c0 c1 κ x h=>Eq.trans (by kernel_rfl) (aj h)
end
end Go.Proofs.YtapmagaejigpnaaGreatDoor
namespace Go.Proofs.YtapmagaejigpnaaGreatDoor
open Go PI
set_option linter.unusedVariables false
set_option maxRecDepth 100000
noncomputable section
def Lf {S:Type} (k:Nat):Rw S:=ag XT za fun l a_from c0 c1 κ=>aa k (vW k l a_from c0 c1) (xS c0 c1 κ)
def zT {S:Type} (k:Nat):Fx S:=fx 33 (fun|23=>[true,false]|_=>[]) (fun _=>false) [(98,Le k)] [(2,⟨[(1,some (100001,true)),(2,.none),(13,.none),(14,.none),(15,.none)],[(1000000,[.none]),(1000001,[.none])]⟩,ap 4 5)] k Tryz.f97 false [] 2
def I3 (c0 c1:Int) (l:List Cl) (v1:List Cl) (v15:Int):St UU:=⟨[(1,(.own 100001 0)),(2,(.func 98 [] [(pt 1000000),(pt 1000001)])),(13,(sC l)),(14,(.int .i64 (l.length:Int))),(15,(iI v15))],[(1000000,bI c0),(1000001,bI c1)],[(100001,⟨0,ET.C,v1⟩)],[(100001,.wr)]⟩
section
variable {S:Type} (k:Nat) (l a_from:List Cl) (c0 c1:Int) (κ:Out UU→Option S)
theorem TO: ∀n v1 v15,(zT k).lp κ 2 [] n (I3 c0 c1 l v1 v15)=n9 k (xS c0 c1 κ) c0 c1 l n v1 v15:=aP (ux k (xS c0 c1 κ) c0 c1 l) rfl (fun _=>rfl) fun r v1 v15=>by kernel_rfl
end
theorem Wp {S:Type} (o:Obj) (ho:af o) (k:Nat):Tl o 97 (Lf k:Rw S):=ai (zT k) ⟨Wo o ho k,trivial⟩ Tryz.func97 (by kernel_rfl) fun l a_from c0 c1 κ x h=>Eq.trans (b:=Er k (xS c0 c1 κ) (fun v1 v15=>(zT k).lp κ 2 [] k (I3 c0 c1 l v1 v15)) l a_from c0 c1) (by kernel_rfl) (Eq.trans (by simp only [TO];rfl) (aj h))
def pq {S:Type} (k:Nat):Rw S:=ag BN xn fun f a_from a_by κ=>aa k (j6 k f a_from a_by) (aq κ)
def RJ {S:Type} (k:Nat):Fx S:=fx 31 (fun|21=>[false,true,false]|_=>[]) (fun _=>false) [(21,C6 k),(96,yq k),(97,Lf k),(100,iC k)] [] k Tryz.f57 false [] 0
theorem sc {S:Type} (o:Obj) (ho:af o) (k:Nat):Tl o 57 (pq k:Rw S):=ai (RJ k) ⟨GF o ho k,Bf o ho k,Wp o ho k,ji o ho k,trivial⟩ Tryz.func57 (by kernel_rfl) fun f a_from a_by κ x h=>Eq.trans (by kernel_rfl) (aj h)
def C8 {S:Type} (k:Nat):Rw S:=ag XU eS fun f c0 κ=>aa k (i8 k f c0) (JK κ)
def RL {S:Type} (k:Nat):Fx S:=fp 23 [(52,mN k),(57,pq k),(85,lb k)] [] k Tryz.f53 1
theorem GH {S:Type} (o:Obj) (ho:af o) (k:Nat):Tl o 53 (C8 k:Rw S):=ai (RL k) ⟨nO o ho k,sc o ho k,lW o ho k,trivial⟩ Tryz.func53 (by kernel_rfl) fun f c0 κ x h=>Eq.trans (by kernel_rfl) (aj h)
def Lh {S:Type} (k:Nat):Rw S:=ag HB xn fun l κ=>aa k (vR k l) (aJ κ)
def zU {S:Type} (k:Nat):Fx S:=fp 15 [(84,tu k)] [(2,aS [5,6,7] [],ap 4 5)] k Tryz.f176 0
def I4 (l:List (List Cl)) (v7:Int):St UU:=⟨[(5,(yL l .none)),(6,(.int .i64 (l.length:Int))),(7,(iI v7))],[],[],[]⟩
section
variable {S:Type} (k:Nat) (l:List (List Cl)) (κ:Out UU→Option S)
theorem TP: ∀n v7,(zU k).lp κ 2 [] n (I4 l v7)=n4 k (aJ κ) l n v7:=ci (ur k (aJ κ) l) rfl (fun _=>rfl) fun r v7=>by kernel_rfl
end
theorem Wr {S:Type} (o:Obj) (ho:af o) (k:Nat):Tl o 176 (Lh k:Rw S):=ai (zU k) ⟨wM o ho k,trivial⟩ Tryz.func176 (by kernel_rfl) fun l κ x h=>Eq.trans (b:=Ek k (aJ κ) (fun v7=>(zU k).lp κ 2 [] k (I4 l v7)) l) (by kernel_rfl) (Eq.trans (by simp only [TP];rfl) (aj h))
def C9 {S:Type} (k:Nat):Rw S:=ag gw xn fun f g κ=>aa k (rh k f g) (aq κ)
def RM {S:Type} (k:Nat):Fx S:=fp 14 [(100,iC k)] [] k Tryz.f162 0
theorem GI {S:Type} (o:Obj) (ho:af o) (k:Nat):Tl o 162 (C9 k:Rw S):=ai (RM k) ⟨ji o ho k,trivial⟩ Tryz.func162 (by kernel_rfl) fun f g κ x h=>Eq.trans (by kernel_rfl) (aj h)
def Li {S:Type} (k:Nat):Rw S:=ag gw xn fun f g κ=>aa k (vJ k f g) (aq κ)
def RN {S:Type} (k:Nat):Fx S:=fp 19 [(162,C9 k),(176,Lh k)] [] k Tryz.f133 0
theorem Ws {S:Type} (o:Obj) (ho:af o) (k:Nat):Tl o 133 (Li k:Rw S):=ai (RN k) ⟨GI o ho k,Wr o ho k,trivial⟩ Tryz.func133 (by kernel_rfl) fun f g κ x h=>Eq.trans (by kernel_rfl) (aj h)
def Lj {S:Type} (k:Nat):Rw S:=ag XV eS fun f g c0 κ=>aa k (j4 k f g c0) (JK κ)
def RO {S:Type} (k:Nat):Fx S:=fp 26 [(52,mN k),(85,lb k),(133,Li k)] [] k Tryz.f86 1
theorem Wt {S:Type} (o:Obj) (ho:af o) (k:Nat):Tl o 86 (Lj k:Rw S):=ai (RO k) ⟨nO o ho k,lW o ho k,Ws o ho k,trivial⟩ Tryz.func86 (by kernel_rfl) fun f g c0 κ x h=>Eq.trans (by kernel_rfl) (aj h)
def Lk {S:Type} (k:Nat):Rw S:=ag XW xn fun l_0 l_1 f a_from κ=>aa k (rj k l_0 l_1 f a_from) (abv κ)
def RP {S:Type} (k:Nat):Fx S:=fp 31 [(57,pq k)] [] k Tryz.f190 0
theorem Wu {S:Type} (o:Obj) (ho:af o) (k:Nat):Tl o 190 (Lk k:Rw S):=ai (RP k) ⟨sc o ho k,trivial⟩ Tryz.func190 (by kernel_rfl) fun l_0 l_1 f a_from κ x h=>Eq.trans (by kernel_rfl) (aj h)
def yr {S:Type} (hd:fe S):Rw S:=ag XX xn fun l_0 l_1 t v d κ=>hd l_0 l_1 t v d (er κ)
def iP {S:Type} (hd:fe S) (k:Nat):Fx S:=fp 128 [(110,pk k),(141,yr hd),(190,Lk k)] [(1000006,⟨[(2,.none),(3,.none),(4,.none),(5,.none),(8,.none),(9,.none)],[(4,[.none,.none]),(5,[.none,.none,.none,.none,.none,.none]),(8,[.none,.none,.none,some (200515,true),some (200516,true),some (200517,true)]),(9,[.none,.none,.none,.none,some (200580,true),some (200581,true)])]⟩,ap 3 7),(7,⟨[(2,.none),(3,.none),(4,.none),(5,.none),(8,.none),(9,.none),(55,.none),(56,.none),(57,.none)],[(4,[.none,.none]),(5,[.none,.none,.none,.none,.none,.none]),(8,[.none,.none,.none,some (200515,true),some (200516,true),some (200517,true)]),(9,[.none,.none,.none,.none,some (200580,true),some (200581,true)])]⟩,ap 6 23),(16,⟨[(2,.none),(3,.none),(4,.none),(8,.none),(9,.none),(14,.none),(88,.none),(89,.none),(90,.none)],[(4,[.none,.none]),(8,[.none,.none,.none,some (200515,true),some (200516,true),some (200517,true)]),(9,[.none,.none,.none,.none,some (200580,true),some (200581,true)])]⟩,ap 9 191),(20,⟨[(2,.none),(3,.none),(4,.none),(8,.none),(9,.none),(14,.none),(17,.none),(88,.none),(89,.none),(90,.none),(101,.none),(102,.none),(103,.none)],[(4,[.none,.none]),(8,[.none,.none,.none,some (200515,true),some (200516,true),some (200517,true)]),(9,[.none,.none,.none,.none,some (200580,true),some (200581,true)]),(17,[.none,some (201089,true)])]⟩,ap 19 183487)] k Tryz.f141 0
def I5 (l_0 l_1:Int) (t:Tm) (r2:List Cl) (v d:Int) (b9_1:Int):St UU:=⟨[(2,(iI v)),(3,(iI d)),(4,(pt 4)),(5,(pt 5)),(8,(pt 8)),(9,(pt 9))],[(4,.cells [(iI l_0),(iI l_1)]),(5,bT t),(8,.cells [(iI 0),(iI 0),(.str ByteArray.empty),(.own 200515 0),(.own 200516 0),(.own 200517 0)]),(9,.cells [(iI t.kind),(iI b9_1),(.str t.name),(sC r2),(.own 200580 0),(.own 200581 0)])],[(200581,⟨0,ET.B,([]:List (Br Tm))⟩),(200580,⟨0,ET.T,([]:List Tm)⟩),(200517,⟨0,ET.B,([]:List (Br Tm))⟩),(200516,⟨0,ET.T,([]:List Tm)⟩),(200515,⟨0,ET.C,([]:List Cl)⟩)],[(200581,.wr),(200580,.wr),(200517,.wr),(200516,.wr),(200515,.wr)]⟩
def Ch (l_0 l_1:Int) (t:Tm) (b9_1:Int) (r2:List Cl) (v d:Int) (b9_4:List Tm) (v57:Int):St UU:=⟨[(2,(iI v)),(3,(iI d)),(4,(pt 4)),(5,(pt 5)),(8,(pt 8)),(9,(pt 9)),(55,(sT t.kids)),(56,(.int .i64 (t.kids.length:Int))),(57,(iI v57))],[(4,.cells [(iI l_0),(iI l_1)]),(5,bT t),(8,.cells [(iI 0),(iI 0),(.str ByteArray.empty),(.own 200515 0),(.own 200516 0),(.own 200517 0)]),(9,.cells [(iI t.kind),(iI b9_1),(.str t.name),(sC r2),(.own 200580 0),(.own 200581 0)])],[(200581,⟨0,ET.B,([]:List (Br Tm))⟩),(200580,⟨0,ET.T,b9_4⟩),(200517,⟨0,ET.B,([]:List (Br Tm))⟩),(200516,⟨0,ET.T,([]:List Tm)⟩),(200515,⟨0,ET.C,([]:List Cl)⟩)],[(200581,.wr),(200580,.wr),(200517,.wr),(200516,.wr),(200515,.wr)]⟩
def sV (l_0 l_1:Int) (t:Tm) (b9_1:Int) (r2:List Cl) (b9_4:List Tm) (v d:Int) (b9_5:List (Br Tm)) (more14 v90:Int):St UU:=⟨[(2,(iI v)),(3,(iI d)),(4,(pt 4)),(8,(pt 8)),(9,(pt 9)),(14,(iI more14)),(88,(sB t.sys)),(89,(.int .i64 (t.sys.length:Int))),(90,(iI v90))],[(4,.cells [(iI l_0),(iI l_1)]),(8,.cells [(iI 0),(iI 0),(.str ByteArray.empty),(.own 200515 0),(.own 200516 0),(.own 200517 0)]),(9,.cells [(iI t.kind),(iI b9_1),(.str t.name),(sC r2),(.own 200580 0),(.own 200581 0)])],[(200581,⟨0,ET.B,b9_5⟩),(200580,⟨0,ET.T,b9_4⟩),(200517,⟨0,ET.B,([]:List (Br Tm))⟩),(200516,⟨0,ET.T,([]:List Tm)⟩),(200515,⟨0,ET.C,([]:List Cl)⟩)],[(200581,.wr),(200580,.wr),(200517,.wr),(200516,.wr),(200515,.wr)]⟩
def I6 (r12:List Cl) (l_0 l_1:Int) (t:Tm) (b9_1:Int) (r2:List Cl) (b9_4:List Tm) (b9_5:List (Br Tm)) (x10:(Br Tm)) (more14 v d v90:Int) (b17_1:List Tm) (v103:Int):St UU:=⟨[(2,(iI v)),(3,(iI d)),(4,(pt 4)),(8,(pt 8)),(9,(pt 9)),(14,(iI more14)),(17,(pt 17)),(88,(sB t.sys)),(89,(.int .i64 (t.sys.length:Int))),(90,(iI v90)),(101,(sT x10.kids)),(102,(.int .i64 (x10.kids.length:Int))),(103,(iI v103))],[(4,.cells [(iI l_0),(iI l_1)]),(8,.cells [(iI 0),(iI 0),(.str ByteArray.empty),(.own 200515 0),(.own 200516 0),(.own 200517 0)]),(9,.cells [(iI t.kind),(iI b9_1),(.str t.name),(sC r2),(.own 200580 0),(.own 200581 0)]),(17,.cells [(sC r12),(.own 201089 0)])],[(201089,⟨0,ET.T,b17_1⟩),(200581,⟨0,ET.B,b9_5⟩),(200580,⟨0,ET.T,b9_4⟩),(200517,⟨0,ET.B,([]:List (Br Tm))⟩),(200516,⟨0,ET.T,([]:List Tm)⟩),(200515,⟨0,ET.C,([]:List Cl)⟩)],[(201089,.wr),(200581,.wr),(200580,.wr),(200517,.wr),(200516,.wr),(200515,.wr)]⟩
section
variable {S:Type} (hd:fe S) (k:Nat) (l_0 l_1:Int) (t:Tm) (v d:Int) (κ:Out UU→Option S)
theorem TT (r12 b9_1 r2 b9_4 b9_5 x10 more14 v90 κ2): ∀n b17_1 v103,(iP hd k).lp κ 20 [κ2] n (I6 r12 l_0 l_1 t b9_1 r2 b9_4 b9_5 x10 more14 v d v90 b17_1 v103)=kM hd k (er κ) (fun b9_5 more14 v90=>κ2 (sV l_0 l_1 t b9_1 r2 b9_4 v d b9_5 more14 v90)) r12 l_0 l_1 t b9_1 r2 b9_4 b9_5 x10 more14 v d v90 n b17_1 v103:=aP (uD hd k (er κ) r12 l_0 l_1 t b9_1 r2 b9_4 b9_5 x10 more14 v d v90 (fun b9_5 more14 v90=>κ2 (sV l_0 l_1 t b9_1 r2 b9_4 v d b9_5 more14 v90))) rfl (fun _=>rfl) fun r b17_1 v103=>by kernel_rfl
theorem TS (b9_1 r2 b9_4): ∀n b9_5 more14 v90,(iP hd k).lp κ 16 [] n (sV l_0 l_1 t b9_1 r2 b9_4 v d b9_5 more14 v90)=eW hd k (er κ) l_0 l_1 t b9_1 r2 b9_4 v d n b9_5 more14 v90:=jA (fun own=>qf hd k (er κ) l_0 l_1 t b9_1 r2 b9_4 v d (fun r12 b9_5 x10 more14 v90 b17_1 v103=>kM hd k (er κ) own r12 l_0 l_1 t b9_1 r2 b9_4 b9_5 x10 more14 v d v90 k b17_1 v103) own) rfl (fun _=>rfl) fun r b9_5 more14 v90=>Eq.trans (b:=qf hd k (er κ) l_0 l_1 t b9_1 r2 b9_4 v d (fun r12 b9_5 x10 more14 v90 b17_1 v103=>(iP hd k).lp κ 20 [r] k (I6 r12 l_0 l_1 t b9_1 r2 b9_4 b9_5 x10 more14 v d v90 b17_1 v103)) (fun b9_5 more14 v90=>r (sV l_0 l_1 t b9_1 r2 b9_4 v d b9_5 more14 v90)) b9_5 more14 v90) (by kernel_rfl) (by simp only [TT])
theorem TR (b9_1 r2): ∀n b9_4 v57,(iP hd k).lp κ 7 [] n (Ch l_0 l_1 t b9_1 r2 v d b9_4 v57)=js hd k (er κ) l_0 l_1 t b9_1 r2 v d n b9_4 v57:=aP (fun own=>qe hd k (er κ) l_0 l_1 t b9_1 r2 v d (fun b9_4 b9_5 more14 v90=>eW hd k (er κ) l_0 l_1 t b9_1 r2 b9_4 v d k b9_5 more14 v90) own) rfl (fun _=>rfl) fun r b9_4 v57=>Eq.trans (b:=qe hd k (er κ) l_0 l_1 t b9_1 r2 v d (fun b9_4 b9_5 more14 v90=>(iP hd k).lp κ 16 [] k (sV l_0 l_1 t b9_1 r2 b9_4 v d b9_5 more14 v90)) (fun b9_4 v57=>r (Ch l_0 l_1 t b9_1 r2 v d b9_4 v57)) b9_4 v57) (by kernel_rfl) (by simp only [TS])
theorem TQ (r2): ∀n b9_1,(iP hd k).jn κ 1000006 [] n (I5 l_0 l_1 t r2 v d b9_1)=sy hd k (er κ) l_0 l_1 t r2 v d n b9_1:=sq (Ae hd k (er κ) l_0 l_1 t r2 v d (fun b9_1 b9_4 v57=>js hd k (er κ) l_0 l_1 t b9_1 r2 v d k b9_4 v57)) rfl (fun _=>rfl) (fun b9_1=>Eq.trans (b:=Ae hd k (er κ) l_0 l_1 t r2 v d (fun b9_1 b9_4 v57=>(iP hd k).lp κ 7 [] k (Ch l_0 l_1 t b9_1 r2 v d b9_4 v57)) b9_1) (by kernel_rfl) (by simp only [TR]))
end
theorem BA {S:Type} (o:Obj) (ho:af o): ∀k:Nat,Tl o 141 (yr (dv k:fe S))
 |0=>e_ fun l_0 l_1 t v d κ x h=>by cases h
 |k+1=>ai (iP (dv k) k) ⟨r_ o ho k,BA o ho k,Wu o ho k,trivial⟩ Tryz.func141 (by kernel_rfl) fun l_0 l_1 t v d κ x h=>Eq.trans (b:=Ez (dv k) k (er κ) (fun r2 b9_1=>(iP (dv k) k).jn κ 1000006 [] k (I5 l_0 l_1 t r2 v d b9_1)) l_0 l_1 t v d) (by kernel_rfl) (Eq.trans (by simp only [TQ];rfl) h)
def Ll {S:Type} (k:Nat):Rw S:=ag HE PW fun c0 c1 c2 κ=>aa k (wc k c0 c1 c2) (abw c0 c1 c2 κ)
def RQ {S:Type} (k:Nat):Fx S:=fp 10 [(141,yr (dv k))] [] k Tryz.f142 3
theorem Wv {S:Type} (o:Obj) (ho:af o) (k:Nat):Tl o 142 (Ll k:Rw S):=ai (RQ k) ⟨BA o ho k,trivial⟩ Tryz.func142 (by kernel_rfl) fun c0 c1 c2 κ x h=>Eq.trans (by kernel_rfl) (aj h)
def Lm {S:Type} (k:Nat):Rw S:=ag XY PW fun t numbers c0 c1 c2 κ=>aa k (AP k t numbers c0 c1 c2) (xU c0 c1 c2 κ)
def zV {S:Type} (k:Nat):Fx S:=⟨⟨30,(fun _=>[]),(fun _=>false),.none,fun|6=>true|7=>true|_=>false⟩,[(91,pn k),(142,Ll k)],[(5,⟨[(2,.none),(6,.none),(7,.none),(17,.none),(18,.none),(19,.none)],[(1000000,[.none]),(1000001,[.none,.none,.none,.none,.none,.none]),(1000002,[.none]),(5000006,[.none,.none,.none,some (320200387,true),some (320200388,true),some (320200389,true)]),(5000007,[.none])]⟩,ap 5 11)],k,Tryz.f139,false,[],3,some (vq 16 189 Tryz.f189 k)⟩
def I7 (c0:Int) (c1:Tm) (c2:Int) (numbers:List Int) (v19:Int):St UU:=⟨[(2,(.func 142 [] [(pt 1000000),(pt 1000001),(pt 1000002)])),(6,(pt 5000006)),(7,(pt 5000007)),(17,(lg numbers .none)),(18,(.int .i64 (numbers.length:Int))),(19,(iI v19))],[(1000000,bI c0),(1000001,bT c1),(1000002,bI c2),(5000006,.cells [(iI 0),(iI 0),(.str ByteArray.empty),(.own 320200387 0),(.own 320200388 0),(.own 320200389 0)]),(5000007,bI 0)],[(320200389,⟨0,ET.B,([]:List (Br Tm))⟩),(320200388,⟨0,ET.T,([]:List Tm)⟩),(320200387,⟨0,ET.C,([]:List Cl)⟩)],[(320200389,.wr),(320200388,.wr),(320200387,.wr)]⟩
section
variable {S:Type} (k:Nat) (t:Tm) (numbers:List Int) (c0:Int) (c1:Tm) (c2:Int) (κ:Out UU→Option S)
theorem TU: ∀n v19,(zV k).lp κ 5 [] n (I7 c0 c1 c2 numbers v19)=me k (xU c0 c1 c2 κ) c0 c1 c2 numbers n v19:=ci (uB k (xU c0 c1 c2 κ) c0 c1 c2 numbers) rfl (fun _=>rfl) fun r v19=>by kernel_rfl
end
theorem Ww {S:Type} (o:Obj) (ho:af o) (k:Nat):Tl o 139 (Lm k:Rw S):=Pp (zV k) rfl (FX o Tryz.func189 (by kernel_rfl)) ⟨sa o ho k,Wv o ho k,trivial⟩ Tryz.func139 (by kernel_rfl) fun t numbers c0 c1 c2 κ x h=>Eq.trans (b:=Ew k (xU c0 c1 c2 κ) (fun v19=>(zV k).lp κ 5 [] k (I7 c0 c1 c2 numbers v19)) t numbers c0 c1 c2) (by kernel_rfl) (Eq.trans (by simp only [TU];rfl) (aj h))
def Ln {S:Type} (k:Nat):Rw S:=ag l_ xn fun t a_from a_by κ=>aa k (wa k t a_from a_by) (cm κ)
def RR {S:Type} (k:Nat):Fx S:=fp 16 [(139,Lm k)] [] k Tryz.f93 0
theorem Wx {S:Type} (o:Obj) (ho:af o) (k:Nat):Tl o 93 (Ln k:Rw S):=ai (RR k) ⟨Ww o ho k,trivial⟩ Tryz.func93 (by kernel_rfl) fun t a_from a_by κ x h=>Eq.trans (by kernel_rfl) (aj h)
def tv {S:Type} (k:Nat):Rw S:=ag kC xn fun s i κ=>aa k (g8 k s i) (bQ κ)
def RS {S:Type} (k:Nat):Fx S:=fp 16 [(130,tr k)] [] k Tryz.f144 0
theorem wN {S:Type} (o:Obj) (ho:af o) (k:Nat):Tl o 144 (tv k:Rw S):=ai (RS k) ⟨wL o ho k,trivial⟩ Tryz.func144 (by kernel_rfl) fun s i κ x h=>Eq.trans (by kernel_rfl) (aj h)
def Lo {S:Type} (k:Nat):Rw S:=ag su xn fun a_x κ=>aa k (F8 k a_x) (aJ κ)
def RT {S:Type} (k:Nat):Fx S:=fp 21 [] [] k Tryz.f191 0
theorem Wy {S:Type} (o:Obj) (ho:af o) (k:Nat):Tl o 191 (Lo k:Rw S):=ai (RT k) trivial Tryz.func191 (by kernel_rfl) fun a_x κ x h=>Eq.trans (by kernel_rfl) (aj h)
def yv {S:Type} (k:Nat):Rw S:=ag su xn fun s κ=>aa k (j8 k s) (aJ κ)
def RU {S:Type} (k:Nat):Fx S:=fp 6 [(191,Lo k)] [] k Tryz.f143 0
theorem Bg {S:Type} (o:Obj) (ho:af o) (k:Nat):Tl o 143 (yv k:Rw S):=ai (RU k) ⟨Wy o ho k,trivial⟩ Tryz.func143 (by kernel_rfl) fun s κ x h=>Eq.trans (by kernel_rfl) (aj h)
def Lp {S:Type} (k:Nat):Rw S:=ag eJ xn fun i κ=>aa k (vF k i) (ar κ)
def RV {S:Type} (k:Nat):Fx S:=fp 7 [(143,yv k),(144,tv k)] [] k Tryz.f94 0
theorem Wz {S:Type} (o:Obj) (ho:af o) (k:Nat):Tl o 94 (Lp k:Rw S):=ai (RV k) ⟨Bg o ho k,wN o ho k,trivial⟩ Tryz.func94 (by kernel_rfl) fun i κ x h=>Eq.trans (by kernel_rfl) (aj h)
def Lq {S:Type} (k:Nat):Rw S:=ag BO xn fun t i a_r κ=>aa k (AH k t i a_r) (aJ κ)
def RW {S:Type} (k:Nat):Fx S:=fp 21 [(91,pn k),(94,Lp k),(95,mM k)] [] k Tryz.f56 0
theorem WA {S:Type} (o:Obj) (ho:af o) (k:Nat):Tl o 56 (Lq k:Rw S):=ai (RW k) ⟨sa o ho k,Wz o ho k,nN o ho k,trivial⟩ Tryz.func56 (by kernel_rfl) fun t i a_r κ x h=>Eq.trans (by kernel_rfl) (aj h)
def Lr {S:Type} (k:Nat):Rw S:=ag HF tX fun c0 c1 κ=>aa k (AB k c0 c1) (abx c0 c1 κ)
def RX {S:Type} (k:Nat):Fx S:=fp 6 [] [] k Tryz.f101 2
theorem WB {S:Type} (o:Obj) (ho:af o) (k:Nat):Tl o 101 (Lr k:Rw S):=ai (RX k) trivial Tryz.func101 (by kernel_rfl) fun c0 c1 κ x h=>Eq.trans (by kernel_rfl) (aj h)
def Ls {S:Type} (k:Nat):Rw S:=ag X0 tX fun c0 c1 κ=>aa k (AC k c0 c1) (aby c0 c1 κ)
def RY {S:Type} (k:Nat):Fx S:=fp 6 [] [] k Tryz.f101 2
theorem WC {S:Type} (o:Obj) (ho:af o) (k:Nat):Tl o 101 (Ls k:Rw S):=ai (RY k) trivial Tryz.func101 (by kernel_rfl) fun c0 c1 κ x h=>Eq.trans (by kernel_rfl) (aj h)
def Lt {S:Type} (k:Nat):Rw S:=ag X1 xn fun i a_r κ=>aa k (Az k i a_r) (abz κ)
def RZ {S:Type} (k:Nat):Fx S:=fp 12 [(101,mI (si HF tX) (Lr k) (Ls k))] [] k Tryz.f58 0
theorem WD {S:Type} (o:Obj) (ho:af o) (k:Nat):Tl o 58 (Lt k:Rw S):=ai (RZ k) ⟨td (WB o ho k) (WC o ho k),trivial⟩ Tryz.func58 (by kernel_rfl) fun i a_r κ x h=>Eq.trans (by kernel_rfl) (aj h)
def tw {S:Type} (k:Nat):Rw S:=ag kC xn fun s i κ=>aa k (gm k s i) (ar κ)
def R0 {S:Type} (k:Nat):Fx S:=fp 15 [(130,tr k)] [] k Tryz.f103 0
theorem wO {S:Type} (o:Obj) (ho:af o) (k:Nat):Tl o 103 (tw k:Rw S):=ai (R0 k) ⟨wL o ho k,trivial⟩ Tryz.func103 (by kernel_rfl) fun s i κ x h=>Eq.trans (by kernel_rfl) (aj h)
def C_ {S:Type} (k:Nat):Rw S:=ag dK xn fun f κ=>aa k (q_ k f) (e7 κ)
def R1 {S:Type} (k:Nat):Fx S:=fp 5 [] [] k Tryz.f104 0
theorem GJ {S:Type} (o:Obj) (ho:af o) (k:Nat):Tl o 104 (C_ k:Rw S):=ai (R1 k) trivial Tryz.func104 (by kernel_rfl) fun f κ x h=>Eq.trans (by kernel_rfl) (aj h)
def Lu {S:Type} (k:Nat):Rw S:=ag eJ xn fun i κ=>aa k (vM k i) (ar κ)
def R2 {S:Type} (k:Nat):Fx S:=fp 7 [(143,yv k),(144,tv k)] [] k Tryz.f158 0
theorem WE {S:Type} (o:Obj) (ho:af o) (k:Nat):Tl o 158 (Lu k:Rw S):=ai (R2 k) ⟨Bg o ho k,wN o ho k,trivial⟩ Tryz.func158 (by kernel_rfl) fun i κ x h=>Eq.trans (by kernel_rfl) (aj h)
def Db {S:Type} (k:Nat):Rw S:=ag l9 xn fun c κ=>aa k (rg k c) (abA κ)
def R4 {S:Type} (k:Nat):Fx S:=fp 8 [(132,C5 k)] [] k Tryz.f200 0
theorem GL {S:Type} (o:Obj) (ho:af o) (k:Nat):Tl o 200 (Db k:Rw S):=ai (R4 k) ⟨GE o ho k,trivial⟩ Tryz.func200 (by kernel_rfl) fun c κ x h=>Eq.trans (by kernel_rfl) (aj h)
def Lv {S:Type} (k:Nat):Rw S:=ag X2 xn fun l κ=>aa k (vP k l) (e7 κ)
def zW {S:Type} (k:Nat):Fx S:=fp 29 [(200,Db k)] [(3,⟨[(1,.none),(5,some (100005,true)),(10,.none),(11,.none),(12,.none)],[]⟩,ap 5 11)] k Tryz.f199 0
def I_ (l:List Cl) (v12:Int) (out5:List Cl):St UU:=⟨[(1,(.func 200 [] [])),(5,(.own 100005 0)),(10,(sC l)),(11,(.int .i64 (l.length:Int))),(12,(iI v12))],[],[(100005,⟨0,ET.C,out5⟩)],[(100005,.wr)]⟩
section
variable {S:Type} (k:Nat) (l:List Cl) (κ:Out UU→Option S)
theorem T1: ∀n v12 out5,(zW k).lp κ 3 [] n (I_ l v12 out5)=nZ k (e7 κ) l n v12 out5:=aP (uo k (e7 κ) l) rfl (fun _=>rfl) fun r v12 out5=>by kernel_rfl
end
theorem WF {S:Type} (o:Obj) (ho:af o) (k:Nat):Tl o 199 (Lv k:Rw S):=ai (zW k) ⟨GL o ho k,trivial⟩ Tryz.func199 (by kernel_rfl) fun l κ x h=>Eq.trans (b:=Ei k (e7 κ) (fun v12 out5=>(zW k).lp κ 3 [] k (I_ l v12 out5)) l) (by kernel_rfl) (Eq.trans (by simp only [T1];rfl) (aj h))
def Dc {S:Type} (k:Nat):Rw S:=ag dK xn fun f κ=>aa k (rf k f) (aq κ)
def R5 {S:Type} (k:Nat):Fx S:=fp 12 [(95,mM k),(100,iC k),(199,Lv k)] [] k Tryz.f159 0
theorem GM {S:Type} (o:Obj) (ho:af o) (k:Nat):Tl o 159 (Dc k:Rw S):=ai (R5 k) ⟨nN o ho k,ji o ho k,WF o ho k,trivial⟩ Tryz.func159 (by kernel_rfl) fun f κ x h=>Eq.trans (by kernel_rfl) (aj h)
def Lw {S:Type} (k:Nat):Rw S:=ag BJ tW fun b c0 κ=>aa k (vQ k b c0) (abB c0 κ)
def R6 {S:Type} (k:Nat):Fx S:=fp 11 [(193,yl k),(200,Db k)] [] k Tryz.f201 1
theorem WG {S:Type} (o:Obj) (ho:af o) (k:Nat):Tl o 201 (Lw k:Rw S):=ai (R6 k) ⟨Ba o ho k,GL o ho k,trivial⟩ Tryz.func201 (by kernel_rfl) fun b c0 κ x h=>Eq.trans (by kernel_rfl) (aj h)
def Lx {S:Type} (k:Nat):Rw S:=ag X3 tW fun l c0 κ=>aa k (vO k l c0) (xV c0 κ)
def zX {S:Type} (k:Nat):Fx S:=fp 29 [(201,Lw k)] [(3,⟨[(1,.none),(5,some (100005,true)),(10,.none),(11,.none),(12,.none)],[(1000000,[.none,.none])]⟩,ap 5 11)] k Tryz.f199 1
def Ja (c0:Cl) (l:List Cl) (v12:Int) (out5:List Cl):St UU:=⟨[(1,(.func 201 [] [(pt 1000000)])),(5,(.own 100005 0)),(10,(sC l)),(11,(.int .i64 (l.length:Int))),(12,(iI v12))],[(1000000,bC c0)],[(100005,⟨0,ET.C,out5⟩)],[(100005,.wr)]⟩
section
variable {S:Type} (k:Nat) (l:List Cl) (c0:Cl) (κ:Out UU→Option S)
theorem T2: ∀n v12 out5,(zX k).lp κ 3 [] n (Ja c0 l v12 out5)=nY k (xV c0 κ) c0 l n v12 out5:=aP (um k (xV c0 κ) c0 l) rfl (fun _=>rfl) fun r v12 out5=>by kernel_rfl
end
theorem WH {S:Type} (o:Obj) (ho:af o) (k:Nat):Tl o 199 (Lx k:Rw S):=ai (zX k) ⟨WG o ho k,trivial⟩ Tryz.func199 (by kernel_rfl) fun l c0 κ x h=>Eq.trans (b:=Eh k (xV c0 κ) (fun v12 out5=>(zX k).lp κ 3 [] k (Ja c0 l v12 out5)) l c0) (by kernel_rfl) (Eq.trans (by simp only [T2];rfl) (aj h))
def Ly {S:Type} (k:Nat):Rw S:=ag gw xn fun f g κ=>aa k (nj k f g) (aq κ)
def zY {S:Type} (k:Nat):Fx S:=fp 25 [(100,iC k),(199,Lx k)] [(3,⟨[(1,.none),(6,some (100006,true)),(9,.none),(10,.none),(11,.none)],[]⟩,ap 5 11)] k Tryz.f160 0
def Jb (g f:List Cl) (v11:Int) (out6:List Cl):St UU:=⟨[(1,(sC g)),(6,(.own 100006 0)),(9,(sC f)),(10,(.int .i64 (f.length:Int))),(11,(iI v11))],[],[(100006,⟨0,ET.C,out6⟩)],[(100006,.wr)]⟩
section
variable {S:Type} (k:Nat) (f g:List Cl) (κ:Out UU→Option S)
theorem T3: ∀n v11 out6,(zY k).lp κ 3 [] n (Jb g f v11 out6)=n1 k (aq κ) g f n v11 out6:=aP (uq k (aq κ) g f) rfl (fun _=>rfl) fun r v11 out6=>by kernel_rfl
end
theorem WI {S:Type} (o:Obj) (ho:af o) (k:Nat):Tl o 160 (Ly k:Rw S):=ai (zY k) ⟨ji o ho k,WH o ho k,trivial⟩ Tryz.func160 (by kernel_rfl) fun f g κ x h=>Eq.trans (b:=Ej k (aq κ) (fun v11 out6=>(zY k).lp κ 3 [] k (Jb g f v11 out6)) f g) (by kernel_rfl) (Eq.trans (by simp only [T3];rfl) (aj h))
def Lz {S:Type} (k:Nat):Rw S:=ag cn xn fun κ=>aa k (AJ k) (e7 κ)
def R7 {S:Type} (k:Nat):Fx S:=fp 3 [] [] k Tryz.f20 0
theorem WJ {S:Type} (o:Obj) (ho:af o) (k:Nat):Tl o 20 (Lz k:Rw S):=ai (R7 k) trivial Tryz.func20 (by kernel_rfl) fun κ x h=>Eq.trans (by kernel_rfl) (aj h)
def LA {S:Type} (k:Nat):Rw S:=ag l9 xn fun c κ=>aa k (vY k c) (aq κ)
def pT {S:Type} (k:Nat):Fx S:=fp 43 [(100,iC k),(144,tv k),(224,Dp)] [(3,⟨[(1,.none),(4,some (100004,true)),(11,.none),(12,.none),(13,.none)],[(1,[.none,.none])]⟩,ap 5 11),(8,⟨[(4,some (100004,true)),(26,.none),(27,.none),(28,.none)],[]⟩,ap 6 23)] k Tryz.f198 0
def Ck (c:Cl) (r1:List Int) (v13:Int) (out4:List Cl):St UU:=⟨[(1,(pt 1)),(4,(.own 100004 0)),(11,(lg r1 .none)),(12,(.int .i64 (r1.length:Int))),(13,(iI v13))],[(1,bC c)],[(100004,⟨0,ET.C,out4⟩)],[(100004,.wr)]⟩
def Jc (r5:List Int) (v28:Int) (out4':List Cl):St UU:=⟨[(4,(.own 100004 0)),(26,(lg r5 .none)),(27,(.int .i64 (r5.length:Int))),(28,(iI v28))],[],[(100004,⟨0,ET.C,out4'⟩)],[(100004,.wr)]⟩
section
variable {S:Type} (k:Nat) (c:Cl) (κ:Out UU→Option S)
theorem T5 (r5): ∀n v28 out4',(pT k).lp κ 8 [] n (Jc r5 v28 out4')=md k (aq κ) r5 n v28 out4':=aP (uz k (aq κ) r5) rfl (fun _=>rfl) fun r v28 out4'=>by kernel_rfl
theorem T4 (r1): ∀n v13 out4,(pT k).lp κ 3 [] n (Ck c r1 v13 out4)=n_ k (aq κ) c r1 n v13 out4:=aP (fun own=>qc k (aq κ) c r1 (fun r5 v28 out4'=>md k (aq κ) r5 k v28 out4') own) rfl (fun _=>rfl) fun r v13 out4=>Eq.trans (b:=qc k (aq κ) c r1 (fun r5 v28 out4'=>(pT k).lp κ 8 [] k (Jc r5 v28 out4')) (fun v13 out4=>r (Ck c r1 v13 out4)) v13 out4) (by kernel_rfl) (by simp only [T5])
end
theorem WK {S:Type} (o:Obj) (ho:af o) (k:Nat):Tl o 198 (LA k:Rw S):=ai (pT k) ⟨ji o ho k,wN o ho k,ad9 o ho,trivial⟩ Tryz.func198 (by kernel_rfl) fun c κ x h=>Eq.trans (b:=Et k (aq κ) (fun r1 v13 out4=>(pT k).lp κ 3 [] k (Ck c r1 v13 out4)) c) (by kernel_rfl) (Eq.trans (by simp only [T4];rfl) (aj h))
def Dd {S:Type} (k:Nat):Rw S:=ag gw xn fun f g κ=>aa k (i_ k f g) (aq κ)
def pU {S:Type} (k:Nat):Fx S:=fp 35 [(100,iC k),(193,yl k)] [(3,⟨[(1,.none),(6,some (100006,true)),(11,.none),(12,.none),(13,.none)],[]⟩,ap 5 11),(6,⟨[(1,.none),(6,some (100006,true)),(8,.none),(11,.none),(12,.none),(13,.none),(17,.none),(18,.none),(19,.none)],[(8,[.none,.none])]⟩,ap 13 3275)] k Tryz.f155 0
def sY (g f:List Cl) (v13:Int) (out6:List Cl):St UU:=⟨[(1,(sC g)),(6,(.own 100006 0)),(11,(sC f)),(12,(.int .i64 (f.length:Int))),(13,(iI v13))],[],[(100006,⟨0,ET.C,out6⟩)],[(100006,.wr)]⟩
def Jd (x1:Cl) (g f:List Cl) (v13:Int) (v19:Int) (out6':List Cl):St UU:=⟨[(1,(sC g)),(6,(.own 100006 0)),(8,(pt 8)),(11,(sC f)),(12,(.int .i64 (f.length:Int))),(13,(iI v13)),(17,(sC g)),(18,(.int .i64 (g.length:Int))),(19,(iI v19))],[(8,bC x1)],[(100006,⟨0,ET.C,out6'⟩)],[(100006,.wr)]⟩
section
variable {S:Type} (k:Nat) (f g:List Cl) (κ:Out UU→Option S)
theorem T7 (x1 v13 κ0): ∀n v19 out6',(pU k).lp κ 6 [κ0] n (Jd x1 g f v13 v19 out6')=mc k (aq κ) (fun v13 out6=>κ0 (sY g f v13 out6)) x1 g f v13 n v19 out6':=aP (uy k (aq κ) x1 g f v13 (fun v13 out6=>κ0 (sY g f v13 out6))) rfl (fun _=>rfl) fun r v19 out6'=>by kernel_rfl
theorem T6: ∀n v13 out6,(pU k).lp κ 3 [] n (sY g f v13 out6)=kL k (aq κ) g f n v13 out6:=aP (fun own=>qb k (aq κ) g f (fun x1 v13 v19 out6'=>mc k (aq κ) own x1 g f v13 k v19 out6') own) rfl (fun _=>rfl) fun r v13 out6=>Eq.trans (b:=qb k (aq κ) g f (fun x1 v13 v19 out6'=>(pU k).lp κ 6 [r] k (Jd x1 g f v13 v19 out6')) (fun v13 out6=>r (sY g f v13 out6)) v13 out6) (by kernel_rfl) (by simp only [T7])
end
theorem GN {S:Type} (o:Obj) (ho:af o) (k:Nat):Tl o 155 (Dd k:Rw S):=ai (pU k) ⟨ji o ho k,Ba o ho k,trivial⟩ Tryz.func155 (by kernel_rfl) fun f g κ x h=>Eq.trans (b:=Es k (aq κ) (fun v13 out6=>(pU k).lp κ 3 [] k (sY g f v13 out6)) f g) (by kernel_rfl) (Eq.trans (by simp only [T6];rfl) (aj h))
def LB {S:Type} (k:Nat):Rw S:=ag HG xn fun a_have c κ=>aa k (vX k a_have c) (aq κ)
def R8 {S:Type} (k:Nat):Fx S:=fp 21 [(155,Dd k),(198,LA k)] [] k Tryz.f197 0
theorem WL {S:Type} (o:Obj) (ho:af o) (k:Nat):Tl o 197 (LB k:Rw S):=ai (R8 k) ⟨GN o ho k,WK o ho k,trivial⟩ Tryz.func197 (by kernel_rfl) fun a_have c κ x h=>Eq.trans (by kernel_rfl) (aj h)
def LD {S:Type} (k:Nat):Rw S:=ag X4 xn fun l a_from κ=>aa k (AM k l a_from) (aq κ)
def zZ {S:Type} (k:Nat):Fx S:=fp 33 [(197,LB k)] [(2,aS [1,2,13,14,15] [],ap 4 5)] k Tryz.f97 0
def Je (l:List Cl) (v1:List Cl) (v15:Int):St UU:=⟨[(1,(sC v1)),(2,(.func 197 [] [])),(13,(sC l)),(14,(.int .i64 (l.length:Int))),(15,(iI v15))],[],[],[]⟩
section
variable {S:Type} (k:Nat) (l a_from:List Cl) (κ:Out UU→Option S)
theorem T8: ∀n v1 v15,(zZ k).lp κ 2 [] n (Je l v1 v15)=n8 k (aq κ) l n v1 v15:=aP (uw k (aq κ) l) rfl (fun _=>rfl) fun r v1 v15=>by kernel_rfl
end
theorem WN {S:Type} (o:Obj) (ho:af o) (k:Nat):Tl o 97 (LD k:Rw S):=ai (zZ k) ⟨WL o ho k,trivial⟩ Tryz.func97 (by kernel_rfl) fun l a_from κ x h=>Eq.trans (b:=Ep k (aq κ) (fun v1 v15=>(zZ k).lp κ 2 [] k (Je l v1 v15)) l a_from) (by kernel_rfl) (Eq.trans (by simp only [T8];rfl) (aj h))
def De {S:Type} (k:Nat):Rw S:=ag dK xn fun f κ=>aa k (nn k f) (aq κ)
def R_ {S:Type} (k:Nat):Fx S:=fp 9 [(20,Lz k),(97,LD k)] [] k Tryz.f156 0
theorem GO {S:Type} (o:Obj) (ho:af o) (k:Nat):Tl o 156 (De k:Rw S):=ai (R_ k) ⟨WJ o ho k,WN o ho k,trivial⟩ Tryz.func156 (by kernel_rfl) fun f κ x h=>Eq.trans (by kernel_rfl) (aj h)
def LF {S:Type} (k:Nat):Rw S:=ag dK xn fun f κ=>aa k (vT k f) (aq κ)
def Sa {S:Type} (k:Nat):Fx S:=fp 15 [(96,yq k),(156,De k)] [] k Tryz.f202 0
theorem WO {S:Type} (o:Obj) (ho:af o) (k:Nat):Tl o 202 (LF k:Rw S):=ai (Sa k) ⟨Bf o ho k,GO o ho k,trivial⟩ Tryz.func202 (by kernel_rfl) fun f κ x h=>Eq.trans (by kernel_rfl) (aj h)
def LG {S:Type} (k:Nat):Rw S:=ag dK xn fun f κ=>aa k (vK k f) (aq κ)
def Sb {S:Type} (k:Nat):Fx S:=fp 18 [(159,Dc k),(202,LF k)] [] k Tryz.f161 0
theorem WP {S:Type} (o:Obj) (ho:af o) (k:Nat):Tl o 161 (LG k:Rw S):=ai (Sb k) ⟨GM o ho k,WO o ho k,trivial⟩ Tryz.func161 (by kernel_rfl) fun f κ x h=>Eq.trans (by kernel_rfl) (aj h)
def LH {S:Type} (k:Nat):Rw S:=ag xh xn fun f i a_r κ=>aa k (vL k f i a_r) (aq κ)
def pV {S:Type} (k:Nat):Fx S:=fp 92 [(82,yo k),(84,tu k),(95,mM k),(103,tw k),(158,Lu k),(159,Dc k),(160,Ly k),(161,LG k),(162,C9 k)] [(5,aS [1,2,8,27,28,29] [],ap 6 23),(1000018,aS [1,2,8,11,13,27,28,29] [],ap 16 63895)] k Tryz.f106 0
def sZ (i:Int) (a_r f:List Cl) (v29:Int) (v8:List Cl):St UU:=⟨[(1,(iI i)),(2,(sC a_r)),(8,(sC v8)),(27,(sC f)),(28,(.int .i64 (f.length:Int))),(29,(iI v29))],[],[],[]⟩
def Jf (i:Int) (a_r f:List Cl) (v29:Int) (v8:List Cl) (g11:List Cl) (v13:Int):St UU:=⟨[(1,(iI i)),(2,(sC a_r)),(8,(sC v8)),(11,(sC g11)),(13,(iI v13)),(27,(sC f)),(28,(.int .i64 (f.length:Int))),(29,(iI v29))],[],[],[]⟩
section
variable {S:Type} (k:Nat) (f:List Cl) (i:Int) (a_r:List Cl) (κ:Out UU→Option S)
theorem T_ (v29 v8 κ0): ∀n g11 v13,(pV k).jn κ 1000018 [κ0] n (Jf i a_r f v29 v8 g11 v13)=nX k (aq κ) (fun v29 v8=>κ0 (sZ i a_r f v29 v8)) i a_r f v29 v8 n g11 v13:=Hr (ul k (aq κ) i a_r f v29 v8 (fun v29 v8=>κ0 (sZ i a_r f v29 v8))) rfl (fun _=>rfl) (fun g11 v13=>by kernel_rfl)
theorem T9: ∀n v29 v8,(pV k).lp κ 5 [] n (sZ i a_r f v29 v8)=kK k (aq κ) i a_r f n v29 v8:=aP (fun own=>p_ k (aq κ) i a_r f (fun v29 v8 g11 v13=>nX k (aq κ) own i a_r f v29 v8 k g11 v13) own) rfl (fun _=>rfl) fun r v29 v8=>Eq.trans (b:=p_ k (aq κ) i a_r f (fun v29 v8 g11 v13=>(pV k).jn κ 1000018 [r] k (Jf i a_r f v29 v8 g11 v13)) (fun v29 v8=>r (sZ i a_r f v29 v8)) v29 v8) (by kernel_rfl) (by simp only [T_])
end
theorem WQ {S:Type} (o:Obj) (ho:af o) (k:Nat):Tl o 106 (LH k:Rw S):=ai (pV k) ⟨Bd o ho k,wM o ho k,nN o ho k,wO o ho k,WE o ho k,GM o ho k,WI o ho k,WP o ho k,GI o ho k,trivial⟩ Tryz.func106 (by kernel_rfl) fun f i a_r κ x h=>Eq.trans (b:=Eg k (aq κ) (fun v29 v8=>(pV k).lp κ 5 [] k (sZ i a_r f v29 v8)) f i a_r) (by kernel_rfl) (Eq.trans (by simp only [T9];rfl) (aj h))
def Df {S:Type} (k:Nat):Rw S:=ag BP aeG fun f depth c0 c1 κ=>aa k (ra k f depth c0 c1) (abC c0 c1 κ)
def Sc {S:Type} (k:Nat):Fx S:=fp 38 [(38,yp k),(57,pq k),(103,tw k),(104,C_ k),(106,LH k)] [] k Tryz.f102 3
theorem GP {S:Type} (o:Obj) (ho:af o) (k:Nat):Tl o 102 (Df k:Rw S):=ai (Sc k) ⟨Be o ho k,sc o ho k,wO o ho k,GJ o ho k,WQ o ho k,trivial⟩ Tryz.func102 (by kernel_rfl) fun f depth c0 c1 κ x h=>Eq.trans (by kernel_rfl) (aj h)
def LI {S:Type} (k:Nat):Rw S:=ag eJ xn fun i κ=>aa k (vS k i) (aq κ)
def Sd {S:Type} (k:Nat):Fx S:=fp 12 [(143,yv k),(144,tv k)] [] k Tryz.f153 0
theorem WR {S:Type} (o:Obj) (ho:af o) (k:Nat):Tl o 153 (LI k:Rw S):=ai (Sd k) ⟨Bg o ho k,wN o ho k,trivial⟩ Tryz.func153 (by kernel_rfl) fun i κ x h=>Eq.trans (by kernel_rfl) (aj h)
def LJ {S:Type} (k:Nat):Rw S:=ag gw xn fun f g κ=>aa k (lN k f g) (aq κ)
def Se {S:Type} (k:Nat):Fx S:=fp 14 [(100,iC k)] [] k Tryz.f157 0
theorem WS {S:Type} (o:Obj) (ho:af o) (k:Nat):Tl o 157 (LJ k:Rw S):=ai (Se k) ⟨ji o ho k,trivial⟩ Tryz.func157 (by kernel_rfl) fun f g κ x h=>Eq.trans (by kernel_rfl) (aj h)
def LK {S:Type} (k:Nat):Rw S:=ag X5 tX fun a_have c c0 c1 κ=>aa k (vV k a_have c c0 c1) (th c0 c1 κ)
def Sf {S:Type} (k:Nat):Fx S:=fp 63 [(82,yo k),(103,tw k),(155,Dd k),(156,De k),(157,LJ k)] [] k Tryz.f154 2
theorem WT {S:Type} (o:Obj) (ho:af o) (k:Nat):Tl o 154 (LK k:Rw S):=ai (Sf k) ⟨Bd o ho k,wO o ho k,GN o ho k,GO o ho k,WS o ho k,trivial⟩ Tryz.func154 (by kernel_rfl) fun a_have c c0 c1 κ x h=>Eq.trans (by kernel_rfl) (aj h)
def LM {S:Type} (k:Nat):Rw S:=ag X7 tX fun l a_from c0 c1 κ=>aa k (AL k l a_from c0 c1) (th c0 c1 κ)
def z6 {S:Type} (k:Nat):Fx S:=fp 33 [(154,LK k)] [(2,aS [1,2,13,14,15] [(1000000,1),(1000001,1)],ap 4 5)] k Tryz.f97 2
def Jg (c0:Int) (c1 l:List Cl) (v1:List Cl) (v15:Int):St UU:=⟨[(1,(sC v1)),(2,(.func 154 [] [(pt 1000000),(pt 1000001)])),(13,(sC l)),(14,(.int .i64 (l.length:Int))),(15,(iI v15))],[(1000000,bI c0),(1000001,.cells [(sC c1)])],[],[]⟩
section
variable {S:Type} (k:Nat) (l a_from:List Cl) (c0:Int) (c1:List Cl) (κ:Out UU→Option S)
theorem Ua: ∀n v1 v15,(z6 k).lp κ 2 [] n (Jg c0 c1 l v1 v15)=n7 k (th c0 c1 κ) c0 c1 l n v1 v15:=aP (uu k (th c0 c1 κ) c0 c1 l) rfl (fun _=>rfl) fun r v1 v15=>by kernel_rfl
end
theorem WU {S:Type} (o:Obj) (ho:af o) (k:Nat):Tl o 97 (LM k:Rw S):=ai (z6 k) ⟨WT o ho k,trivial⟩ Tryz.func97 (by kernel_rfl) fun l a_from c0 c1 κ x h=>Eq.trans (b:=Eo k (th c0 c1 κ) (fun v1 v15=>(z6 k).lp κ 2 [] k (Jg c0 c1 l v1 v15)) l a_from c0 c1) (by kernel_rfl) (Eq.trans (by simp only [Ua];rfl) (aj h))
def LO {S:Type} (k:Nat):Rw S:=ag xh xn fun f i a_r κ=>aa k (vU k f i a_r) (aq κ)
def Sh {S:Type} (k:Nat):Fx S:=fp 32 [(21,C6 k),(96,yq k),(97,LM k),(153,LI k)] [] k Tryz.f105 0
theorem WW {S:Type} (o:Obj) (ho:af o) (k:Nat):Tl o 105 (LO k:Rw S):=ai (Sh k) ⟨GF o ho k,Bf o ho k,WU o ho k,WR o ho k,trivial⟩ Tryz.func105 (by kernel_rfl) fun f i a_r κ x h=>Eq.trans (by kernel_rfl) (aj h)
end
end Go.Proofs.YtapmagaejigpnaaGreatDoor
namespace Go.Proofs.YtapmagaejigpnaaGreatDoor
open Go PI
set_option linter.unusedVariables false
set_option maxRecDepth 100000
noncomputable section
def LP {S:Type} (k:Nat):Rw S:=ag BP PX fun f depth c0 c1 κ=>aa k (vG k f depth c0 c1) (abD c0 c1 κ)
def Si {S:Type} (k:Nat):Fx S:=fp 38 [(38,yp k),(57,pq k),(103,tw k),(104,C_ k),(105,LO k)] [] k Tryz.f102 3
theorem WX {S:Type} (o:Obj) (ho:af o) (k:Nat):Tl o 102 (LP k:Rw S):=ai (Si k) ⟨Be o ho k,sc o ho k,wO o ho k,GJ o ho k,WW o ho k,trivial⟩ Tryz.func102 (by kernel_rfl) fun f depth c0 c1 κ x h=>Eq.trans (by kernel_rfl) (aj h)
def LQ {S:Type} (k:Nat):Rw S:=ag BQ FA fun t depth c0 c1 κ=>aa k (vH k t depth c0 c1) (abE c0 c1 κ)
def Sj {S:Type} (k:Nat):Fx S:=fp 27 [(102,mI (si BP PX) (LP k) (Df k))] [] k Tryz.f107 4
theorem WY {S:Type} (o:Obj) (ho:af o) (k:Nat):Tl o 107 (LQ k:Rw S):=ai (Sj k) ⟨td (WX o ho k) (GP o ho k),trivial⟩ Tryz.func107 (by kernel_rfl) fun t depth c0 c1 κ x h=>Eq.trans (by kernel_rfl) (aj h)
def Dg {S:Type} (k:Nat):Rw S:=ag HH aeH fun i c0 κ=>aa k (rd k i c0) (abF c0 κ)
def Sk {S:Type} (k:Nat):Fx S:=fp 14 [(110,pk k)] [] k Tryz.f109 1
theorem GQ {S:Type} (o:Obj) (ho:af o) (k:Nat):Tl o 109 (Dg k:Rw S):=ai (Sk k) ⟨r_ o ho k,trivial⟩ Tryz.func109 (by kernel_rfl) fun i c0 κ x h=>Eq.trans (by kernel_rfl) (aj h)
def Dh {S:Type} (k:Nat):Rw S:=ag HH eS fun p c0 κ=>aa k (re k p c0) (abG c0 κ)
def Sl {S:Type} (k:Nat):Fx S:=fp 5 [] [] k Tryz.f111 1
theorem GR {S:Type} (o:Obj) (ho:af o) (k:Nat):Tl o 111 (Dh k:Rw S):=ai (Sl k) trivial Tryz.func111 (by kernel_rfl) fun p c0 κ x h=>Eq.trans (by kernel_rfl) (aj h)
def pr {S:Type} (hd:cP S):Rw S:=ag BQ FA fun t depth c0 c1 κ=>hd t depth c0 c1 (xW c0 c1 κ)
def LR {S:Type} (hd:cP S) (k:Nat):Rw S:=ag HI PY fun l depth c0 c1 c4 κ=>aa k (AF hd k l depth c0 c1 c4) (xX c0 c1 c4 κ)
def z8 {S:Type} (hd:cP S) (k:Nat):Fx S:=fp 42 [(59,pr hd),(111,Dh k)] [(3,⟨[(2,.none),(3,.none),(4,.none),(10,some (100010,true)),(15,.none),(16,.none),(17,.none)],[(4,[.none,.none]),(1000000,[.none]),(1000001,[.none]),(1000002,[.none]),(1000003,[.none]),(1000004,[.none])]⟩,ap 5 11)] k Tryz.f108 5
def Ji (c0:Int) (c1:List Cl) (c4:Int) (l:List Tm) (depth:Int) (out10:List Tm) (v17:Int):St UU:=⟨[(2,(iI depth)),(3,(.func 111 [] [(pt 1000004)])),(4,(pt 4)),(10,(.own 100010 0)),(15,(sT l)),(16,(.int .i64 (l.length:Int))),(17,(iI v17))],[(4,.cells [(.func 102 [] [(pt 1000000),(pt 1000001),(pt 1000002)]),(.func 102 [] [(pt 1000000),(pt 1000001),(pt 1000003)])]),(1000000,bI c0),(1000001,.cells [(sC c1)]),(1000002,.cells [(.func 105 [] [])]),(1000003,.cells [(.func 106 [] [])]),(1000004,bI c4)],[(100010,⟨0,ET.T,out10⟩)],[(100010,.wr)]⟩
section
variable {S:Type} (hd:cP S) (k:Nat) (l:List Tm) (depth c0:Int) (c1:List Cl) (c4:Int) (κ:Out UU→Option S)
theorem Uc: ∀n out10 v17,(z8 hd k).lp κ 3 [] n (Ji c0 c1 c4 l depth out10 v17)=kI hd k (xX c0 c1 c4 κ) c0 c1 c4 l depth n out10 v17:=aP (uh hd k (xX c0 c1 c4 κ) c0 c1 c4 l depth) rfl (fun _=>rfl) fun r out10 v17=>by kernel_rfl
end
theorem WZ {S:Type} (o:Obj) (ho:af o) (hd:cP S) (Hd:Tl o 59 (pr hd)) (k:Nat):Tl o 108 (LR hd k:Rw S):=ai (z8 hd k) ⟨Hd,GR o ho k,trivial⟩ Tryz.func108 (by kernel_rfl) fun l depth c0 c1 c4 κ x h=>Eq.trans (b:=Ea hd k (xX c0 c1 c4 κ) (fun out10 v17=>(z8 hd k).lp κ 3 [] k (Ji c0 c1 c4 l depth out10 v17)) l depth c0 c1 c4) (by kernel_rfl) (Eq.trans (by simp only [Uc];rfl) (aj h))
def LS {S:Type} (hd:cP S) (k:Nat):Rw S:=ag X8 aeI fun l depth c0 c1 c4 κ=>aa k (AG hd k l depth c0 c1 c4) (xY c0 c1 c4 κ)
def z_ {S:Type} (hd:cP S) (k:Nat):Fx S:=fp 42 [(59,pr hd),(109,Dg k)] [(3,⟨[(2,.none),(3,.none),(4,.none),(10,some (100010,true)),(15,.none),(16,.none),(17,.none)],[(4,[.none,.none]),(1000000,[.none]),(1000001,[.none]),(1000002,[.none]),(1000003,[.none]),(1000004,[.none,.none,.none,.none,.none,.none])]⟩,ap 5 11)] k Tryz.f108 5
def Jj (c0:Int) (c1:List Cl) (c4:Tm) (l:List Tm) (depth:Int) (out10:List Tm) (v17:Int):St UU:=⟨[(2,(iI depth)),(3,(.func 109 [] [(pt 1000004)])),(4,(pt 4)),(10,(.own 100010 0)),(15,(sT l)),(16,(.int .i64 (l.length:Int))),(17,(iI v17))],[(4,.cells [(.func 102 [] [(pt 1000000),(pt 1000001),(pt 1000002)]),(.func 102 [] [(pt 1000000),(pt 1000001),(pt 1000003)])]),(1000000,bI c0),(1000001,.cells [(sC c1)]),(1000002,.cells [(.func 105 [] [])]),(1000003,.cells [(.func 106 [] [])]),(1000004,bT c4)],[(100010,⟨0,ET.T,out10⟩)],[(100010,.wr)]⟩
section
variable {S:Type} (hd:cP S) (k:Nat) (l:List Tm) (depth c0:Int) (c1:List Cl) (c4:Tm) (κ:Out UU→Option S)
theorem Ud: ∀n out10 v17,(z_ hd k).lp κ 3 [] n (Jj c0 c1 c4 l depth out10 v17)=kJ hd k (xY c0 c1 c4 κ) c0 c1 c4 l depth n out10 v17:=aP (ui hd k (xY c0 c1 c4 κ) c0 c1 c4 l depth) rfl (fun _=>rfl) fun r out10 v17=>by kernel_rfl
end
theorem W4 {S:Type} (o:Obj) (ho:af o) (hd:cP S) (Hd:Tl o 59 (pr hd)) (k:Nat):Tl o 108 (LS hd k:Rw S):=ai (z_ hd k) ⟨Hd,GQ o ho k,trivial⟩ Tryz.func108 (by kernel_rfl) fun l depth c0 c1 c4 κ x h=>Eq.trans (b:=Eb hd k (xY c0 c1 c4 κ) (fun out10 v17=>(z_ hd k).lp κ 3 [] k (Jj c0 c1 c4 l depth out10 v17)) l depth c0 c1 c4) (by kernel_rfl) (Eq.trans (by simp only [Ud];rfl) (aj h))
def z7 {S:Type} (hd:cP S) (k:Nat):Fx S:=fp 98 [(102,Df k),(107,LQ k),(108,mI (si HI PY) (LR hd k) (LS hd k))] [(13,⟨[(2,.none),(3,.none),(6,.none),(8,.none),(10,.none),(53,.none),(54,.none),(55,.none)],[(3,[.none,.none]),(6,[.none,.none,.none,some (200387,true),some (200388,true),some (200389,true)]),(8,[.none,.none,.none,.none,.none,some (200517,true)]),(10,[.none]),(1000000,[.none]),(1000001,[.none]),(1000002,[.none]),(1000003,[.none])]⟩,ap 11 767)] k Tryz.f59 4
def Jh (c0:Int) (c1:List Cl) (t:Tm) (r1:List Cl×Int) (r2:List Tm×Int) (depth:Int) (b10_0:Int) (b8_5:List (Br Tm)) (v55:Int):St UU:=⟨[(2,(iI depth)),(3,(pt 3)),(6,(pt 6)),(8,(pt 8)),(10,(pt 10)),(53,(sB t.sys)),(54,(.int .i64 (t.sys.length:Int))),(55,(iI v55))],[(3,.cells [(.func 102 [] [(pt 1000000),(pt 1000001),(pt 1000002)]),(.func 102 [] [(pt 1000000),(pt 1000001),(pt 1000003)])]),(6,.cells [(iI 0),(iI 0),(.str ByteArray.empty),(.own 200387 0),(.own 200388 0),(.own 200389 0)]),(8,.cells [(iI t.kind),(iI t.n),(.str t.name),(sC r1.1),(sT r2.1),(.own 200517 0)]),(10,bI b10_0),(1000000,bI c0),(1000001,.cells [(sC c1)]),(1000002,.cells [(.func 105 [] [])]),(1000003,.cells [(.func 106 [] [])])],[(200517,⟨0,ET.B,b8_5⟩),(200389,⟨0,ET.B,([]:List (Br Tm))⟩),(200388,⟨0,ET.T,([]:List Tm)⟩),(200387,⟨0,ET.C,([]:List Cl)⟩)],[(200517,.wr),(200389,.wr),(200388,.wr),(200387,.wr)]⟩
section
variable {S:Type} (hd:cP S) (k:Nat) (t:Tm) (depth c0:Int) (c1:List Cl) (κ:Out UU→Option S)
theorem Ub (r1 r2): ∀n b10_0 b8_5 v55,(z7 hd k).lp κ 13 [] n (Jh c0 c1 t r1 r2 depth b10_0 b8_5 v55)=fw hd k (xW c0 c1 κ) c0 c1 t r1 r2 depth n b10_0 b8_5 v55:=jA (uj hd k (xW c0 c1 κ) c0 c1 t r1 r2 depth) rfl (fun _=>rfl) fun r b10_0 b8_5 v55=>by kernel_rfl
end
theorem BB {S:Type} (o:Obj) (ho:af o): ∀k:Nat,Tl o 59 (pr (dM k:cP S))
 |0=>e_ fun t depth c0 c1 κ x h=>by cases h
 |k+1=>ai (z7 (dM k) k) ⟨GP o ho k,WY o ho k,td (WZ o ho (dM k) (BB o ho k) k) (W4 o ho (dM k) (BB o ho k) k),trivial⟩ Tryz.func59 (by kernel_rfl) fun t depth c0 c1 κ x h=>Eq.trans (b:=Ee (dM k) k (xW c0 c1 κ) (fun r1 r2 b10_0 b8_5 v55=>(z7 (dM k) k).lp κ 13 [] k (Jh c0 c1 t r1 r2 depth b10_0 b8_5 v55)) t depth c0 c1) (by kernel_rfl) (Eq.trans (by simp only [Ub];rfl) h)
def LU {S:Type} (k:Nat):Rw S:=ag eJ xn fun i κ=>aa k (Ay k i) (abH κ)
def Sm {S:Type} (k:Nat):Fx S:=fp 8 [] [] k Tryz.f60 0
theorem W5 {S:Type} (o:Obj) (ho:af o) (k:Nat):Tl o 60 (LU k:Rw S):=ai (Sm k) trivial Tryz.func60 (by kernel_rfl) fun i κ x h=>Eq.trans (by kernel_rfl) (aj h)
def LV {S:Type} (k:Nat):Rw S:=ag kC xn fun s i κ=>aa k (nq k s i) (bQ κ)
def Sn {S:Type} (k:Nat):Fx S:=fp 24 [(130,tr k),(163,C7 k)] [] k Tryz.f113 0
theorem W6 {S:Type} (o:Obj) (ho:af o) (k:Nat):Tl o 113 (LV k:Rw S):=ai (Sn k) ⟨wL o ho k,GG o ho k,trivial⟩ Tryz.func113 (by kernel_rfl) fun s i κ x h=>Eq.trans (by kernel_rfl) (aj h)
def CF {S:Type} (k:Nat):Rw S:=ag X9 eS fun f depth c0 κ=>aa k (ni k f depth c0) (ti c0 κ)
def zg {S:Type} (k:Nat):Fx S:=fp 37 [(100,iC k),(113,LV k)] [(3,⟨[(1,.none),(2,.none),(7,some (100007,true)),(10,.none),(11,.none),(12,.none)],[(1000000,[.none])]⟩,ap 5 11)] k Tryz.f112 1
def H4 (c0 depth:Int) (f:List Cl) (v12:Int) (out7:List Cl):St UU:=⟨[(1,(iI depth)),(2,(pt 1000000)),(7,(.own 100007 0)),(10,(sC f)),(11,(.int .i64 (f.length:Int))),(12,(iI v12))],[(1000000,bI c0)],[(100007,⟨0,ET.C,out7⟩)],[(100007,.wr)]⟩
section
variable {S:Type} (k:Nat) (f:List Cl) (depth c0:Int) (κ:Out UU→Option S)
theorem Sr: ∀n v12 out7,(zg k).lp κ 3 [] n (H4 c0 depth f v12 out7)=nW k (ti c0 κ) c0 depth f n v12 out7:=aP (ue k (ti c0 κ) c0 depth f) rfl (fun _=>rfl) fun r v12 out7=>by kernel_rfl
end
theorem Gi {S:Type} (o:Obj) (ho:af o) (k:Nat):Tl o 112 (CF k:Rw S):=ai (zg k) ⟨ji o ho k,W6 o ho k,trivial⟩ Tryz.func112 (by kernel_rfl) fun f depth c0 κ x h=>Eq.trans (b:=D7 k (ti c0 κ) (fun v12 out7=>(zg k).lp κ 3 [] k (H4 c0 depth f v12 out7)) f depth c0) (by kernel_rfl) (Eq.trans (by simp only [Sr];rfl) (aj h))
def JQ {S:Type} (k:Nat):Rw S:=ag HJ eS fun t depth c0 κ=>aa k (vI k t depth c0) (ti c0 κ)
def P5 {S:Type} (k:Nat):Fx S:=fp 27 [(112,CF k)] [] k Tryz.f107 1
theorem U7 {S:Type} (o:Obj) (ho:af o) (k:Nat):Tl o 107 (JQ k:Rw S):=ai (P5 k) ⟨Gi o ho k,trivial⟩ Tryz.func107 (by kernel_rfl) fun t depth c0 κ x h=>Eq.trans (by kernel_rfl) (aj h)
def pa {S:Type} (hd:cQ S):Rw S:=ag HJ eS fun t depth c0 κ=>hd t depth c0 (xZ c0 κ)
def JR {S:Type} (hd:cQ S) (k:Nat):Rw S:=ag HK za fun l depth c0 c1 κ=>aa k (AD hd k l depth c0 c1) (x_ c0 c1 κ)
def zi {S:Type} (hd:cQ S) (k:Nat):Fx S:=fp 42 [(59,pa hd),(111,Dh k)] [(3,⟨[(2,.none),(3,.none),(4,.none),(10,some (100010,true)),(15,.none),(16,.none),(17,.none)],[(4,[.none,.none]),(1000000,[.none]),(1000001,[.none])]⟩,ap 5 11)] k Tryz.f108 2
def H6 (c0 c1:Int) (l:List Tm) (depth:Int) (out10:List Tm) (v17:Int):St UU:=⟨[(2,(iI depth)),(3,(.func 111 [] [(pt 1000001)])),(4,(pt 4)),(10,(.own 100010 0)),(15,(sT l)),(16,(.int .i64 (l.length:Int))),(17,(iI v17))],[(4,.cells [(.func 112 [] [(pt 1000000)]),(.func 112 [] [(pt 1000000)])]),(1000000,bI c0),(1000001,bI c1)],[(100010,⟨0,ET.T,out10⟩)],[(100010,.wr)]⟩
section
variable {S:Type} (hd:cQ S) (k:Nat) (l:List Tm) (depth c0 c1:Int) (κ:Out UU→Option S)
theorem Su: ∀n out10 v17,(zi hd k).lp κ 3 [] n (H6 c0 c1 l depth out10 v17)=kG hd k (x_ c0 c1 κ) c0 c1 l depth n out10 v17:=aP (uf hd k (x_ c0 c1 κ) c0 c1 l depth) rfl (fun _=>rfl) fun r out10 v17=>by kernel_rfl
end
theorem U8 {S:Type} (o:Obj) (ho:af o) (hd:cQ S) (Hd:Tl o 59 (pa hd)) (k:Nat):Tl o 108 (JR hd k:Rw S):=ai (zi hd k) ⟨Hd,GR o ho k,trivial⟩ Tryz.func108 (by kernel_rfl) fun l depth c0 c1 κ x h=>Eq.trans (b:=D9 hd k (x_ c0 c1 κ) (fun out10 v17=>(zi hd k).lp κ 3 [] k (H6 c0 c1 l depth out10 v17)) l depth c0 c1) (by kernel_rfl) (Eq.trans (by simp only [Su];rfl) (aj h))
def JS {S:Type} (hd:cQ S) (k:Nat):Rw S:=ag X_ aeJ fun l depth c0 c1 κ=>aa k (AE hd k l depth c0 c1) (ya c0 c1 κ)
def zj {S:Type} (hd:cQ S) (k:Nat):Fx S:=fp 42 [(59,pa hd),(109,Dg k)] [(3,⟨[(2,.none),(3,.none),(4,.none),(10,some (100010,true)),(15,.none),(16,.none),(17,.none)],[(4,[.none,.none]),(1000000,[.none]),(1000001,[.none,.none,.none,.none,.none,.none])]⟩,ap 5 11)] k Tryz.f108 2
def H7 (c0:Int) (c1:Tm) (l:List Tm) (depth:Int) (out10:List Tm) (v17:Int):St UU:=⟨[(2,(iI depth)),(3,(.func 109 [] [(pt 1000001)])),(4,(pt 4)),(10,(.own 100010 0)),(15,(sT l)),(16,(.int .i64 (l.length:Int))),(17,(iI v17))],[(4,.cells [(.func 112 [] [(pt 1000000)]),(.func 112 [] [(pt 1000000)])]),(1000000,bI c0),(1000001,bT c1)],[(100010,⟨0,ET.T,out10⟩)],[(100010,.wr)]⟩
section
variable {S:Type} (hd:cQ S) (k:Nat) (l:List Tm) (depth c0:Int) (c1:Tm) (κ:Out UU→Option S)
theorem Sv: ∀n out10 v17,(zj hd k).lp κ 3 [] n (H7 c0 c1 l depth out10 v17)=kH hd k (ya c0 c1 κ) c0 c1 l depth n out10 v17:=aP (ug hd k (ya c0 c1 κ) c0 c1 l depth) rfl (fun _=>rfl) fun r out10 v17=>by kernel_rfl
end
theorem U9 {S:Type} (o:Obj) (ho:af o) (hd:cQ S) (Hd:Tl o 59 (pa hd)) (k:Nat):Tl o 108 (JS hd k:Rw S):=ai (zj hd k) ⟨Hd,GQ o ho k,trivial⟩ Tryz.func108 (by kernel_rfl) fun l depth c0 c1 κ x h=>Eq.trans (b:=D_ hd k (ya c0 c1 κ) (fun out10 v17=>(zj hd k).lp κ 3 [] k (H7 c0 c1 l depth out10 v17)) l depth c0 c1) (by kernel_rfl) (Eq.trans (by simp only [Sv];rfl) (aj h))
def zh {S:Type} (hd:cQ S) (k:Nat):Fx S:=fp 98 [(107,JQ k),(108,mI (si HK za) (JR hd k) (JS hd k)),(112,CF k)] [(13,⟨[(2,.none),(3,.none),(6,.none),(8,.none),(10,.none),(53,.none),(54,.none),(55,.none)],[(3,[.none,.none]),(6,[.none,.none,.none,some (200387,true),some (200388,true),some (200389,true)]),(8,[.none,.none,.none,.none,.none,some (200517,true)]),(10,[.none]),(1000000,[.none])]⟩,ap 11 767)] k Tryz.f59 1
def H5 (c0:Int) (t:Tm) (r1:List Cl×Int) (r2:List Tm×Int) (depth:Int) (b10_0:Int) (b8_5:List (Br Tm)) (v55:Int):St UU:=⟨[(2,(iI depth)),(3,(pt 3)),(6,(pt 6)),(8,(pt 8)),(10,(pt 10)),(53,(sB t.sys)),(54,(.int .i64 (t.sys.length:Int))),(55,(iI v55))],[(3,.cells [(.func 112 [] [(pt 1000000)]),(.func 112 [] [(pt 1000000)])]),(6,.cells [(iI 0),(iI 0),(.str ByteArray.empty),(.own 200387 0),(.own 200388 0),(.own 200389 0)]),(8,.cells [(iI t.kind),(iI t.n),(.str t.name),(sC r1.1),(sT r2.1),(.own 200517 0)]),(10,bI b10_0),(1000000,bI c0)],[(200517,⟨0,ET.B,b8_5⟩),(200389,⟨0,ET.B,([]:List (Br Tm))⟩),(200388,⟨0,ET.T,([]:List Tm)⟩),(200387,⟨0,ET.C,([]:List Cl)⟩)],[(200517,.wr),(200389,.wr),(200388,.wr),(200387,.wr)]⟩
section
variable {S:Type} (hd:cQ S) (k:Nat) (t:Tm) (depth c0:Int) (κ:Out UU→Option S)
theorem Ss (r1 r2): ∀n b10_0 b8_5 v55,(zh hd k).lp κ 13 [] n (H5 c0 t r1 r2 depth b10_0 b8_5 v55)=fy hd k (xZ c0 κ) c0 t r1 r2 depth n b10_0 b8_5 v55:=jA (uk hd k (xZ c0 κ) c0 t r1 r2 depth) rfl (fun _=>rfl) fun r b10_0 b8_5 v55=>by kernel_rfl
end
theorem Bw {S:Type} (o:Obj) (ho:af o): ∀k:Nat,Tl o 59 (pa (dG k:cQ S))
 |0=>e_ fun t depth c0 κ x h=>by cases h
 |k+1=>ai (zh (dG k) k) ⟨U7 o ho k,td (U8 o ho (dG k) (Bw o ho k) k) (U9 o ho (dG k) (Bw o ho k) k),Gi o ho k,trivial⟩ Tryz.func59 (by kernel_rfl) fun t depth c0 κ x h=>Eq.trans (b:=Ef (dG k) k (xZ c0 κ) (fun r1 r2 b10_0 b8_5 v55=>(zh (dG k) k).lp κ 13 [] k (H5 c0 t r1 r2 depth b10_0 b8_5 v55)) t depth c0) (by kernel_rfl) (Eq.trans (by simp only [Ss];rfl) h)
def JT {S:Type} (k:Nat):Rw S:=ag BO xn fun t i a_r κ=>aa k (qZ k t i a_r) (cm κ)
def P6 {S:Type} (k:Nat):Fx S:=fp 48 [(56,Lq k),(57,pq k),(58,Lt k),(59,mI (si BQ FA) (pr (dM k)) (pa (dG k))),(60,LU k)] [] k Tryz.f19 0
theorem U_ {S:Type} (o:Obj) (ho:af o) (k:Nat):Tl o 19 (JT k:Rw S):=ai (P6 k) ⟨WA o ho k,sc o ho k,WD o ho k,td (BB o ho k) (Bw o ho k),W5 o ho k,trivial⟩ Tryz.func19 (by kernel_rfl) fun t i a_r κ x h=>Eq.trans (by kernel_rfl) (aj h)
def CG {S:Type} (k:Nat):Rw S:=ag Ya eS fun line a_r c0 κ=>aa k (iZ k line a_r c0) (JL κ)
def P7 {S:Type} (k:Nat):Fx S:=fp 44 [(19,JT k),(52,mN k),(85,lb k),(93,Ln k)] [] k Tryz.f54 1
theorem Gj {S:Type} (o:Obj) (ho:af o) (k:Nat):Tl o 54 (CG k:Rw S):=ai (P7 k) ⟨U_ o ho k,nO o ho k,lW o ho k,Wx o ho k,trivial⟩ Tryz.func54 (by kernel_rfl) fun line a_r c0 κ x h=>Eq.trans (by kernel_rfl) (aj h)
def JU {S:Type} (k:Nat):Rw S:=ag HE P0 fun c0 c1 c2 κ=>aa k (v_ k c0 c1 c2) (abI c0 c1 c2 κ)
def P8 {S:Type} (k:Nat):Fx S:=fp 11 [(141,yr (dv k))] [] k Tryz.f140 3
theorem Va {S:Type} (o:Obj) (ho:af o) (k:Nat):Tl o 140 (JU k:Rw S):=ai (P8 k) ⟨BA o ho k,trivial⟩ Tryz.func140 (by kernel_rfl) fun c0 c1 c2 κ x h=>Eq.trans (by kernel_rfl) (aj h)
def JV {S:Type} (k:Nat):Rw S:=ag Yb P0 fun t numbers c0 c1 c2 κ=>aa k (AQ k t numbers c0 c1 c2) (yb c0 c1 c2 κ)
def zk {S:Type} (k:Nat):Fx S:=⟨⟨30,(fun _=>[]),(fun _=>false),.none,fun|6=>true|7=>true|_=>false⟩,[(91,pn k),(140,JU k)],[(5,⟨[(2,.none),(6,.none),(7,.none),(17,.none),(18,.none),(19,.none)],[(1000000,[.none]),(1000001,[.none]),(1000002,[.none,.none,.none,.none,.none,.none]),(5000006,[.none,.none,.none,some (320200387,true),some (320200388,true),some (320200389,true)]),(5000007,[.none])]⟩,ap 5 11)],k,Tryz.f139,false,[],3,some (vq 16 189 Tryz.f189 k)⟩
def H8 (c0 c1:Int) (c2:Tm) (numbers:List Int) (v19:Int):St UU:=⟨[(2,(.func 140 [] [(pt 1000000),(pt 1000001),(pt 1000002)])),(6,(pt 5000006)),(7,(pt 5000007)),(17,(lg numbers .none)),(18,(.int .i64 (numbers.length:Int))),(19,(iI v19))],[(1000000,bI c0),(1000001,bI c1),(1000002,bT c2),(5000006,.cells [(iI 0),(iI 0),(.str ByteArray.empty),(.own 320200387 0),(.own 320200388 0),(.own 320200389 0)]),(5000007,bI 0)],[(320200389,⟨0,ET.B,([]:List (Br Tm))⟩),(320200388,⟨0,ET.T,([]:List Tm)⟩),(320200387,⟨0,ET.C,([]:List Cl)⟩)],[(320200389,.wr),(320200388,.wr),(320200387,.wr)]⟩
section
variable {S:Type} (k:Nat) (t:Tm) (numbers:List Int) (c0 c1:Int) (c2:Tm) (κ:Out UU→Option S)
theorem Sw: ∀n v19,(zk k).lp κ 5 [] n (H8 c0 c1 c2 numbers v19)=mf k (yb c0 c1 c2 κ) c0 c1 c2 numbers n v19:=ci (uC k (yb c0 c1 c2 κ) c0 c1 c2 numbers) rfl (fun _=>rfl) fun r v19=>by kernel_rfl
end
theorem Vb {S:Type} (o:Obj) (ho:af o) (k:Nat):Tl o 139 (JV k:Rw S):=Pp (zk k) rfl (FX o Tryz.func189 (by kernel_rfl)) ⟨sa o ho k,Va o ho k,trivial⟩ Tryz.func139 (by kernel_rfl) fun t numbers c0 c1 c2 κ x h=>Eq.trans (b:=Ey k (yb c0 c1 c2 κ) (fun v19=>(zk k).lp κ 5 [] k (H8 c0 c1 c2 numbers v19)) t numbers c0 c1 c2) (by kernel_rfl) (Eq.trans (by simp only [Sw];rfl) (aj h))
def JW {S:Type} (k:Nat):Rw S:=ag l_ xn fun t vars dims κ=>aa k (vZ k t vars dims) (cm κ)
def P9 {S:Type} (k:Nat):Fx S:=fp 18 [(139,JV k)] [] k Tryz.f92 0
theorem Vc {S:Type} (o:Obj) (ho:af o) (k:Nat):Tl o 92 (JW k:Rw S):=ai (P9 k) ⟨Vb o ho k,trivial⟩ Tryz.func92 (by kernel_rfl) fun t vars dims κ x h=>Eq.trans (by kernel_rfl) (aj h)
def pb {S:Type} (k:Nat):Rw S:=ag Yc eS fun t vars dims c0 κ=>aa k (b_ k t vars dims c0) (JL κ)
def Qa {S:Type} (k:Nat):Fx S:=fp 30 [(52,mN k),(85,lb k),(92,JW k)] [] k Tryz.f51 1
theorem rS {S:Type} (o:Obj) (ho:af o) (k:Nat):Tl o 51 (pb k:Rw S):=ai (Qa k) ⟨nO o ho k,lW o ho k,Vc o ho k,trivial⟩ Tryz.func51 (by kernel_rfl) fun t vars dims c0 κ x h=>Eq.trans (by kernel_rfl) (aj h)
def jG {S:Type} (k:Nat):Rw S:=ag HL xn fun kind kids κ=>aa k (bz k kind kids) (JM κ)
def Qb {S:Type} (k:Nat):Fx S:=fx 8 (fun _=>[]) (fun _=>false) [] [] k Tryz.f50 true [] 0
theorem ko {S:Type} (o:Obj) (ho:af o) (k:Nat):Tl o 50 (jG k:Rw S):=ai (Qb k) trivial Tryz.func50 (by kernel_rfl) fun kind kids κ x h=>Eq.trans (by kernel_rfl) (aj h)
def pc {S:Type} (k:Nat):Rw S:=ag HM eS fun t c0 κ=>aa k (dT k t c0) (abK κ)
def Qc {S:Type} (k:Nat):Fx S:=fp 28 [(52,mN k),(85,lb k),(91,pn k)] [] k Tryz.f55 1
theorem rT {S:Type} (o:Obj) (ho:af o) (k:Nat):Tl o 55 (pc k:Rw S):=ai (Qc k) ⟨nO o ho k,lW o ho k,sa o ho k,trivial⟩ Tryz.func55 (by kernel_rfl) fun t c0 κ x h=>Eq.trans (by kernel_rfl) (aj h)
def CH {S:Type} (k:Nat):Rw S:=ag HN xn fun line phi a a_end a_r κ=>aa k (qW k line phi a a_end a_r) (cm κ)
def Qd {S:Type} (k:Nat):Fx S:=fp 49 [(48,po k),(50,jG k),(51,pb k),(53,C8 k),(54,CG k),(55,pc k),(84,tu k),(85,lb k),(86,Lj k)] [] k Tryz.f41 0
theorem Gk {S:Type} (o:Obj) (ho:af o) (k:Nat):Tl o 41 (CH k:Rw S):=ai (Qd k) ⟨sb o ho k,ko o ho k,rS o ho k,GH o ho k,Gj o ho k,rT o ho k,wM o ho k,lW o ho k,Wt o ho k,trivial⟩ Tryz.func41 (by kernel_rfl) fun line phi a a_end a_r κ x h=>Eq.trans (by kernel_rfl) (aj h)
def CI {S:Type} (k:Nat):Rw S:=ag ma xn fun line phi a κ=>aa k (qV k line phi a) (cm κ)
def Qe {S:Type} (k:Nat):Fx S:=fp 17 [(41,CH k)] [] k Tryz.f11 0
theorem Gl {S:Type} (o:Obj) (ho:af o) (k:Nat):Tl o 11 (CI k:Rw S):=ai (Qe k) ⟨Gk o ho k,trivial⟩ Tryz.func11 (by kernel_rfl) fun line phi a κ x h=>Eq.trans (by kernel_rfl) (aj h)
def JY {S:Type} (k:Nat):Rw S:=ag Ye xn fun sys κ=>aa k (F7 k sys) (abL κ)
def Qf {S:Type} (k:Nat):Fx S:=fx 8 (fun _=>[]) (fun _=>false) [(50,jG k)] [] k Tryz.f49 true [] 0
theorem Ve {S:Type} (o:Obj) (ho:af o) (k:Nat):Tl o 49 (JY k:Rw S):=ai (Qf k) ⟨ko o ho k,trivial⟩ Tryz.func49 (by kernel_rfl) fun sys κ x h=>Eq.trans (by kernel_rfl) (aj h)
def JZ {S:Type} (k:Nat):Rw S:=ag Hu xn fun t a sys κ=>aa k (F6 k t a sys) (cm κ)
def zl {S:Type} (k:Nat):Fx S:=fp 76 [(48,po k),(49,JY k),(50,jG k),(51,pb k),(52,mN k),(53,C8 k),(54,CG k),(55,pc k)] [(4,⟨[(4,.none),(6,.none),(8,.none),(9,.none),(27,.none),(28,.none),(29,.none)],[(4,[.none,.none,.none,.none,.none,.none]),(6,[.none,.none,.none,some (200387,true),some (200388,true),some (200389,true)]),(9,[.none,.none,.none,some (200579,true),.none,some (200581,true)]),(19000,[.none])]⟩,ap 6 23)] k Tryz.f18 0
def H9 (a:Tm) (r5:Int×Int×ByteArray×List Tm) (sys:List (Br Tm)) (b19000_0:Int) (b9_5:List (Br Tm)) (v29:Int):St UU:=⟨[(4,(pt 4)),(6,(pt 6)),(8,(pt 19000)),(9,(pt 9)),(27,(sB sys)),(28,(.int .i64 (sys.length:Int))),(29,(iI v29))],[(4,bT a),(6,.cells [(iI 0),(iI 0),(.str ByteArray.empty),(.own 200387 0),(.own 200388 0),(.own 200389 0)]),(9,.cells [(iI r5.1),(iI r5.2.1),(.str r5.2.2.1),(.own 200579 0),(sT r5.2.2.2),(.own 200581 0)]),(19000,bI b19000_0)],[(200581,⟨0,ET.B,b9_5⟩),(200579,⟨0,ET.C,([]:List Cl)⟩),(200389,⟨0,ET.B,([]:List (Br Tm))⟩),(200388,⟨0,ET.T,([]:List Tm)⟩),(200387,⟨0,ET.C,([]:List Cl)⟩)],[(200581,.wr),(200579,.wr),(200389,.wr),(200388,.wr),(200387,.wr)]⟩
section
variable {S:Type} (k:Nat) (t a:Tm) (sys:List (Br Tm)) (κ:Out UU→Option S)
theorem Sx (r5): ∀n b19000_0 b9_5 v29,(zl k).lp κ 4 [] n (H9 a r5 sys b19000_0 b9_5 v29)=BS k (cm κ) a r5 sys n b19000_0 b9_5 v29:=jA (FL k (cm κ) a r5 sys) rfl (fun _=>rfl) fun r b19000_0 b9_5 v29=>by kernel_rfl
end
theorem Vf {S:Type} (o:Obj) (ho:af o) (k:Nat):Tl o 18 (JZ k:Rw S):=ai (zl k) ⟨sb o ho k,Ve o ho k,ko o ho k,rS o ho k,nO o ho k,GH o ho k,Gj o ho k,rT o ho k,trivial⟩ Tryz.func18 (by kernel_rfl) fun t a sys κ x h=>Eq.trans (b:=Nx k (cm κ) (fun r5 b19000_0 b9_5 v29=>(zl k).lp κ 4 [] k (H9 a r5 sys b19000_0 b9_5 v29)) t a sys) (by kernel_rfl) (Eq.trans (by simp only [Sx];rfl) (aj h))
def yf {S:Type} (k:Nat):Rw S:=ag gw xn fun a b κ=>aa k (hU k a b) (ar κ)
def zm {S:Type} (k:Nat):Fx S:=fp 26 [] [(4,aS [0,1,5] [],ap 5 11)] k Tryz.f24 0
def H_ (a b:List Cl) (i5:Int):St UU:=⟨[(0,(sC a)),(1,(sC b)),(5,(iI i5))],[],[],[]⟩
section
variable {S:Type} (k:Nat) (a b:List Cl) (κ:Out UU→Option S)
theorem Sy: ∀n i5,(zm k).lp κ 4 [] n (H_ a b i5)=ju k (ar κ) a b n i5:=ci (m6 k (ar κ) a b) rfl (fun _=>rfl) fun r i5=>by kernel_rfl
end
theorem A6 {S:Type} (o:Obj) (ho:af o) (k:Nat):Tl o 24 (yf k:Rw S):=ai (zm k) trivial Tryz.func24 (by kernel_rfl) fun a b κ x h=>Eq.trans (b:=yT k (ar κ) (fun i5=>(zm k).lp κ 4 [] k (H_ a b i5)) a b) (by kernel_rfl) (Eq.trans (by simp only [Sy];rfl) (aj h))
def pd {S:Type} (k:Nat):Rw S:=ag eJ xn fun a_n κ=>aa k (eD k a_n) (CB κ)
def Qg {S:Type} (k:Nat):Fx S:=fx 5 (fun _=>[]) (fun _=>false) [] [] k Tryz.f69 true [] 0
theorem rU {S:Type} (o:Obj) (ho:af o) (k:Nat):Tl o 69 (pd k:Rw S):=ai (Qg k) trivial Tryz.func69 (by kernel_rfl) fun a_n κ x h=>Eq.trans (by kernel_rfl) (aj h)
def J7 {S:Type} (k:Nat):Rw S:=ag dK xn fun a_r κ=>aa k (Ax k a_r) (abM κ)
def Qh {S:Type} (k:Nat):Fx S:=fx 13 (fun _=>[]) (fun _=>false) [(50,jG k),(69,pd k)] [] k Tryz.f71 true [] 0
theorem Vg {S:Type} (o:Obj) (ho:af o) (k:Nat):Tl o 71 (J7 k:Rw S):=ai (Qh k) ⟨ko o ho k,rU o ho k,trivial⟩ Tryz.func71 (by kernel_rfl) fun a_r κ x h=>Eq.trans (by kernel_rfl) (aj h)
def CJ {S:Type} (k:Nat):Rw S:=ag cn xn fun κ=>aa k (qU k) (JM κ)
def Qj {S:Type} (k:Nat):Fx S:=fx 37 (fun _=>[]) (fun _=>false) [(50,jG k),(69,pd k),(71,J7 k)] [] k Tryz.f31 true [] 0
theorem Gm {S:Type} (o:Obj) (ho:af o) (k:Nat):Tl o 31 (CJ k:Rw S):=ai (Qj k) ⟨ko o ho k,rU o ho k,Vg o ho k,trivial⟩ Tryz.func31 (by kernel_rfl) fun κ x h=>Eq.trans (by kernel_rfl) (aj h)
def J9 {S:Type} (k:Nat):Rw S:=ag l_ xn fun t vars dims κ=>aa k (F9 k t vars dims) (aJ κ)
def Qk {S:Type} (k:Nat):Fx S:=fp 28 [(80,CE k),(81,pm (fl k))] [] k Tryz.f37 0
theorem Vi {S:Type} (o:Obj) (ho:af o) (k:Nat):Tl o 37 (J9 k:Rw S):=ai (Qk k) ⟨Gg o ho k,Bz o ho k,trivial⟩ Tryz.func37 (by kernel_rfl) fun t vars dims κ x h=>Eq.trans (by kernel_rfl) (aj h)
def CK {S:Type} (k:Nat):Rw S:=ag cn xn fun κ=>aa k (g7 k) (ar κ)
def Ql {S:Type} (k:Nat):Fx S:=fp 75 [(11,CI k),(18,JZ k),(24,yf k),(31,CJ k),(37,J9 k)] [] k Tryz.f10 0
theorem Gn {S:Type} (o:Obj) (ho:af o) (k:Nat):Tl o 10 (CK k:Rw S):=ai (Ql k) ⟨Gl o ho k,Vf o ho k,A6 o ho k,Gm o ho k,Vi o ho k,trivial⟩ Tryz.func10 (by kernel_rfl) fun κ x h=>Eq.trans (by kernel_rfl) (aj h)
def CL {S:Type} (hd:gc S):Rw S:=ag fV xn fun t κ=>hd t (aJ κ)
def lq {S:Type} (hd:gc S) (k:Nat):Fx S:=fp 60 [(177,CL hd)] [(3,aS [1,3,4] [(1,6)],ap 5 11),(9,aS [1,3,6] [(1,6)],ap 6 23),(12,aS [1,3,6,7] [(1,6)],ap 12 1175)] k Tryz.f177 0
def B9 (t:Tm) (most3 i4:Int):St UU:=⟨[(1,(pt 1)),(3,(iI most3)),(4,(iI i4))],[(1,bT t)],[],[]⟩
def sH (t:Tm) (most3' i6:Int):St UU:=⟨[(1,(pt 1)),(3,(iI most3')),(6,(iI i6))],[(1,bT t)],[],[]⟩
def Ia (t:Tm) (i6:Int) (most3'' v7:Int):St UU:=⟨[(1,(pt 1)),(3,(iI most3'')),(6,(iI i6)),(7,(iI v7))],[(1,bT t)],[],[]⟩
section
variable {S:Type} (hd:gc S) (k:Nat) (t:Tm) (κ:Out UU→Option S)
theorem SB (i6 κ1): ∀n most3'' v7,(lq hd k).lp κ 12 [κ1] n (Ia t i6 most3'' v7)=jv hd k (aJ κ) (fun most3' i6=>κ1 (sH t most3' i6)) t i6 n most3'' v7:=aP (u4 hd k (aJ κ) t i6 (fun most3' i6=>κ1 (sH t most3' i6))) rfl (fun _=>rfl) fun r most3'' v7=>by kernel_rfl
theorem SA: ∀n most3' i6,(lq hd k).lp κ 9 [] n (sH t most3' i6)=gz hd k (aJ κ) t n most3' i6:=aP (fun own=>qz hd k (aJ κ) t (fun i6 most3'' v7=>jv hd k (aJ κ) own t i6 k most3'' v7) own) rfl (fun _=>rfl) fun r most3' i6=>Eq.trans (b:=qz hd k (aJ κ) t (fun i6 most3'' v7=>(lq hd k).lp κ 12 [r] k (Ia t i6 most3'' v7)) (fun most3' i6=>r (sH t most3' i6)) most3' i6) (by kernel_rfl) (by simp only [SB])
theorem Sz: ∀n most3 i4,(lq hd k).lp κ 3 [] n (B9 t most3 i4)=mo hd k (aJ κ) t n most3 i4:=aP (fun own=>qy hd k (aJ κ) t (fun most3' i6=>gz hd k (aJ κ) t k most3' i6) own) rfl (fun _=>rfl) fun r most3 i4=>Eq.trans (b:=qy hd k (aJ κ) t (fun most3' i6=>(lq hd k).lp κ 9 [] k (sH t most3' i6)) (fun most3 i4=>r (B9 t most3 i4)) most3 i4) (by kernel_rfl) (by simp only [SA])
end
theorem Hh {S:Type} (o:Obj) (ho:af o): ∀k:Nat,Tl o 177 (CL (hY k:gc S))
 |0=>e_ fun t κ x h=>by cases h
 |k+1=>ai (lq (hY k) k) ⟨Hh o ho k,trivial⟩ Tryz.func177 (by kernel_rfl) fun t κ x h=>Eq.trans (b:=EZ (hY k) k (aJ κ) (fun most3 i4=>(lq (hY k) k).lp κ 3 [] k (B9 t most3 i4)) t) (by kernel_rfl) (Eq.trans (by simp only [Sz];rfl) h)
def CM {S:Type} (hd:gf S):Rw S:=ag fV xn fun t κ=>hd t (aJ κ)
def lr {S:Type} (hd:gf S) (k:Nat):Fx S:=fp 53 [(178,CM hd)] [(3,aS [1,3,4] [(1,6)],ap 5 11),(7,aS [1,3,5] [(1,6)],ap 6 23),(10,aS [1,3,5,6] [(1,6)],ap 12 1175)] k Tryz.f178 0
def B_ (t:Tm) (v3 i4:Int):St UU:=⟨[(1,(pt 1)),(3,(iI v3)),(4,(iI i4))],[(1,bT t)],[],[]⟩
def sI (t:Tm) (v3' i5:Int):St UU:=⟨[(1,(pt 1)),(3,(iI v3')),(5,(iI i5))],[(1,bT t)],[],[]⟩
def Ib (t:Tm) (i5:Int) (v3'' v6:Int):St UU:=⟨[(1,(pt 1)),(3,(iI v3'')),(5,(iI i5)),(6,(iI v6))],[(1,bT t)],[],[]⟩
section
variable {S:Type} (hd:gf S) (k:Nat) (t:Tm) (κ:Out UU→Option S)
theorem SE (i5 κ1): ∀n v3'' v6,(lr hd k).lp κ 10 [κ1] n (Ib t i5 v3'' v6)=kS hd k (aJ κ) (fun v3' i5=>κ1 (sI t v3' i5)) t i5 n v3'' v6:=aP (u6 hd k (aJ κ) t i5 (fun v3' i5=>κ1 (sI t v3' i5))) rfl (fun _=>rfl) fun r v3'' v6=>by kernel_rfl
theorem SD: ∀n v3' i5,(lr hd k).lp κ 7 [] n (sI t v3' i5)=gA hd k (aJ κ) t n v3' i5:=aP (fun own=>qB hd k (aJ κ) t (fun i5 v3'' v6=>kS hd k (aJ κ) own t i5 k v3'' v6) own) rfl (fun _=>rfl) fun r v3' i5=>Eq.trans (b:=qB hd k (aJ κ) t (fun i5 v3'' v6=>(lr hd k).lp κ 10 [r] k (Ib t i5 v3'' v6)) (fun v3' i5=>r (sI t v3' i5)) v3' i5) (by kernel_rfl) (by simp only [SE])
theorem SC: ∀n v3 i4,(lr hd k).lp κ 3 [] n (B_ t v3 i4)=oC hd k (aJ κ) t n v3 i4:=aP (fun own=>qA hd k (aJ κ) t (fun v3' i5=>gA hd k (aJ κ) t k v3' i5) own) rfl (fun _=>rfl) fun r v3 i4=>Eq.trans (b:=qA hd k (aJ κ) t (fun v3' i5=>(lr hd k).lp κ 7 [] k (sI t v3' i5)) (fun v3 i4=>r (B_ t v3 i4)) v3 i4) (by kernel_rfl) (by simp only [SD])
end
theorem Hi {S:Type} (o:Obj) (ho:af o): ∀k:Nat,Tl o 178 (CM (h9 k:gf S))
 |0=>e_ fun t κ x h=>by cases h
 |k+1=>ai (lr (h9 k) k) ⟨Hi o ho k,trivial⟩ Tryz.func178 (by kernel_rfl) fun t κ x h=>Eq.trans (b:=E1 (h9 k) k (aJ κ) (fun v3 i4=>(lr (h9 k) k).lp κ 3 [] k (B_ t v3 i4)) t) (by kernel_rfl) (Eq.trans (by simp only [SC];rfl) h)
def J_ {S:Type} (k:Nat):Rw S:=ag fV xn fun t κ=>aa k (wq k t) (aJ κ)
def Qm {S:Type} (k:Nat):Fx S:=fp 9 [(177,CL (hY k)),(178,CM (h9 k))] [] k Tryz.f134 0
theorem Vj {S:Type} (o:Obj) (ho:af o) (k:Nat):Tl o 134 (J_ k:Rw S):=ai (Qm k) ⟨Hh o ho k,Hi o ho k,trivial⟩ Tryz.func134 (by kernel_rfl) fun t κ x h=>Eq.trans (by kernel_rfl) (aj h)
def Ka {S:Type} (k:Nat):Rw S:=ag eJ xn fun kind κ=>aa k (rx k kind) (aJ κ)
def Qn {S:Type} (k:Nat):Fx S:=fp 14 [] [] k Tryz.f119 0
theorem Vk {S:Type} (o:Obj) (ho:af o) (k:Nat):Tl o 119 (Ka k:Rw S):=ai (Qn k) trivial Tryz.func119 (by kernel_rfl) fun kind κ x h=>Eq.trans (by kernel_rfl) (aj h)
def Kb {S:Type} (k:Nat):Rw S:=ag eJ xn fun kind κ=>aa k (nD k kind) (aJ κ)
def Qo {S:Type} (k:Nat):Fx S:=fp 15 [] [] k Tryz.f179 0
theorem Vl {S:Type} (o:Obj) (ho:af o) (k:Nat):Tl o 179 (Kb k:Rw S):=ai (Qo k) trivial Tryz.func179 (by kernel_rfl) fun kind κ x h=>Eq.trans (by kernel_rfl) (aj h)
def Kc {S:Type} (k:Nat):Rw S:=ag Hv xn fun s κ=>aa k (wn k s) (ar κ)
def pK {S:Type} (k:Nat):Fx S:=fp 45 [] [(2,aS [0,3] [],ap 4 5),(1000006,aS [0,3,4] [],ap 10 805)] k Tryz.f180 0
def sJ (s:ByteArray) (i3:Int):St UU:=⟨[(0,(.str s)),(3,(iI i3))],[],[],[]⟩
def Ic (s:ByteArray) (i3:Int) (x1:UInt8):St UU:=⟨[(0,(.str s)),(3,(iI i3)),(4,(.int .u8 (x1.toNat:Int)))],[],[],[]⟩
section
variable {S:Type} (k:Nat) (s:ByteArray) (κ:Out UU→Option S)
theorem SG (i3 x1 κ0): ∀n,(pK k).jn κ 1000006 [κ0] n (Ic s i3 x1)=xp k (ar κ) (fun i3=>κ0 (sJ s i3)) s i3 x1 n:=kB (Ag k (ar κ) s i3 x1 (fun i3=>κ0 (sJ s i3))) rfl (fun _=>rfl) (by kernel_rfl)
theorem SF: ∀n i3,(pK k).lp κ 2 [] n (sJ s i3)=mr k (ar κ) s n i3:=ci (fun own=>qC k (ar κ) s (fun i3 x1=>xp k (ar κ) own s i3 x1 k) own) rfl (fun _=>rfl) fun r i3=>Eq.trans (b:=qC k (ar κ) s (fun i3 x1=>(pK k).jn κ 1000006 [r] k (Ic s i3 x1)) (fun i3=>r (sJ s i3)) i3) (by kernel_rfl) (by simp only [SG])
end
theorem Vm {S:Type} (o:Obj) (ho:af o) (k:Nat):Tl o 180 (Kc k:Rw S):=ai (pK k) trivial Tryz.func180 (by kernel_rfl) fun s κ x h=>Eq.trans (b:=E3 k (ar κ) (fun i3=>(pK k).lp κ 2 [] k (sJ s i3)) s) (by kernel_rfl) (Eq.trans (by simp only [SF];rfl) (aj h))
def yg {S:Type} (k:Nat):Rw S:=ag eJ xn fun a_n κ=>aa k (ny k a_n) (aJ κ)
def zn {S:Type} (k:Nat):Fx S:=fp 13 [] [(3,aS [0,3,4] [],ap 5 11)] k Tryz.f187 0
def Id (a_n:Int) (p3 i4:Int):St UU:=⟨[(0,(iI a_n)),(3,(iI p3)),(4,(iI i4))],[],[],[]⟩
section
variable {S:Type} (k:Nat) (a_n:Int) (κ:Out UU→Option S)
theorem SH: ∀n p3 i4,(zn k).lp κ 3 [] n (Id a_n p3 i4)=oi k (aJ κ) a_n n p3 i4:=aP (uJ k (aJ κ) a_n) rfl (fun _=>rfl) fun r p3 i4=>by kernel_rfl
end
theorem A7 {S:Type} (o:Obj) (ho:af o) (k:Nat):Tl o 187 (yg k:Rw S):=ai (zn k) trivial Tryz.func187 (by kernel_rfl) fun a_n κ x h=>Eq.trans (b:=EF k (aJ κ) (fun p3 i4=>(zn k).lp κ 3 [] k (Id a_n p3 i4)) a_n) (by kernel_rfl) (Eq.trans (by simp only [SH];rfl) (aj h))
end
end Go.Proofs.YtapmagaejigpnaaGreatDoor
