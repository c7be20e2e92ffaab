/- Part 6 of a proof: the sources, with their names and remarks, lie in wip/. -/
import Derived.Test.YtapmagaejigpnaaGreatDoorX5
namespace Go.Proofs.YtapmagaejigpnaaGreatDoor
open Go PI
set_option linter.unusedVariables false
set_option linter.unusedSimpArgs false
set_option maxRecDepth 100000
noncomputable section
abbrev Rw (S:Type):=List PU→List (Box UU)→(Out UU→Option S)→Option S
abbrev Kn (S:Type):=(Out UU→Option S)→Option S
noncomputable def iI (n:Int):PU:= .int .i64 n
noncomputable def iU (n:Int):PU:= .int .u32 n
noncomputable def pt (i:Nat):PU:= .ptr i 0
noncomputable def aT (t:Tm):PU:= .agg [.int .i64 t.kind,.int .i64 t.n,.str t.name,dC t.r .none,fw t.kids .none,gS t.sys .none]
noncomputable def aC (c:Cl):PU:= .agg [.int .u32 c.pos,.int .u32 c.neg]
noncomputable def aB (b:Br Tm):PU:= .agg [dC b.face .none,fw b.kids .none]
noncomputable def bT (t:Tm):Box UU:= .cells [.int .i64 t.kind,.int .i64 t.n,.str t.name,dC t.r .none,fw t.kids .none,gS t.sys .none]
noncomputable def bC (c:Cl):Box UU:= .cells [.int .u32 c.pos,.int .u32 c.neg]
noncomputable def bB (b:Br Tm):Box UU:= .cells [dC b.face .none,fw b.kids .none]
noncomputable def bI (n:Int):Box UU:= .cells [.int .i64 n]
noncomputable def bb (b:Bool):Box UU:= .cells [.bool b]
noncomputable def sC (l:List Cl):PU:=dC l .none
noncomputable def sT (l:List Tm):PU:=fw l .none
noncomputable def sB (l:List (Br Tm)):PU:=gS l .none
structure Cd where
 D:Type→Type
 k:{ρ:Type}→ρ→D ρ
 dec:{ρ:Type}→D ρ→PU→Option ρ
 A:{ρ:Type}→D ρ→(PU→ρ→Prop)→Prop
 law: ∀ {ρ:Type} (f:D ρ) (v:PU) (r:ρ) (Q:PU→ρ→Prop),A f Q→dec f v=some r→Q v r
structure Cs where
 D:Type→Type
 n:Nat
 k:{ρ:Type}→ρ→D ρ
 dec:{ρ:Type}→D ρ→List PU→Option ρ
 A:{ρ:Type}→D ρ→(List PU→ρ→Prop)→Prop
 law: ∀ {ρ:Type} (f:D ρ) (v:List PU) (r:ρ) (Q:List PU→ρ→Prop),A f Q→dec f v=some r→Q v r
 len: ∀ {ρ:Type} (f:D ρ) (v:List PU) (r:ρ),dec f v=some r→v.length=n
structure Bs where
 D:Type→Type
 n:Nat
 k:{ρ:Type}→ρ→D ρ
 dec:{ρ:Type}→D ρ→List (Box UU)→Option ρ
 A:{ρ:Type}→D ρ→(List (Box UU)→ρ→Prop)→Prop
 law: ∀ {ρ:Type} (f:D ρ) (v:List (Box UU)) (r:ρ) (Q:List (Box UU)→ρ→Prop),A f Q→dec f v=some r→Q v r
 len: ∀ {ρ:Type} (f:D ρ) (v:List (Box UU)) (r:ρ),dec f v=some r→v.length=n
noncomputable def cn:Cs where
 D ρ:=ρ
 n:=0
 k r:=r
 dec f:=fun|[]=>some f|_=> .none
 A f Q:=Q [] f
 law f v r Q h e:=by split at e<;>cases e;exact h
 len f v r e:=by split at e<;>cases e;rfl
noncomputable def cc (c:Cd) (s:Cs):Cs where
 D ρ:=c.D (s.D ρ)
 n:=s.n+1
 k r:=c.k (s.k r)
 dec f:=fun|v::l=>(c.dec f v).bind fun g=>s.dec g l|[]=> .none
 A f Q:=c.A f fun v g=>s.A g fun l r=>Q (v::l) r
 law f v r Q h e:=by
  split at e
  ·obtain ⟨g,h1,h2⟩:=Option.bind_eq_some_iff.1 e
   have:=s.law g _ r _ (c.law f _ g _ h h1) h2;exact this
  ·cases e
 len f v r e:=by
  split at e
  ·obtain ⟨g,h1,h2⟩:=Option.bind_eq_some_iff.1 e
   simp [s.len g _ r h2]
  ·cases e
noncomputable def xn:Bs where
 D ρ:=ρ
 n:=0
 k r:=r
 dec f:=fun|[]=>some f|_=> .none
 A f Q:=Q [] f
 law f v r Q h e:=by split at e<;>cases e;exact h
 len f v r e:=by split at e<;>cases e;rfl
noncomputable def xc (c:Cs) (s:Bs):Bs where
 D ρ:=c.D (s.D ρ)
 n:=s.n+1
 k r:=c.k (s.k r)
 dec f:=fun| .cells v::l=>(c.dec f v).bind fun g=>s.dec g l|_=> .none
 A f Q:=c.A f fun v g=>s.A g fun l r=>Q (.cells v::l) r
 law f v r Q h e:=by
  split at e
  ·obtain ⟨g,h1,h2⟩:=Option.bind_eq_some_iff.1 e
   have:=s.law g _ r _ (c.law f _ g _ h h1) h2;exact this
  ·cases e
 len f v r e:=by
  split at e
  ·obtain ⟨g,h1,h2⟩:=Option.bind_eq_some_iff.1 e
   simp [s.len g _ r h2]
  ·cases e
noncomputable def xm (s:Bs):Bs where
 D ρ:=List (Cl×Bool)→s.D ρ
 n:=s.n+1
 k r:=fun _=>s.k r
 dec f:=fun| .map .C m::l=>s.dec (f m) l|_=> .none
 A f Q:= ∀m:List (Cl×Bool),s.A (f m) fun l r=>Q (.map (U:=UU) ET.C m::l) r
 law f v r Q h e:=by
  split at e
  ·have:=s.law _ _ r _ (h _) e;exact this
  ·cases e
 len f v r e:=by
  split at e
  ·simp [s.len _ _ r e]
  ·cases e
noncomputable def cI:Cd where
 D ρ:=Int→ρ
 k r:=fun _=>r
 dec f:=fun| .int .i64 n=>some (f n)|_=> .none
 A f Q:= ∀n:Int,Q (iI n) (f n)
 law f v r Q h e:=by split at e<;>cases e;exact h _
noncomputable def cU:Cd where
 D ρ:=Int→ρ
 k r:=fun _=>r
 dec f:=fun| .int .u32 n=>some (f n)|_=> .none
 A f Q:= ∀n:Int,Q (iU n) (f n)
 law f v r Q h e:=by split at e<;>cases e;exact h _
noncomputable def cN (kd:IntKind):Cd where
 D ρ:=Int→ρ
 k r:=fun _=>r
 dec f:=fun| .int q n=>(match decEq q kd with| .isTrue _=>some (f n)| .isFalse _=> .none)|_=> .none
 A f Q:= ∀n:Int,Q (.int kd n) (f n)
 law f v r Q h e:=by
  split at e
  ·split at e
   ·rename_i hq _;subst hq;cases e;exact h _
   ·cases e
  ·cases e
noncomputable def cb:Cd where
 D ρ:=Bool→ρ
 k r:=fun _=>r
 dec f:=fun| .bool n=>some (f n)|_=> .none
 A f Q:= ∀n:Bool,Q (.bool n) (f n)
 law f v r Q h e:=by split at e<;>cases e;exact h _
noncomputable def cs:Cd where
 D ρ:=ByteArray→ρ
 k r:=fun _=>r
 dec f:=fun| .str n=>some (f n)|_=> .none
 A f Q:= ∀n:ByteArray,Q (.str n) (f n)
 law f v r Q h e:=by split at e<;>cases e;exact h _
noncomputable def lC:Cd where
 D ρ:=List Cl→ρ
 k r:=fun _=>r
 dec f:=fun| .sl .C n .none=>some (f n)|_=> .none
 A f Q:= ∀n:List Cl,Q (sC n) (f n)
 law f v r Q h e:=by split at e<;>cases e;exact h _
noncomputable def lT:Cd where
 D ρ:=List Tm→ρ
 k r:=fun _=>r
 dec f:=fun| .sl .T n .none=>some (f n)|_=> .none
 A f Q:= ∀n:List Tm,Q (sT n) (f n)
 law f v r Q h e:=by split at e<;>cases e;exact h _
noncomputable def lB:Cd where
 D ρ:=List (Br Tm)→ρ
 k r:=fun _=>r
 dec f:=fun| .sl .B n .none=>some (f n)|_=> .none
 A f Q:= ∀n:List (Br Tm),Q (sB n) (f n)
 law f v r Q h e:=by split at e<;>cases e;exact h _
noncomputable def lI:Cd where
 D ρ:=List Int→ρ
 k r:=fun _=>r
 dec f:=fun| .sl .I n .none=>some (f n)|_=> .none
 A f Q:= ∀n:List Int,Q (jZ n .none) (f n)
 law f v r Q h e:=by split at e<;>cases e;exact h _
noncomputable def lF:Cd where
 D ρ:=List (List Cl)→ρ
 k r:=fun _=>r
 dec f:=fun| .sl .F n .none=>some (f n)|_=> .none
 A f Q:= ∀n:List (List Cl),Q (wz n .none) (f n)
 law f v r Q h e:=by split at e<;>cases e;exact h _
noncomputable def hC:Cd where
 D ρ:=List Cl→ρ
 k r:=fun _=>r
 dec f:=fun| .fresh .C n=>some (f n)|_=> .none
 A f Q:= ∀n:List Cl,Q (zc n) (f n)
 law f v r Q h e:=by split at e<;>cases e;exact h _
noncomputable def cT:Cd where
 D ρ:=Tm→ρ
 k r:=fun _=>r
 dec f:=fun| .agg [.int .i64 a,.int .i64 b,.str c,.sl .C d .none,.sl .T e .none,.sl .B g .none]=>some (f (Tm.mk a b c d e g))|_=> .none
 A f Q:= ∀t:Tm,Q (aT t) (f t)
 law f v r Q h e:=by split at e<;>cases e;exact h (Tm.mk _ _ _ _ _ _)
noncomputable def cC:Cd where
 D ρ:=Cl→ρ
 k r:=fun _=>r
 dec f:=fun| .agg [.int .u32 a,.int .u32 b]=>some (f ⟨a,b⟩)|_=> .none
 A f Q:= ∀t:Cl,Q (aC t) (f t)
 law f v r Q h e:=by split at e<;>cases e;exact h (⟨_,_⟩)
noncomputable def cB:Cd where
 D ρ:=Br Tm→ρ
 k r:=fun _=>r
 dec f:=fun| .agg [.sl .C a .none,.sl .T b .none]=>some (f (Br.mk a b))|_=> .none
 A f Q:= ∀t:Br Tm,Q (aB t) (f t)
 law f v r Q h e:=by split at e<;>cases e;exact h (Br.mk _ _)
noncomputable def xT (s:Bs):Bs where
 D ρ:=Tm→s.D ρ
 n:=s.n+1
 k r:=fun _=>s.k r
 dec f:=fun| .cells [.int .i64 a,.int .i64 b,.str c,.sl .C d .none,.sl .T e .none,.sl .B g .none]::l=>s.dec (f (Tm.mk a b c d e g)) l|_=> .none
 A f Q:= ∀t:Tm,s.A (f t) fun l r=>Q (bT t::l) r
 law f v r Q h e:=by
  split at e
  ·have:=s.law _ _ r _ (h (Tm.mk _ _ _ _ _ _)) e;exact this
  ·cases e
 len f v r e:=by
  split at e
  ·simp [s.len _ _ r e]
  ·cases e
noncomputable def xC (s:Bs):Bs where
 D ρ:=Cl→s.D ρ
 n:=s.n+1
 k r:=fun _=>s.k r
 dec f:=fun| .cells [.int .u32 a,.int .u32 b]::l=>s.dec (f ⟨a,b⟩) l|_=> .none
 A f Q:= ∀t:Cl,s.A (f t) fun l r=>Q (bC t::l) r
 law f v r Q h e:=by
  split at e
  ·have:=s.law _ _ r _ (h (⟨_,_⟩)) e;exact this
  ·cases e
 len f v r e:=by
  split at e
  ·simp [s.len _ _ r e]
  ·cases e
noncomputable def xB (s:Bs):Bs where
 D ρ:=Br Tm→s.D ρ
 n:=s.n+1
 k r:=fun _=>s.k r
 dec f:=fun| .cells [.sl .C a .none,.sl .T b .none]::l=>s.dec (f (Br.mk a b)) l|_=> .none
 A f Q:= ∀t:Br Tm,s.A (f t) fun l r=>Q (bB t::l) r
 law f v r Q h e:=by
  split at e
  ·have:=s.law _ _ r _ (h (Br.mk _ _)) e;exact this
  ·cases e
 len f v r e:=by
  split at e
  ·simp [s.len _ _ r e]
  ·cases e
noncomputable def xI (s:Bs):Bs where
 D ρ:=Int→s.D ρ
 n:=s.n+1
 k r:=fun _=>s.k r
 dec f:=fun| .cells [.int .i64 a]::l=>s.dec (f a) l|_=> .none
 A f Q:= ∀t:Int,s.A (f t) fun l r=>Q (bI t::l) r
 law f v r Q h e:=by
  split at e
  ·have:=s.law _ _ r _ (h _) e;exact this
  ·cases e
 len f v r e:=by
  split at e
  ·simp [s.len _ _ r e]
  ·cases e
noncomputable def cp (i:Nat):Cd where
 D ρ:=ρ
 k r:=r
 dec f:=fun| .ptr j 0=>(match decEq j i with| .isTrue _=>some f| .isFalse _=> .none)|_=> .none
 A f Q:=Q (pt i) f
 law f v r Q h e:=by
  split at e
  ·split at e
   ·rename_i hq _;subst hq;cases e;exact h
   ·cases e
  ·cases e
noncomputable def cg (s:Cs):Cd where
 D ρ:=s.D ρ
 k r:=s.k r
 dec f:=fun| .agg l=>s.dec f l|_=> .none
 A f Q:=s.A f fun l r=>Q (.agg l) r
 law f v r Q h e:=by
  split at e
  ·have:=s.law f _ r _ h e;exact this
  ·cases e
noncomputable def cf (i:Nat) (s:Cs) (u:Cs):Cd where
 D ρ:=s.D (u.D ρ)
 k r:=s.k (u.k r)
 dec f:=fun| .func j l m=>(match decEq j i with| .isTrue _=>(s.dec f l).bind fun g=>u.dec g m| .isFalse _=> .none)|_=> .none
 A f Q:=s.A f fun l g=>u.A g fun m r=>Q (.func i l m) r
 law f v r Q h e:=by
  split at e
  ·split at e
   ·rename_i hq _
    subst hq
    obtain ⟨g,h1,h2⟩:=Option.bind_eq_some_iff.1 e
    have:=u.law g _ r _ (s.law f _ g _ h h1) h2;exact this
   ·cases e
  ·cases e
noncomputable def ag {S:Type} (K:Cs) (B:Bs) (F:K.D (B.D (Kn S))):Rw S:=fun vs bs κ=>(K.dec F vs).bind fun g=>(B.dec g bs).bind fun h=>h κ
noncomputable def ql (K:Cs) (B:Bs) (vs:List PU) (bs:List (Box UU)):Bool:=((K.dec (K.k (B.k ())) vs).bind fun g=>B.dec g bs).isSome
noncomputable def AA {S:Type} (K:Cs) (B:Bs) (F:K.D (B.D (Kn S))) (Q:List PU→List (Box UU)→Kn S→Prop):Prop:=K.A F fun vs g=>B.A g fun bs h=>Q vs bs h
theorem Ae {S:Type} {K:Cs} {B:Bs} {F:K.D (B.D (Kn S))} {Q:List PU→List (Box UU)→Kn S→Prop} (hA:AA K B F Q) {vs:List PU} {bs:List (Box UU)} {κ:Out UU→Option S} {x:S} (h:ag K B F vs bs κ=some x):
  ∃g,Q vs bs g∧g κ=some x∧vs.length=K.n∧bs.length=B.n:=by
 obtain ⟨g,h1,h2⟩:=Option.bind_eq_some_iff.1 h
 obtain ⟨u,h3,h4⟩:=Option.bind_eq_some_iff.1 h2
 have:=K.law F vs g _ hA h1
 have:=B.law g bs u _ this h3
 exact ⟨u,this,h4,K.len _ _ _ h1,B.len _ _ _ h3⟩
noncomputable def Tl {S:Type} (o:Obj) (f:Nat) (r:Rw S):Prop:= ∀vs bs κ x,r vs bs κ=some x→ ∃out,b9 (LL o) f vs bs out∧κ out=some x
noncomputable def re {S:Type}:List (Nat×Rw S)→Oracle UU S
 |[],_,_,_,_=> .none
 |(g,r)::l,f,vs,bs,κ=>bif Nat.beq f g then r vs bs κ else re l f vs bs κ
noncomputable def TA {S:Type} (o:Obj):List (Nat×Rw S)→Prop
 |[]=>True
 |(f,r)::l=>Tl o f r∧TA o l
theorem TA.tells {S:Type} {o:Obj}: ∀ {l:List (Nat×Rw S)},TA o l→(re l).Tells (b9 (LL o))
 |[],_,f,vs,bs,κ,x,h=>by cases h
 |(g,r)::l,hl,f,vs,bs,κ,x,h=>by
  unfold re at h
  cases hb:Nat.beq f g with
  |true=>
   rw [hb] at h
   have:=Nat.eq_of_beq_eq_true hb
   subst this
   exact hl.1 _ _ _ _ h
  |false=>
   rw [hb] at h
   exact TA.tells hl.2 _ _ _ _ _ h
noncomputable def lu {S:Type} (b:List PU→List (Box UU)→Bool) (r q:Rw S):Rw S:=fun vs bs κ=>bif b vs bs then r vs bs κ else q vs bs κ
theorem rh {S:Type} {o:Obj} {f:Nat} {b:List PU→List (Box UU)→Bool} {r q:Rw S} (h1:Tl o f r) (h2:Tl o f q):Tl o f (lu b r q):=fun vs bs κ x h=>by
 unfold lu at h
 rcases Re h with h|h
 ·exact h1 _ _ _ _ h
 ·exact h2 _ _ _ _ h
structure Fx (S:Type) where
 sd:Side UU
 rows:List (Nat×Rw S)
 loops:List (Nat×Ann×List Bool)
 k:Nat
 fn:Func
 kp:Bool
 hn:List Bool
 nb:Nat
 cd:Option (PU→Oracle UU S)
noncomputable def Df:List (Nat×Ann×List Bool)→Nat→Option Ann
 |[],_=> .none
 |(i,a,_)::l,n=>bif Nat.beq n i then some a else Df l n
noncomputable def zO:List (Nat×Ann×List Bool)→Nat→Ann×List Bool
 |[],_=>(⟨[],[]⟩,[])
 |(i,a)::l,n=>bif Nat.beq n i then a else zO l n
noncomputable def aN (rs:List Nat) (bs:List (Nat×Nat)):Ann:=⟨rs.map fun n=>(n,.none),bs.map fun p=>(p.1,List.replicate p.2 .none)⟩
noncomputable def ao:Nat→Nat→List Bool
 |0,_=>[]
 |n+1,b=>Nat.beq (b%2) 1::ao n (b/2)
noncomputable def fx {S:Type} (nt:Nat) (gv:Nat→List Bool) (ip:Nat→Bool) (rows:List (Nat×Rw S)) (loops:List (Nat×Ann×List Bool)) (k:Nat) (fn:Func) (kp:Bool) (hn:List Bool) (nb:Nat):Fx S:=
 ⟨⟨nt,gv,ip,.none,fun _=>false⟩,rows,loops,k,fn,kp,hn,nb,.none⟩
noncomputable def fp {S:Type} (nt:Nat) (rows:List (Nat×Rw S)) (loops:List (Nat×Ann×List Bool)) (k:Nat) (fn:Func) (nb:Nat):Fx S:=fx nt (fun _=>[]) (fun _=>false) rows loops k fn false [] nb
variable {S:Type}
noncomputable def Fx.oc (F:Fx S):Oracle UU S:=re F.rows
noncomputable def Fx.an (F:Fx S):Nat→Option Ann:=Df F.loops
noncomputable def Fx.go (F:Fx S) (c:Code) (σ:St UU) (κ:Ex UU→St UU→Option S):Option S:=PI.run VV F.sd F.oc F.an F.k c σ κ
noncomputable def Fx.kt (F:Fx S) (κ:Out UU→Option S) (p:List Bool) (κs:List (St UU→Option S)):Ex UU→St UU→Option S:=match F.cd with
 | .none=>jy VV F.sd F.oc F.an F.k (fb F.fn) p κs F.an (kF VV F.oc F.kp F.hn F.fn F.nb κ)
 |some C=>Fe VV F.sd F.oc F.an F.k (fb F.fn) p κs F.an (kF VV F.oc F.kp F.hn F.fn F.nb κ) (kD VV F.oc C F.kp F.hn F.fn F.nb κ)
noncomputable def Fx.run (F:Fx S) (vs:List PU) (bs:List (Box UU)) (κ:Out UU→Option S):Option S:=match F.cd with
 | .none=>Bf VV F.sd F.oc F.an F.k F.kp F.hn F.fn vs bs κ
 |some C=>Be VV F.sd F.oc F.an F.k C F.kp F.hn F.fn vs bs κ
noncomputable def Fx.A (F:Fx S) (i:Nat):Ann:=(zO F.loops i).1
noncomputable def Fx.p (F:Fx S) (i:Nat):List Bool:=(zO F.loops i).2
noncomputable def Fx.lp (F:Fx S) (κ:Out UU→Option S) (i:Nat) (κs:List (St UU→Option S)) (n:Nat) (σ:St UU):Option S:=
 qE (dr (F.A i)) (fun σ κ=>F.go (gq (fb F.fn) (F.p i++[false])) σ κ) n σ (F.kt κ (F.p i) κs)
noncomputable def Fx.st (F:Fx S) (κ:Out UU→Option S) (i:Nat) (κs:List (St UU→Option S)) (r:St UU→Option S) (σ:St UU):Option S:=
 F.go (gq (fb F.fn) (F.p i++[false])) σ (back (dr (F.A i)) r (F.kt κ (F.p i) κs))
noncomputable def Fx.jn (F:Fx S) (κ:Out UU→Option S) (i:Nat) (κs:List (St UU→Option S)) (n:Nat) (σ:St UU):Option S:=
 zr (fun σ κ=>F.go (gq (fb F.fn) (F.p i)) σ κ) n σ (F.kt κ (F.p i) κs)
noncomputable def Fx.sj (F:Fx S) (κ:Out UU→Option S) (i:Nat) (κs:List (St UU→Option S)) (σ:St UU):Option S:=F.go (gq (fb F.fn) (F.p i)) σ (F.kt κ (F.p i) κs)
theorem Fx.lp_succ (F:Fx S) (κ:Out UU→Option S) (i:Nat) (κs:List (St UU→Option S)) (n:Nat) (σ:St UU):F.lp κ i κs (n+1) σ=F.st κ i κs (fun τ=>F.lp κ i κs n τ) σ:=rfl
theorem Fx.jn_succ (F:Fx S) (κ:Out UU→Option S) (i:Nat) (κs:List (St UU→Option S)) (n:Nat) (σ:St UU):F.jn κ i κs (n+1) σ=F.sj κ i κs σ:=rfl
noncomputable def rf (F:Fx S) (n m:Nat):Bool:=(F.fn.name== "runtime.NumGoroutine")==false&&(F.fn.body.isNone==false&&(Nat.beq F.fn.ntmps F.sd.nt&&(Nat.ble F.sd.nt 1000000&&(Nat.ble n F.sd.nt&&Nat.ble m 1000000))))
theorem Ak {F:Fx S} {n m:Nat} (h:rf F n m=true):(F.fn.name== "runtime.NumGoroutine")=false∧F.fn.body.isNone=false∧F.fn.ntmps=F.sd.nt∧F.sd.nt≤1000000∧n≤F.sd.nt∧m≤1000000:=by
 unfold rf at h
 simp only [Bool.and_eq_true,beq_iff_eq] at h
 obtain ⟨h1,h2,h3,h4,h5,h6⟩:=h
 exact ⟨h1,h2,Nat.eq_of_beq_eq_true h3,Nat.le_of_ble_eq_true h4,Nat.le_of_ble_eq_true h5,Nat.le_of_ble_eq_true h6⟩
theorem ai {o:Obj} {K:Cs} {B:Bs} {R:K.D (B.D (Kn S))} (F:Fx S) {f:FuncId} (ht:TA o F.rows) (hf:Tryz.prog.funcs[f]? =some F.fn) (hb:rf F K.n B.n=true) (run:AA K B R fun vs bs g=> ∀κ x,g κ=some x→F.run vs bs κ=some x)
  (h1:F.sd.rcv= .none:=by rfl) (h2:F.sd.pin=(fun _=>false):=by rfl) (h3:F.cd= .none:=by rfl):Tl o f (ag K B R):=fun vs bs κ x h=>by
 obtain ⟨g,hg,hx,hl,hm⟩:=Ae run h
 have hr:=hg κ x hx
 unfold Fx.run at hr
 rw [h3] at hr
 obtain ⟨b1,b2,b3,b4,b5,b6⟩:=Ak hb
 exact sw (YA Ad (zn o) h1 h2 ht.tells hf b1 b2 b3 b4 (by omega) hr)
theorem eX {o:Obj} {K:Cs} {B:Bs} {R:K.D (B.D (Kn S))} {f:FuncId} (h0:AA K B R fun vs bs g=> ∀κ x,g κ=some x→False):Tl o f (ag K B R):=fun vs bs κ x h=>by
 obtain ⟨g,hg,hx,_⟩:=Ae h0 h
 exact (hg κ x hx).elim
noncomputable def tH (nt f:Nat) (fn:Func) (k:Nat):PU→Oracle UU S:=fun v g vs bs κ=>bif Nat.beq g f&&Nat.ble vs.length nt then Bg VV ⟨nt,fun _=>[],fun _=>false,.none,fun _=>false⟩ (re []) (fun _=> .none) k true [] fn v vs bs κ else .none
theorem Dv (o:Obj) {nt f:Nat} {fn:Func} {k:Nat} (hf:Tryz.prog.funcs[f]? =some fn) (hb:rf (fp nt [] [] k fn 0:Fx S) 0 0=true): ∀v u u',RcvOK v u u'→(tH (S:=S) nt f fn k v).Tells (g4 (LL o) (iX Tryz.prog u u')):=by
 intro v u u' hv g vs bs κ x h
 unfold tH at h
 cases hc:Nat.beq g f&&Nat.ble vs.length nt with
 |false=>rw [hc] at h;cases h
 |true=>
  rw [hc] at h
  rw [Bool.and_eq_true] at hc
  have:=Nat.eq_of_beq_eq_true hc.1
  subst this
  obtain ⟨b1,b2,b3,b4,_,_⟩:=Ak hb
  exact sw (YB Ad (zn o) rfl rfl (TA.tells (l:=[]) (o:=o) trivial) hf b1 b2 b3 b4 hv (Nat.le_of_ble_eq_true hc.2) h)
theorem Ml {o:Obj} {K:Cs} {B:Bs} {R:K.D (B.D (Kn S))} (F:Fx S) {f:FuncId} {C:PU→Oracle UU S} (h3:F.cd=some C) (hC: ∀v u u',RcvOK v u u'→(C v).Tells (g4 (LL o) (iX Tryz.prog u u'))) (ht:TA o F.rows) (hf:Tryz.prog.funcs[f]? =some F.fn) (hb:rf F K.n B.n=true)
  (run:AA K B R fun vs bs g=> ∀κ x,g κ=some x→F.run vs bs κ=some x) (h1:F.sd.rcv= .none:=by rfl):Tl o f (ag K B R):=fun vs bs κ x h=>by
 obtain ⟨g,hg,hx,hl,hm⟩:=Ae run h
 have hr:=hg κ x hx
 unfold Fx.run at hr
 rw [h3] at hr
 obtain ⟨b1,b2,b3,b4,b5,b6⟩:=Ak hb
 exact sw (Yy Ad (zn o) h1 ht.tells hC hf b1 b2 b3 b4 (by omega) (by omega) hr)
theorem lp0 {F:Fx S} {κ:Out UU→Option S} {i:Nat} {κs:List (St UU→Option S)} {mk:St UU} {l:Nat→Option S} (b:(Option S)→Option S) (h0:l 0= .none) (hs: ∀n,l (n+1)=b (l n)) (B: ∀ (r:St UU→Option S),F.st κ i κs r mk=b (r mk)): ∀ (n:Nat),F.lp κ i κs n mk=l n:=by
 intro n
 induction n with
 |zero=>intros;rw [h0];rfl
 |succ n ih=>
  intros
  rw [hs,Fx.lp_succ,B]
  exact congrArg (fun g=>b g) ih
theorem ju {F:Fx S} {κ:Out UU→Option S} {i:Nat} {κs:List (St UU→Option S)} {mk:St UU} {l:Nat→Option S} (b:Option S) (h0:l 0= .none) (hs: ∀n,l (n+1)=b) (B:F.sj κ i κs mk=b): ∀ (n:Nat),F.jn κ i κs n mk=l n:=by
 intro n
 cases n with
 |zero=>intros;rw [h0];rfl
 |succ n=>intros;rw [hs,Fx.jn_succ];exact B
theorem bY {F:Fx S} {κ:Out UU→Option S} {i:Nat} {κs:List (St UU→Option S)} {α0:Type} {mk:α0→St UU} {l:Nat→α0→Option S} (b:(α0→Option S)→α0→Option S) (h0:l 0=fun x0=> .none) (hs: ∀n,l (n+1)=b (l n)) (B: ∀ (r:St UU→Option S) x0,F.st κ i κs r (mk x0)=b (fun x0=>r (mk x0)) x0): ∀ (n:Nat) x0,F.lp κ i κs n (mk x0)=l n x0:=by
 intro n
 induction n with
 |zero=>intros;rw [h0];rfl
 |succ n ih=>
  intros
  rw [hs,Fx.lp_succ,B]
  exact congrArg (fun g=>b g _) (funext fun x0=>ih x0)
theorem qv {F:Fx S} {κ:Out UU→Option S} {i:Nat} {κs:List (St UU→Option S)} {α0:Type} {mk:α0→St UU} {l:Nat→α0→Option S} (b:α0→Option S) (h0:l 0=fun x0=> .none) (hs: ∀n,l (n+1)=b) (B: ∀x0,F.sj κ i κs (mk x0)=b x0): ∀ (n:Nat) x0,F.jn κ i κs n (mk x0)=l n x0:=by
 intro n
 cases n with
 |zero=>intros;rw [h0];rfl
 |succ n=>intros;rw [hs,Fx.jn_succ];exact B _
theorem aP {F:Fx S} {κ:Out UU→Option S} {i:Nat} {κs:List (St UU→Option S)} {α0 α1:Type} {mk:α0→α1→St UU} {l:Nat→α0→α1→Option S} (b:(α0→α1→Option S)→α0→α1→Option S) (h0:l 0=fun x0 x1=> .none) (hs: ∀n,l (n+1)=b (l n)) (B: ∀ (r:St UU→Option S) x0 x1,F.st κ i κs r (mk x0 x1)=b (fun x0 x1=>r (mk x0 x1)) x0 x1): ∀ (n:Nat) x0 x1,F.lp κ i κs n (mk x0 x1)=l n x0 x1:=by
 intro n
 induction n with
 |zero=>intros;rw [h0];rfl
 |succ n ih=>
  intros
  rw [hs,Fx.lp_succ,B]
  exact congrArg (fun g=>b g _ _) (funext fun x0=>funext fun x1=>ih x0 x1)
theorem EP {F:Fx S} {κ:Out UU→Option S} {i:Nat} {κs:List (St UU→Option S)} {α0 α1:Type} {mk:α0→α1→St UU} {l:Nat→α0→α1→Option S} (b:α0→α1→Option S) (h0:l 0=fun x0 x1=> .none) (hs: ∀n,l (n+1)=b) (B: ∀x0 x1,F.sj κ i κs (mk x0 x1)=b x0 x1): ∀ (n:Nat) x0 x1,F.jn κ i κs n (mk x0 x1)=l n x0 x1:=by
 intro n
 cases n with
 |zero=>intros;rw [h0];rfl
 |succ n=>intros;rw [hs,Fx.jn_succ];exact B _ _
theorem iA {F:Fx S} {κ:Out UU→Option S} {i:Nat} {κs:List (St UU→Option S)} {α0 α1 α2:Type} {mk:α0→α1→α2→St UU} {l:Nat→α0→α1→α2→Option S} (b:(α0→α1→α2→Option S)→α0→α1→α2→Option S) (h0:l 0=fun x0 x1 x2=> .none) (hs: ∀n,l (n+1)=b (l n)) (B: ∀ (r:St UU→Option S) x0 x1 x2,F.st κ i κs r (mk x0 x1 x2)=b (fun x0 x1 x2=>r (mk x0 x1 x2)) x0 x1 x2): ∀ (n:Nat) x0 x1 x2,F.lp κ i κs n (mk x0 x1 x2)=l n x0 x1 x2:=by
 intro n
 induction n with
 |zero=>intros;rw [h0];rfl
 |succ n ih=>
  intros
  rw [hs,Fx.lp_succ,B]
  exact congrArg (fun g=>b g _ _ _) (funext fun x0=>funext fun x1=>funext fun x2=>ih x0 x1 x2)
theorem jn3 {F:Fx S} {κ:Out UU→Option S} {i:Nat} {κs:List (St UU→Option S)} {α0 α1 α2:Type} {mk:α0→α1→α2→St UU} {l:Nat→α0→α1→α2→Option S} (b:α0→α1→α2→Option S) (h0:l 0=fun x0 x1 x2=> .none) (hs: ∀n,l (n+1)=b) (B: ∀x0 x1 x2,F.sj κ i κs (mk x0 x1 x2)=b x0 x1 x2): ∀ (n:Nat) x0 x1 x2,F.jn κ i κs n (mk x0 x1 x2)=l n x0 x1 x2:=by
 intro n
 cases n with
 |zero=>intros;rw [h0];rfl
 |succ n=>intros;rw [hs,Fx.jn_succ];exact B _ _ _
theorem lp4 {F:Fx S} {κ:Out UU→Option S} {i:Nat} {κs:List (St UU→Option S)} {α0 α1 α2 α3:Type} {mk:α0→α1→α2→α3→St UU} {l:Nat→α0→α1→α2→α3→Option S} (b:(α0→α1→α2→α3→Option S)→α0→α1→α2→α3→Option S) (h0:l 0=fun x0 x1 x2 x3=> .none) (hs: ∀n,l (n+1)=b (l n)) (B: ∀ (r:St UU→Option S) x0 x1 x2 x3,F.st κ i κs r (mk x0 x1 x2 x3)=b (fun x0 x1 x2 x3=>r (mk x0 x1 x2 x3)) x0 x1 x2 x3): ∀ (n:Nat) x0 x1 x2 x3,F.lp κ i κs n (mk x0 x1 x2 x3)=l n x0 x1 x2 x3:=by
 intro n
 induction n with
 |zero=>intros;rw [h0];rfl
 |succ n ih=>
  intros
  rw [hs,Fx.lp_succ,B]
  exact congrArg (fun g=>b g _ _ _ _) (funext fun x0=>funext fun x1=>funext fun x2=>funext fun x3=>ih x0 x1 x2 x3)
theorem jn4 {F:Fx S} {κ:Out UU→Option S} {i:Nat} {κs:List (St UU→Option S)} {α0 α1 α2 α3:Type} {mk:α0→α1→α2→α3→St UU} {l:Nat→α0→α1→α2→α3→Option S} (b:α0→α1→α2→α3→Option S) (h0:l 0=fun x0 x1 x2 x3=> .none) (hs: ∀n,l (n+1)=b) (B: ∀x0 x1 x2 x3,F.sj κ i κs (mk x0 x1 x2 x3)=b x0 x1 x2 x3): ∀ (n:Nat) x0 x1 x2 x3,F.jn κ i κs n (mk x0 x1 x2 x3)=l n x0 x1 x2 x3:=by
 intro n
 cases n with
 |zero=>intros;rw [h0];rfl
 |succ n=>intros;rw [hs,Fx.jn_succ];exact B _ _ _ _
theorem lp5 {F:Fx S} {κ:Out UU→Option S} {i:Nat} {κs:List (St UU→Option S)} {α0 α1 α2 α3 α4:Type} {mk:α0→α1→α2→α3→α4→St UU} {l:Nat→α0→α1→α2→α3→α4→Option S} (b:(α0→α1→α2→α3→α4→Option S)→α0→α1→α2→α3→α4→Option S) (h0:l 0=fun x0 x1 x2 x3 x4=> .none) (hs: ∀n,l (n+1)=b (l n)) (B: ∀ (r:St UU→Option S) x0 x1 x2 x3 x4,F.st κ i κs r (mk x0 x1 x2 x3 x4)=b (fun x0 x1 x2 x3 x4=>r (mk x0 x1 x2 x3 x4)) x0 x1 x2 x3 x4): ∀ (n:Nat) x0 x1 x2 x3 x4,F.lp κ i κs n (mk x0 x1 x2 x3 x4)=l n x0 x1 x2 x3 x4:=by
 intro n
 induction n with
 |zero=>intros;rw [h0];rfl
 |succ n ih=>
  intros
  rw [hs,Fx.lp_succ,B]
  exact congrArg (fun g=>b g _ _ _ _ _) (funext fun x0=>funext fun x1=>funext fun x2=>funext fun x3=>funext fun x4=>ih x0 x1 x2 x3 x4)
theorem jn5 {F:Fx S} {κ:Out UU→Option S} {i:Nat} {κs:List (St UU→Option S)} {α0 α1 α2 α3 α4:Type} {mk:α0→α1→α2→α3→α4→St UU} {l:Nat→α0→α1→α2→α3→α4→Option S} (b:α0→α1→α2→α3→α4→Option S) (h0:l 0=fun x0 x1 x2 x3 x4=> .none) (hs: ∀n,l (n+1)=b) (B: ∀x0 x1 x2 x3 x4,F.sj κ i κs (mk x0 x1 x2 x3 x4)=b x0 x1 x2 x3 x4): ∀ (n:Nat) x0 x1 x2 x3 x4,F.jn κ i κs n (mk x0 x1 x2 x3 x4)=l n x0 x1 x2 x3 x4:=by
 intro n
 cases n with
 |zero=>intros;rw [h0];rfl
 |succ n=>intros;rw [hs,Fx.jn_succ];exact B _ _ _ _ _
theorem lp6 {F:Fx S} {κ:Out UU→Option S} {i:Nat} {κs:List (St UU→Option S)} {α0 α1 α2 α3 α4 α5:Type} {mk:α0→α1→α2→α3→α4→α5→St UU} {l:Nat→α0→α1→α2→α3→α4→α5→Option S} (b:(α0→α1→α2→α3→α4→α5→Option S)→α0→α1→α2→α3→α4→α5→Option S) (h0:l 0=fun x0 x1 x2 x3 x4 x5=> .none) (hs: ∀n,l (n+1)=b (l n)) (B: ∀ (r:St UU→Option S) x0 x1 x2 x3 x4 x5,F.st κ i κs r (mk x0 x1 x2 x3 x4 x5)=b (fun x0 x1 x2 x3 x4 x5=>r (mk x0 x1 x2 x3 x4 x5)) x0 x1 x2 x3 x4 x5): ∀ (n:Nat) x0 x1 x2 x3 x4 x5,F.lp κ i κs n (mk x0 x1 x2 x3 x4 x5)=l n x0 x1 x2 x3 x4 x5:=by
 intro n
 induction n with
 |zero=>intros;rw [h0];rfl
 |succ n ih=>
  intros
  rw [hs,Fx.lp_succ,B]
  exact congrArg (fun g=>b g _ _ _ _ _ _) (funext fun x0=>funext fun x1=>funext fun x2=>funext fun x3=>funext fun x4=>funext fun x5=>ih x0 x1 x2 x3 x4 x5)
theorem jn6 {F:Fx S} {κ:Out UU→Option S} {i:Nat} {κs:List (St UU→Option S)} {α0 α1 α2 α3 α4 α5:Type} {mk:α0→α1→α2→α3→α4→α5→St UU} {l:Nat→α0→α1→α2→α3→α4→α5→Option S} (b:α0→α1→α2→α3→α4→α5→Option S) (h0:l 0=fun x0 x1 x2 x3 x4 x5=> .none) (hs: ∀n,l (n+1)=b) (B: ∀x0 x1 x2 x3 x4 x5,F.sj κ i κs (mk x0 x1 x2 x3 x4 x5)=b x0 x1 x2 x3 x4 x5): ∀ (n:Nat) x0 x1 x2 x3 x4 x5,F.jn κ i κs n (mk x0 x1 x2 x3 x4 x5)=l n x0 x1 x2 x3 x4 x5:=by
 intro n
 cases n with
 |zero=>intros;rw [h0];rfl
 |succ n=>intros;rw [hs,Fx.jn_succ];exact B _ _ _ _ _ _
theorem lp7 {F:Fx S} {κ:Out UU→Option S} {i:Nat} {κs:List (St UU→Option S)} {α0 α1 α2 α3 α4 α5 α6:Type} {mk:α0→α1→α2→α3→α4→α5→α6→St UU} {l:Nat→α0→α1→α2→α3→α4→α5→α6→Option S} (b:(α0→α1→α2→α3→α4→α5→α6→Option S)→α0→α1→α2→α3→α4→α5→α6→Option S) (h0:l 0=fun x0 x1 x2 x3 x4 x5 x6=> .none) (hs: ∀n,l (n+1)=b (l n)) (B: ∀ (r:St UU→Option S) x0 x1 x2 x3 x4 x5 x6,F.st κ i κs r (mk x0 x1 x2 x3 x4 x5 x6)=b (fun x0 x1 x2 x3 x4 x5 x6=>r (mk x0 x1 x2 x3 x4 x5 x6)) x0 x1 x2 x3 x4 x5 x6): ∀ (n:Nat) x0 x1 x2 x3 x4 x5 x6,F.lp κ i κs n (mk x0 x1 x2 x3 x4 x5 x6)=l n x0 x1 x2 x3 x4 x5 x6:=by
 intro n
 induction n with
 |zero=>intros;rw [h0];rfl
 |succ n ih=>
  intros
  rw [hs,Fx.lp_succ,B]
  exact congrArg (fun g=>b g _ _ _ _ _ _ _) (funext fun x0=>funext fun x1=>funext fun x2=>funext fun x3=>funext fun x4=>funext fun x5=>funext fun x6=>ih x0 x1 x2 x3 x4 x5 x6)
theorem jn7 {F:Fx S} {κ:Out UU→Option S} {i:Nat} {κs:List (St UU→Option S)} {α0 α1 α2 α3 α4 α5 α6:Type} {mk:α0→α1→α2→α3→α4→α5→α6→St UU} {l:Nat→α0→α1→α2→α3→α4→α5→α6→Option S} (b:α0→α1→α2→α3→α4→α5→α6→Option S) (h0:l 0=fun x0 x1 x2 x3 x4 x5 x6=> .none) (hs: ∀n,l (n+1)=b) (B: ∀x0 x1 x2 x3 x4 x5 x6,F.sj κ i κs (mk x0 x1 x2 x3 x4 x5 x6)=b x0 x1 x2 x3 x4 x5 x6): ∀ (n:Nat) x0 x1 x2 x3 x4 x5 x6,F.jn κ i κs n (mk x0 x1 x2 x3 x4 x5 x6)=l n x0 x1 x2 x3 x4 x5 x6:=by
 intro n
 cases n with
 |zero=>intros;rw [h0];rfl
 |succ n=>intros;rw [hs,Fx.jn_succ];exact B _ _ _ _ _ _ _
theorem lp8 {F:Fx S} {κ:Out UU→Option S} {i:Nat} {κs:List (St UU→Option S)} {α0 α1 α2 α3 α4 α5 α6 α7:Type} {mk:α0→α1→α2→α3→α4→α5→α6→α7→St UU} {l:Nat→α0→α1→α2→α3→α4→α5→α6→α7→Option S} (b:(α0→α1→α2→α3→α4→α5→α6→α7→Option S)→α0→α1→α2→α3→α4→α5→α6→α7→Option S) (h0:l 0=fun x0 x1 x2 x3 x4 x5 x6 x7=> .none) (hs: ∀n,l (n+1)=b (l n)) (B: ∀ (r:St UU→Option S) x0 x1 x2 x3 x4 x5 x6 x7,F.st κ i κs r (mk x0 x1 x2 x3 x4 x5 x6 x7)=b (fun x0 x1 x2 x3 x4 x5 x6 x7=>r (mk x0 x1 x2 x3 x4 x5 x6 x7)) x0 x1 x2 x3 x4 x5 x6 x7): ∀ (n:Nat) x0 x1 x2 x3 x4 x5 x6 x7,F.lp κ i κs n (mk x0 x1 x2 x3 x4 x5 x6 x7)=l n x0 x1 x2 x3 x4 x5 x6 x7:=by
 intro n
 induction n with
 |zero=>intros;rw [h0];rfl
 |succ n ih=>
  intros
  rw [hs,Fx.lp_succ,B]
  exact congrArg (fun g=>b g _ _ _ _ _ _ _ _) (funext fun x0=>funext fun x1=>funext fun x2=>funext fun x3=>funext fun x4=>funext fun x5=>funext fun x6=>funext fun x7=>ih x0 x1 x2 x3 x4 x5 x6 x7)
theorem jn8 {F:Fx S} {κ:Out UU→Option S} {i:Nat} {κs:List (St UU→Option S)} {α0 α1 α2 α3 α4 α5 α6 α7:Type} {mk:α0→α1→α2→α3→α4→α5→α6→α7→St UU} {l:Nat→α0→α1→α2→α3→α4→α5→α6→α7→Option S} (b:α0→α1→α2→α3→α4→α5→α6→α7→Option S) (h0:l 0=fun x0 x1 x2 x3 x4 x5 x6 x7=> .none) (hs: ∀n,l (n+1)=b) (B: ∀x0 x1 x2 x3 x4 x5 x6 x7,F.sj κ i κs (mk x0 x1 x2 x3 x4 x5 x6 x7)=b x0 x1 x2 x3 x4 x5 x6 x7): ∀ (n:Nat) x0 x1 x2 x3 x4 x5 x6 x7,F.jn κ i κs n (mk x0 x1 x2 x3 x4 x5 x6 x7)=l n x0 x1 x2 x3 x4 x5 x6 x7:=by
 intro n
 cases n with
 |zero=>intros;rw [h0];rfl
 |succ n=>intros;rw [hs,Fx.jn_succ];exact B _ _ _ _ _ _ _ _
theorem lp9 {F:Fx S} {κ:Out UU→Option S} {i:Nat} {κs:List (St UU→Option S)} {α0 α1 α2 α3 α4 α5 α6 α7 α8:Type} {mk:α0→α1→α2→α3→α4→α5→α6→α7→α8→St UU} {l:Nat→α0→α1→α2→α3→α4→α5→α6→α7→α8→Option S} (b:(α0→α1→α2→α3→α4→α5→α6→α7→α8→Option S)→α0→α1→α2→α3→α4→α5→α6→α7→α8→Option S) (h0:l 0=fun x0 x1 x2 x3 x4 x5 x6 x7 x8=> .none) (hs: ∀n,l (n+1)=b (l n)) (B: ∀ (r:St UU→Option S) x0 x1 x2 x3 x4 x5 x6 x7 x8,F.st κ i κs r (mk x0 x1 x2 x3 x4 x5 x6 x7 x8)=b (fun x0 x1 x2 x3 x4 x5 x6 x7 x8=>r (mk x0 x1 x2 x3 x4 x5 x6 x7 x8)) x0 x1 x2 x3 x4 x5 x6 x7 x8): ∀ (n:Nat) x0 x1 x2 x3 x4 x5 x6 x7 x8,F.lp κ i κs n (mk x0 x1 x2 x3 x4 x5 x6 x7 x8)=l n x0 x1 x2 x3 x4 x5 x6 x7 x8:=by
 intro n
 induction n with
 |zero=>intros;rw [h0];rfl
 |succ n ih=>
  intros
  rw [hs,Fx.lp_succ,B]
  exact congrArg (fun g=>b g _ _ _ _ _ _ _ _ _) (funext fun x0=>funext fun x1=>funext fun x2=>funext fun x3=>funext fun x4=>funext fun x5=>funext fun x6=>funext fun x7=>funext fun x8=>ih x0 x1 x2 x3 x4 x5 x6 x7 x8)
theorem jn9 {F:Fx S} {κ:Out UU→Option S} {i:Nat} {κs:List (St UU→Option S)} {α0 α1 α2 α3 α4 α5 α6 α7 α8:Type} {mk:α0→α1→α2→α3→α4→α5→α6→α7→α8→St UU} {l:Nat→α0→α1→α2→α3→α4→α5→α6→α7→α8→Option S} (b:α0→α1→α2→α3→α4→α5→α6→α7→α8→Option S) (h0:l 0=fun x0 x1 x2 x3 x4 x5 x6 x7 x8=> .none) (hs: ∀n,l (n+1)=b) (B: ∀x0 x1 x2 x3 x4 x5 x6 x7 x8,F.sj κ i κs (mk x0 x1 x2 x3 x4 x5 x6 x7 x8)=b x0 x1 x2 x3 x4 x5 x6 x7 x8): ∀ (n:Nat) x0 x1 x2 x3 x4 x5 x6 x7 x8,F.jn κ i κs n (mk x0 x1 x2 x3 x4 x5 x6 x7 x8)=l n x0 x1 x2 x3 x4 x5 x6 x7 x8:=by
 intro n
 cases n with
 |zero=>intros;rw [h0];rfl
 |succ n=>intros;rw [hs,Fx.jn_succ];exact B _ _ _ _ _ _ _ _ _
theorem abL {F:Fx S} {κ:Out UU→Option S} {i:Nat} {κs:List (St UU→Option S)} {α0 α1 α2 α3 α4 α5 α6 α7 α8 α9:Type} {mk:α0→α1→α2→α3→α4→α5→α6→α7→α8→α9→St UU} {l:Nat→α0→α1→α2→α3→α4→α5→α6→α7→α8→α9→Option S} (b:(α0→α1→α2→α3→α4→α5→α6→α7→α8→α9→Option S)→α0→α1→α2→α3→α4→α5→α6→α7→α8→α9→Option S) (h0:l 0=fun x0 x1 x2 x3 x4 x5 x6 x7 x8 x9=> .none) (hs: ∀n,l (n+1)=b (l n)) (B: ∀ (r:St UU→Option S) x0 x1 x2 x3 x4 x5 x6 x7 x8 x9,F.st κ i κs r (mk x0 x1 x2 x3 x4 x5 x6 x7 x8 x9)=b (fun x0 x1 x2 x3 x4 x5 x6 x7 x8 x9=>r (mk x0 x1 x2 x3 x4 x5 x6 x7 x8 x9)) x0 x1 x2 x3 x4 x5 x6 x7 x8 x9): ∀ (n:Nat) x0 x1 x2 x3 x4 x5 x6 x7 x8 x9,F.lp κ i κs n (mk x0 x1 x2 x3 x4 x5 x6 x7 x8 x9)=l n x0 x1 x2 x3 x4 x5 x6 x7 x8 x9:=by
 intro n
 induction n with
 |zero=>intros;rw [h0];rfl
 |succ n ih=>
  intros
  rw [hs,Fx.lp_succ,B]
  exact congrArg (fun g=>b g _ _ _ _ _ _ _ _ _ _) (funext fun x0=>funext fun x1=>funext fun x2=>funext fun x3=>funext fun x4=>funext fun x5=>funext fun x6=>funext fun x7=>funext fun x8=>funext fun x9=>ih x0 x1 x2 x3 x4 x5 x6 x7 x8 x9)
theorem abA {F:Fx S} {κ:Out UU→Option S} {i:Nat} {κs:List (St UU→Option S)} {α0 α1 α2 α3 α4 α5 α6 α7 α8 α9:Type} {mk:α0→α1→α2→α3→α4→α5→α6→α7→α8→α9→St UU} {l:Nat→α0→α1→α2→α3→α4→α5→α6→α7→α8→α9→Option S} (b:α0→α1→α2→α3→α4→α5→α6→α7→α8→α9→Option S) (h0:l 0=fun x0 x1 x2 x3 x4 x5 x6 x7 x8 x9=> .none) (hs: ∀n,l (n+1)=b) (B: ∀x0 x1 x2 x3 x4 x5 x6 x7 x8 x9,F.sj κ i κs (mk x0 x1 x2 x3 x4 x5 x6 x7 x8 x9)=b x0 x1 x2 x3 x4 x5 x6 x7 x8 x9): ∀ (n:Nat) x0 x1 x2 x3 x4 x5 x6 x7 x8 x9,F.jn κ i κs n (mk x0 x1 x2 x3 x4 x5 x6 x7 x8 x9)=l n x0 x1 x2 x3 x4 x5 x6 x7 x8 x9:=by
 intro n
 cases n with
 |zero=>intros;rw [h0];rfl
 |succ n=>intros;rw [hs,Fx.jn_succ];exact B _ _ _ _ _ _ _ _ _ _
end
end Go.Proofs.YtapmagaejigpnaaGreatDoor
namespace Go.Proofs.YtapmagaejigpnaaGreatDoor
open Go PI
set_option linter.unusedVariables false
set_option maxRecDepth 100000
noncomputable section
noncomputable def zt:Cs:=cc cT (cc cI cn)
noncomputable def ES:Cs:=cc cT (cc cT (cc lB cn))
noncomputable def EW:Cs:=cc cI (cc cI cn)
noncomputable def EZ:Cs:=cc cT (cc cI (cc cI (cc (cp 0) cn)))
noncomputable def e7:Bs:=xI xn
noncomputable def Uw:Cs:=cc cT (cc (cf 168 cn (cc (cp 0) cn)) cn)
noncomputable def UD:Cs:=cc cT (cc (cf 170 cn (cc (cp 0) cn)) cn)
noncomputable def MO:Bs:=xc (cc (cf 169 cn (cc (cp 1) (cc (cp 0) cn))) cn) (xI xn)
noncomputable def UL:Cs:=cc cT (cc (cp 0) (cc (cp 1) cn))
noncomputable def xX9:Bs:=xI (xc (cc (cf 169 cn (cc (cp 0) (cc (cp 1) cn))) cn) xn)
noncomputable def jv:Cs:=cc cT cn
noncomputable def ei:Cs:=cc cI cn
noncomputable def EU:Cs:=cc cs cn
noncomputable def qx:Cs:=cc cU cn
noncomputable def kJ:Cs:=cc cC cn
noncomputable def qy:Cs:=cc cC (cc cC cn)
noncomputable def zu:Cs:=cc cC (cc (cp 0) cn)
noncomputable def r_:Bs:=xC xn
noncomputable def EV:Cs:=cc lC (cc (cf 149 cn (cc (cp 0) cn)) cn)
noncomputable def aba:Bs:=xc (cc lC cn) xn
noncomputable def dy:Cs:=cc lC cn
noncomputable def fO:Cs:=cc lC (cc lC cn)
noncomputable def jx:Cs:=cc cU (cc cI cn)
noncomputable def zw:Cs:=cc lC (cc cI cn)
noncomputable def EX:Cs:=cc lC (cc (cf 132 cn cn) cn)
noncomputable def kK:Cs:=cc cT (cc cI (cc cI cn))
noncomputable def EY:Cs:=cc cT (cc cI (cc cI (cc cb cn)))
noncomputable def Uk:Cs:=cc cT (cc cI (cc cI (cc (cp 0) (cc (cp 1) (cc (cp 2) cn)))))
noncomputable def MK:Bs:=xI (xI (xc (cc cb cn) xn))
noncomputable def Ul:Cs:=cc cT (cc (cf 129 cn (cc (cp 0) (cc (cp 1) (cc (cp 2) cn)))) cn)
noncomputable def Um:Cs:=cc (cp 0) (cc cI cn)
noncomputable def E0:Cs:=cc lT cn
noncomputable def Un:Cs:=cc (cp 0) cn
noncomputable def E1:Cs:=cc lF cn
noncomputable def E2:Cs:=cc cU (cc cI (cc cI cn))
noncomputable def E3:Cs:=cc cC (cc cI (cc cI cn))
noncomputable def Uo:Cs:=cc hC (cc cC (cc (cp 0) (cc (cp 1) cn)))
noncomputable def wQ:Bs:=xI (xI xn)
noncomputable def Uq:Cs:=cc lC (cc hC (cc (cf 98 cn (cc (cp 0) (cc (cp 1) cn))) cn))
noncomputable def zx:Cs:=cc lC (cc cI (cc cI cn))
noncomputable def Ur:Cs:=cc (cp 0) (cc lC cn)
noncomputable def Us:Cs:=cc (cp 0) (cc lC (cc lC cn))
noncomputable def Ut:Cs:=cc (cg (cc cI (cc cI cn))) (cc lC (cc cI cn))
noncomputable def Uu:Cs:=cc (cg (cc cI (cc cI cn))) (cc cT (cc cI (cc cI cn)))
noncomputable def E4:Cs:=cc (cp 0) (cc (cp 1) (cc (cp 2) cn))
noncomputable def ML:Bs:=xI (xT (xI xn))
noncomputable def Uv:Cs:=cc cT (cc lI (cc (cf 142 cn (cc (cp 0) (cc (cp 1) (cc (cp 2) cn)))) cn))
noncomputable def zy:Cs:=cc cT (cc cI (cc lC cn))
noncomputable def E5:Cs:=cc (cf 105 cn cn) (cc (cp 0) (cc (cp 1) cn))
noncomputable def sa:Bs:=xI (xc (cc lC cn) xn)
noncomputable def Ux:Cs:=cc (cf 106 cn cn) (cc (cp 0) (cc (cp 1) cn))
noncomputable def Uy:Cs:=cc cI (cc lC cn)
noncomputable def Uz:Cs:=cc lC (cc (cf 200 cn cn) cn)
noncomputable def UA:Cs:=cc lC (cc (cf 201 cn (cc (cp 0) cn)) cn)
noncomputable def E6:Cs:=cc lC (cc cC cn)
noncomputable def UB:Cs:=cc lC (cc lC (cc (cf 197 cn cn) cn))
noncomputable def ve:Cs:=cc lC (cc cI (cc lC cn))
noncomputable def zz:Cs:=cc lC (cc cI (cc (cp 0) (cc (cp 1) (cc (cp 2) cn))))
noncomputable def abb:Bs:=xI (xc (cc lC cn) (xc (cc (cf 106 cn cn) cn) xn))
noncomputable def UC:Cs:=cc lC (cc cC (cc (cp 0) (cc (cp 1) cn)))
noncomputable def UE:Cs:=cc lC (cc lC (cc (cf 154 cn (cc (cp 0) (cc (cp 1) cn))) cn))
noncomputable def MM:Bs:=xI (xc (cc lC cn) (xc (cc (cf 105 cn cn) cn) xn))
noncomputable def zA:Cs:=cc (cg (cc (cf 102 cn (cc (cp 0) (cc (cp 1) (cc (cp 2) cn)))) (cc (cf 102 cn (cc (cp 0) (cc (cp 1) (cc (cp 3) cn)))) cn))) (cc cT (cc cI cn))
noncomputable def C7:Bs:=xI (xc (cc lC cn) (xc (cc (cf 105 cn cn) cn) (xc (cc (cf 106 cn cn) cn) xn)))
noncomputable def E7:Cs:=cc cI (cc (cp 0) cn)
noncomputable def abc:Bs:=xT xn
noncomputable def E8:Cs:=cc (cg (cc (cf 102 cn (cc (cp 0) (cc (cp 1) (cc (cp 2) cn)))) (cc (cf 102 cn (cc (cp 0) (cc (cp 1) (cc (cp 3) cn)))) cn))) (cc lT (cc cI (cc (cf 111 cn (cc (cp 4) cn)) cn)))
noncomputable def MN:Bs:=xI (xc (cc lC cn) (xc (cc (cf 105 cn cn) cn) (xc (cc (cf 106 cn cn) cn) (xI xn))))
noncomputable def UF:Cs:=cc (cg (cc (cf 102 cn (cc (cp 0) (cc (cp 1) (cc (cp 2) cn)))) (cc (cf 102 cn (cc (cp 0) (cc (cp 1) (cc (cp 3) cn)))) cn))) (cc lT (cc cI (cc (cf 109 cn (cc (cp 4) cn)) cn)))
noncomputable def abd:Bs:=xI (xc (cc lC cn) (xc (cc (cf 105 cn cn) cn) (xc (cc (cf 106 cn cn) cn) (xT xn))))
noncomputable def UG:Cs:=cc lC (cc cI (cc (cp 0) cn))
noncomputable def E9:Cs:=cc (cg (cc (cf 112 cn (cc (cp 0) cn)) (cc (cf 112 cn (cc (cp 0) cn)) cn))) (cc cT (cc cI cn))
noncomputable def E_:Cs:=cc (cg (cc (cf 112 cn (cc (cp 0) cn)) (cc (cf 112 cn (cc (cp 0) cn)) cn))) (cc lT (cc cI (cc (cf 111 cn (cc (cp 1) cn)) cn)))
noncomputable def UH:Cs:=cc (cg (cc (cf 112 cn (cc (cp 0) cn)) (cc (cf 112 cn (cc (cp 0) cn)) cn))) (cc lT (cc cI (cc (cf 109 cn (cc (cp 1) cn)) cn)))
noncomputable def abe:Bs:=xI (xT xn)
noncomputable def UI:Cs:=cc (cp 0) (cc cT (cc lC cn))
noncomputable def MP:Bs:=xI (xI (xT xn))
noncomputable def UJ:Cs:=cc cT (cc lI (cc (cf 140 cn (cc (cp 0) (cc (cp 1) (cc (cp 2) cn)))) cn))
noncomputable def UK:Cs:=cc (cp 0) (cc cT (cc cI (cc cI cn)))
noncomputable def Fa:Cs:=cc cI (cc lT cn)
noncomputable def UM:Cs:=cc (cp 0) (cc cT cn)
noncomputable def Fb:Cs:=cc cT (cc lC (cc cT (cc cC (cc lC cn))))
noncomputable def kL:Cs:=cc cT (cc lC (cc cT cn))
noncomputable def UN:Cs:=cc lB cn
noncomputable def UO:Cs:=cc lI cn
noncomputable def UP:Cs:=cc cT (cc cI (cc cI (cc cI (cc cI cn))))
noncomputable def UQ:Cs:=cc cU (cc cU cn)
noncomputable def UR:Cs:=cc lC (cc cb (cc cI (cc lC (cc cI cn))))
noncomputable def US:Cs:=cc cT (cc cI (cc lC (cc cI (cc cb cn))))
noncomputable def UT:Cs:=cc cT (cc lC cn)
noncomputable def UV:Cs:=cc cI (cc cT (cc cT cn))
noncomputable def UW:Cs:=cc cT (cc cT cn)
noncomputable def UX:Cs:=cc lT (cc lT cn)
noncomputable def UY:Cs:=cc cT (cc cI (cc cT (cc cI cn)))
noncomputable def aE {S:Type} (κ:Out UU→Option S):Int→Option S:=fun r=>κ (.ret (iI r) [])
noncomputable def aq {S:Type} (κ:Out UU→Option S):Bool→Option S:=fun r=>κ (.ret (.bool r) [])
noncomputable def iH {S:Type} (κ:Out UU→Option S):Int×Int→Option S:=fun r=>κ (.ret (.tuple [(iI r.1),(iI r.2)]) [])
noncomputable def eA {S:Type} (c0:Int) (κ:Out UU→Option S):Bool→Option S:=fun r=>κ (.ret (.bool r) [bI c0])
noncomputable def eT {S:Type} (κ:Out UU→Option S):Bool×Int→Option S:=fun r=>κ (.ret (.bool r.1) [.cells [(.func 169 [] [(pt 1),(pt 0)])],bI r.2])
noncomputable def Yg {S:Type} (κ:Out UU→Option S):Bool×Int→Option S:=fun r=>κ (.ret (.bool r.1) [bI r.2,.cells [(.func 169 [] [(pt 0),(pt 1)])]])
noncomputable def Hj {S:Type} (κ:Out UU→Option S):Cl→Option S:=fun r=>κ (.ret (aC r) [])
noncomputable def Hk {S:Type} (c0:Cl) (κ:Out UU→Option S):Bool→Option S:=fun r=>κ (.ret (.bool r) [bC c0])
noncomputable def vQ {S:Type} (c0:Cl) (κ:Out UU→Option S):Int→Option S:=fun r=>κ (.ret (iI r) [bC c0])
noncomputable def Yk {S:Type} (c0:List Cl) (κ:Out UU→Option S):Bool→Option S:=fun r=>κ (.ret (.bool r) [.cells [(sC c0)]])
noncomputable def ap {S:Type} (κ:Out UU→Option S):List Cl×Int→Option S:=fun r=>κ (.ret (.tuple [(sC r.1),(iI r.2)]) [])
noncomputable def bG {S:Type} (κ:Out UU→Option S):Int→Option S:=fun r=>κ (.ret (iU r) [])
noncomputable def eS {S:Type} (c0 c1:Int) (c2:Bool) (κ:Out UU→Option S):Bool→Option S:=fun r=>κ (.ret (.bool r) [bI c0,bI c1,.cells [(.bool c2)]])
noncomputable def X0 {S:Type} (κ:Out UU→Option S):Int→Option S:=fun r=>κ (.ret (.tuple []) [bI r])
noncomputable def vE {S:Type} (κ:Out UU→Option S):Int→Option S:=fun r=>κ (.ret (pt 0) [bI r])
noncomputable def X1 {S:Type} (κ:Out UU→Option S):List Cl→Option S:=fun r=>κ (.ret (zc r) [])
noncomputable def rk {S:Type} (κ:Out UU→Option S):Int×Int→Option S:=fun r=>κ (.ret (.tuple [(iU r.1),(iI r.2)]) [])
noncomputable def He {S:Type} (κ:Out UU→Option S):Cl×Int→Option S:=fun r=>κ (.ret (.tuple [(aC r.1),(iI r.2)]) [])
noncomputable def X2 {S:Type} (c0 c1:Int) (κ:Out UU→Option S):List Cl×Int→Option S:=fun r=>κ (.ret (.tuple [(zc r.1),(iI r.2)]) [bI c0,bI c1])
noncomputable def vF {S:Type} (c0 c1:Int) (κ:Out UU→Option S):List Cl×Int→Option S:=fun r=>κ (.ret (.tuple [(sC r.1),(iI r.2)]) [bI c0,bI c1])
noncomputable def Hf {S:Type} (κ:Out UU→Option S):List Cl×Int→Option S:=fun r=>κ (.ret (sC r.1) [bI r.2])
noncomputable def X3 {S:Type} (κ:Out UU→Option S):Pan Int (List Cl)→Option S:=fun r=>Pan.elim r (fun r=>κ (.ret (sC r) [])) (fun e=>κ (.panic (.iface 29 (iI e)) []))
noncomputable def dU {S:Type} (κ:Out UU→Option S):Pan Int Tm→Option S:=fun r=>Pan.elim r (fun r=>κ (.ret (aT r) [])) (fun e=>κ (.panic (.iface 29 (iI e)) []))
noncomputable def X4 {S:Type} (c0:Int) (c1:Tm) (c2:Int) (κ:Out UU→Option S):Pan Int Tm→Option S:=fun r=>Pan.elim r (fun r=>κ (.ret (aT r) [bI c0,bT c1,bI c2])) (fun e=>κ (.panic (.iface 29 (iI e)) [bI c0,bT c1,bI c2]))
noncomputable def vG {S:Type} (c0:Int) (c1:Tm) (c2:Int) (κ:Out UU→Option S):Tm×Int→Option S:=fun r=>κ (.ret (.tuple [(aT r.1),(iI r.2)]) [bI c0,bT c1,bI c2])
noncomputable def c7 {S:Type} (κ:Out UU→Option S):Tm×Int→Option S:=fun r=>κ (.ret (.tuple [(aT r.1),(iI r.2)]) [])
noncomputable def X5 {S:Type} (c0:Int) (c1:List Cl) (κ:Out UU→Option S):Unit→Option S:=fun r=>κ (.ret (.func 102 [] [(pt 0),(pt 1),(pt 2)]) [bI c0,.cells [(sC c1)],.cells [(.func 105 [] [])]])
noncomputable def X6 {S:Type} (c0:Int) (c1:List Cl) (κ:Out UU→Option S):Unit→Option S:=fun r=>κ (.ret (.func 102 [] [(pt 0),(pt 1),(pt 2)]) [bI c0,.cells [(sC c1)],.cells [(.func 106 [] [])]])
noncomputable def X7 {S:Type} (κ:Out UU→Option S):Int×List Cl→Option S:=fun r=>κ (.ret (.agg [(.func 102 [] [(pt 0),(pt 1),(pt 2)]),(.func 102 [] [(pt 0),(pt 1),(pt 3)])]) [bI r.1,.cells [(sC r.2)],.cells [(.func 105 [] [])],.cells [(.func 106 [] [])]])
noncomputable def ez {S:Type} (κ:Out UU→Option S):List Cl→Option S:=fun r=>κ (.ret (sC r) [])
noncomputable def X8 {S:Type} (κ:Out UU→Option S):Cl×Bool→Option S:=fun r=>κ (.ret (.tuple [(aC r.1),(.bool r.2)]) [])
noncomputable def X9 {S:Type} (c0:Cl) (κ:Out UU→Option S):Cl×Bool→Option S:=fun r=>κ (.ret (.tuple [(aC r.1),(.bool r.2)]) [bC c0])
noncomputable def vH {S:Type} (c0:Cl) (κ:Out UU→Option S):List Cl→Option S:=fun r=>κ (.ret (sC r) [bC c0])
noncomputable def X_ {S:Type} (c0:Int) (c1:List Cl) (κ:Out UU→Option S):List Cl×Int→Option S:=fun r=>κ (.ret (.tuple [(sC r.1),(iI r.2)]) [bI c0,.cells [(sC c1)],.cells [(.func 106 [] [])]])
noncomputable def rl {S:Type} (c0:Int) (c1:List Cl) (κ:Out UU→Option S):List Cl×Int→Option S:=fun r=>κ (.ret (.tuple [(sC r.1),(iI r.2)]) [bI c0,.cells [(sC c1)]])
noncomputable def Ya {S:Type} (c0:Int) (c1:List Cl) (κ:Out UU→Option S):List Cl×Int→Option S:=fun r=>κ (.ret (.tuple [(sC r.1),(iI r.2)]) [bI c0,.cells [(sC c1)],.cells [(.func 105 [] [])]])
noncomputable def Yb {S:Type} (c0:Int) (c1:List Cl) (κ:Out UU→Option S):List Cl×Int→Option S:=fun r=>κ (.ret (.tuple [(sC r.1),(iI r.2)]) [bI c0,.cells [(sC c1)],.cells [(.func 105 [] [])],.cells [(.func 106 [] [])]])
noncomputable def Yc {S:Type} (c0:Tm) (κ:Out UU→Option S):Int→Option S:=fun r=>κ (.ret (iI r) [bT c0])
noncomputable def Yd {S:Type} (c0:Int) (κ:Out UU→Option S):Int→Option S:=fun r=>κ (.ret (iI r) [bI c0])
noncomputable def vI {S:Type} (c0:Int) (c1:List Cl) (κ:Out UU→Option S):Tm×Int→Option S:=fun r=>κ (.ret (.tuple [(aT r.1),(iI r.2)]) [bI c0,.cells [(sC c1)],.cells [(.func 105 [] [])],.cells [(.func 106 [] [])]])
noncomputable def vJ {S:Type} (c0:Int) (c1:List Cl) (c4:Int) (κ:Out UU→Option S):List Tm×Int→Option S:=fun r=>κ (.ret (.tuple [(sT r.1),(iI r.2)]) [bI c0,.cells [(sC c1)],.cells [(.func 105 [] [])],.cells [(.func 106 [] [])],bI c4])
noncomputable def vK {S:Type} (c0:Int) (c1:List Cl) (c4:Tm) (κ:Out UU→Option S):List Tm×Int→Option S:=fun r=>κ (.ret (.tuple [(sT r.1),(iI r.2)]) [bI c0,.cells [(sC c1)],.cells [(.func 105 [] [])],.cells [(.func 106 [] [])],bT c4])
noncomputable def Ye {S:Type} (κ:Out UU→Option S):Int→Option S:=fun r=>κ (.ret (.agg [(.func 112 [] [(pt 0)]),(.func 112 [] [(pt 0)])]) [bI r])
noncomputable def rm {S:Type} (c0:Int) (κ:Out UU→Option S):List Cl×Int→Option S:=fun r=>κ (.ret (.tuple [(sC r.1),(iI r.2)]) [bI c0])
noncomputable def vL {S:Type} (c0:Int) (κ:Out UU→Option S):Tm×Int→Option S:=fun r=>κ (.ret (.tuple [(aT r.1),(iI r.2)]) [bI c0])
noncomputable def vM {S:Type} (c0 c1:Int) (κ:Out UU→Option S):List Tm×Int→Option S:=fun r=>κ (.ret (.tuple [(sT r.1),(iI r.2)]) [bI c0,bI c1])
noncomputable def vN {S:Type} (c0:Int) (c1:Tm) (κ:Out UU→Option S):List Tm×Int→Option S:=fun r=>κ (.ret (.tuple [(sT r.1),(iI r.2)]) [bI c0,bT c1])
noncomputable def Hg {S:Type} (κ:Out UU→Option S):Tm×Int→Option S:=fun r=>κ (.ret (aT r.1) [bI r.2])
noncomputable def Yf {S:Type} (c0 c1:Int) (c2:Tm) (κ:Out UU→Option S):Pan Int Tm→Option S:=fun r=>Pan.elim r (fun r=>κ (.ret (aT r) [bI c0,bI c1,bT c2])) (fun e=>κ (.panic (.iface 29 (iI e)) [bI c0,bI c1,bT c2]))
noncomputable def vO {S:Type} (c0 c1:Int) (c2:Tm) (κ:Out UU→Option S):Tm×Int→Option S:=fun r=>κ (.ret (.tuple [(aT r.1),(iI r.2)]) [bI c0,bI c1,bT c2])
noncomputable def Hh {S:Type} (κ:Out UU→Option S):Int×Int×ByteArray×List Tm→Option S:=fun r=>κ (.ret (.agg [(iI r.1),(iI r.2.1),(.str r.2.2.1),(dC [] .nil),(sT r.2.2.2),(gS [] .nil)]) [])
noncomputable def Yh {S:Type} (κ:Out UU→Option S):Tm×Int×Int→Option S:=fun r=>κ (.ret (.tuple [(aT r.1),(iI r.2.1)]) [bI r.2.2])
noncomputable def Yi {S:Type} (κ:Out UU→Option S):Int×Int×ByteArray×List Tm×List (Br Tm)→Option S:=fun r=>κ (.ret (.agg [(iI r.1),(iI r.2.1),(.str r.2.2.1),(dC [] .nil),(sT r.2.2.2.1),(sB r.2.2.2.2)]) [])
noncomputable def Hi {S:Type} (κ:Out UU→Option S):Int×Int×ByteArray→Option S:=fun r=>κ (.ret (.agg [(iI r.1),(iI r.2.1),(.str r.2.2),(dC [] .nil),(fw [] .nil),(gS [] .nil)]) [])
noncomputable def Yj {S:Type} (κ:Out UU→Option S):Int×Int×ByteArray×List Cl×List Tm→Option S:=fun r=>κ (.ret (.agg [(iI r.1),(iI r.2.1),(.str r.2.2.1),(sC r.2.2.2.1),(sT r.2.2.2.2),(gS [] .nil)]) [])
noncomputable def vP {S:Type} (κ:Out UU→Option S):List Int→Option S:=fun r=>κ (.ret (TZ r) [])
noncomputable def bp {S:Type} (κ:Out UU→Option S):Tm→Option S:=fun r=>κ (.ret (aT r) [])
end
end Go.Proofs.YtapmagaejigpnaaGreatDoor
namespace Go.Proofs.YtapmagaejigpnaaGreatDoor
open Go PI
set_option linter.unusedVariables false
set_option maxRecDepth 100000
noncomputable section
def Ar {S:Type} (hd:fB S):Rw S:=ag zt xn fun t most κ=>hd t most (aE κ)
def j8 {S:Type} (hd:fB S) (k:Nat):Fx S:=fp 119 [(40,Ar hd)] [(5,aN [1,2,5,6] [(2,6)],ao 6 23),(9,aN [1,2,5,7] [(2,6)],ao 7 47),(15,aN [1,2,5,7,8] [(2,6)],ao 15 14639)] k Tryz.f40 0
def zS (t:Tm) (most:Int) (v5 i6:Int):St UU:=⟨[(1,(iI most)),(2,(pt 2)),(5,(iI v5)),(6,(iI i6))],[(2,bT t)],[],[]⟩
def qG (t:Tm) (most:Int) (v5' i7:Int):St UU:=⟨[(1,(iI most)),(2,(pt 2)),(5,(iI v5')),(7,(iI i7))],[(2,bT t)],[],[]⟩
def Ft (t:Tm) (most i7:Int) (v5'' v8:Int):St UU:=⟨[(1,(iI most)),(2,(pt 2)),(5,(iI v5'')),(7,(iI i7)),(8,(iI v8))],[(2,bT t)],[],[]⟩
section
variable {S:Type} (hd:fB S) (k:Nat) (t:Tm) (most:Int) (κ:Out UU→Option S)
theorem O5 (i7 κ1): ∀n v5'' v8,(j8 hd k).lp κ 15 [κ1] n (Ft t most i7 v5'' v8)=ir hd k (aE κ) (fun v5' i7=>κ1 (qG t most v5' i7)) t most i7 n v5'' v8:=aP (tj hd k (aE κ) t most i7 (fun v5' i7=>κ1 (qG t most v5' i7))) rfl (fun _=>rfl) fun r v5'' v8=>by kernel_rfl
theorem O4: ∀n v5' i7,(j8 hd k).lp κ 9 [] n (qG t most v5' i7)=gI hd k (aE κ) t most n v5' i7:=aP (fun own=>oR hd k (aE κ) t most (fun i7 v5'' v8=>ir hd k (aE κ) own t most i7 k v5'' v8) own) rfl (fun _=>rfl) fun r v5' i7=>Eq.trans (b:=oR hd k (aE κ) t most (fun i7 v5'' v8=>(j8 hd k).lp κ 15 [r] k (Ft t most i7 v5'' v8)) (fun v5' i7=>r (qG t most v5' i7)) v5' i7) (by kernel_rfl) (by simp only [O5])
theorem O3: ∀n v5 i6,(j8 hd k).lp κ 5 [] n (zS t most v5 i6)=kY hd k (aE κ) t most n v5 i6:=aP (fun own=>oQ hd k (aE κ) t most (fun v5' i7=>gI hd k (aE κ) t most k v5' i7) own) rfl (fun _=>rfl) fun r v5 i6=>Eq.trans (b:=oQ hd k (aE κ) t most (fun v5' i7=>(j8 hd k).lp κ 9 [] k (qG t most v5' i7)) (fun v5 i6=>r (zS t most v5 i6)) v5 i6) (by kernel_rfl) (by simp only [O4])
end
theorem EA {S:Type} (o:Obj) (ho:af o): ∀k:Nat,Tl o 40 (Ar (dG k:fB S))
 |0=>eX fun t most κ x h=>by cases h
 |k+1=>ai (j8 (dG k) k) ⟨EA o ho k,trivial⟩ Tryz.func40 (by kernel_rfl) fun t most κ x h=>Eq.trans (b:=CB (dG k) k (aE κ) (fun v5 i6=>(j8 (dG k) k).lp κ 5 [] k (zS t most v5 i6)) t most) (by kernel_rfl) (Eq.trans (by simp only [O3];rfl) h)
def Hl {S:Type} (k:Nat):Rw S:=ag ES xn fun a b sys κ=>aa k (uh k a b sys) (aq κ)
def MV {S:Type} (k:Nat):Fx S:=fp 21 [(40,Ar (dG k))] [] k Tryz.f9 0
theorem RN {S:Type} (o:Obj) (ho:af o) (k:Nat):Tl o 9 (Hl k:Rw S):=ai (MV k) ⟨EA o ho k,trivial⟩ Tryz.func9 (by kernel_rfl) fun a b sys κ x h=>Eq.trans (by kernel_rfl) (aj h)
def nM {S:Type} (k:Nat):Rw S:=ag EW xn fun kind kid κ=>aa k (ji k kind kid) (iH κ)
def NW {S:Type} (k:Nat):Fx S:=fp 26 [] [] k Tryz.f110 0
theorem qf {S:Type} (o:Obj) (ho:af o) (k:Nat):Tl o 110 (nM k:Rw S):=ai (NW k) trivial Tryz.func110 (by kernel_rfl) fun kind kid κ x h=>Eq.trans (by kernel_rfl) (aj h)
def ry {S:Type} (hd:cR S):Rw S:=ag zt xn fun t left κ=>hd t left (aq κ)
def It {S:Type} (hd:cR S) (k:Nat):Rw S:=ag EZ e7 fun a_k p p' c0 κ=>aa k (p5 hd k a_k p p' c0) (eA c0 κ)
def Oe {S:Type} (hd:cR S) (k:Nat):Fx S:=fp 12 [(125,ry hd)] [] k Tryz.f168 1
theorem SV {S:Type} (o:Obj) (ho:af o) (hd:cR S) (Hd:Tl o 125 (ry hd)) (k:Nat):Tl o 168 (It hd k:Rw S):=ai (Oe hd k) ⟨Hd,trivial⟩ Tryz.func168 (by kernel_rfl) fun a_k p p' c0 κ x h=>Eq.trans (by kernel_rfl) (aj h)
def Iy {S:Type} (hd:cR S) (k:Nat):Rw S:=ag Uw e7 fun t c0 κ=>aa k (yN hd k t c0) (eA c0 κ)
def kg {S:Type} (hd:cR S) (k:Nat):Fx S:=fp 60 [(110,nM k),(168,It hd k)] [(2,aN [1,2,15,16,17] [(2,6),(1000000,1)],ao 4 5),(12,aN [1,9,40,41,42] [(1000000,1)],ao 7 47),(15,aN [1,9,40,41,42,47,48,49] [(1000000,1)],ao 15 13103)] k Tryz.f128 1
def z8 (c0:Int) (t:Tm) (v17:Int):St UU:=⟨[(1,(.func 168 [] [(pt 1000000)])),(2,(pt 2)),(15,(sT t.kids)),(16,(.int .i64 (t.kids.length:Int))),(17,(iI v17))],[(2,bT t),(1000000,bI c0)],[],[]⟩
def qV (c0:Int) (t:Tm) (v42 more9:Int):St UU:=⟨[(1,(.func 168 [] [(pt 1000000)])),(9,(iI more9)),(40,(sB t.sys)),(41,(.int .i64 (t.sys.length:Int))),(42,(iI v42))],[(1000000,bI c0)],[],[]⟩
def GA (c0:Int) (t:Tm) (v42:Int) (x4:(Br Tm)) (more9:Int) (v49:Int):St UU:=⟨[(1,(.func 168 [] [(pt 1000000)])),(9,(iI more9)),(40,(sB t.sys)),(41,(.int .i64 (t.sys.length:Int))),(42,(iI v42)),(47,(sT x4.kids)),(48,(.int .i64 (x4.kids.length:Int))),(49,(iI v49))],[(1000000,bI c0)],[],[]⟩
section
variable {S:Type} (hd:cR S) (k:Nat) (t:Tm) (c0:Int) (κ:Out UU→Option S)
theorem Qx (v42 x4 more9 κ1): ∀n v49,(kg hd k).lp κ 15 [κ1] n (GA c0 t v42 x4 more9 v49)=jO hd k (eA c0 κ) (fun v42 more9=>κ1 (qV c0 t v42 more9)) c0 t v42 x4 more9 n v49:=bY (tC hd k (eA c0 κ) c0 t v42 x4 more9 (fun v42 more9=>κ1 (qV c0 t v42 more9))) rfl (fun _=>rfl) fun r v49=>by kernel_rfl
theorem Qw: ∀n v42 more9,(kg hd k).lp κ 12 [] n (qV c0 t v42 more9)=fW hd k (eA c0 κ) c0 t n v42 more9:=aP (fun own=>pf hd k (eA c0 κ) c0 t (fun v42 x4 more9 v49=>jO hd k (eA c0 κ) own c0 t v42 x4 more9 k v49) own) rfl (fun _=>rfl) fun r v42 more9=>Eq.trans (b:=pf hd k (eA c0 κ) c0 t (fun v42 x4 more9 v49=>(kg hd k).lp κ 15 [r] k (GA c0 t v42 x4 more9 v49)) (fun v42 more9=>r (qV c0 t v42 more9)) v42 more9) (by kernel_rfl) (by simp only [Qx])
theorem Qv: ∀n v17,(kg hd k).lp κ 2 [] n (z8 c0 t v17)=nq hd k (eA c0 κ) c0 t n v17:=bY (fun own=>pe hd k (eA c0 κ) c0 t (fun v42 more9=>fW hd k (eA c0 κ) c0 t k v42 more9) own) rfl (fun _=>rfl) fun r v17=>Eq.trans (b:=pe hd k (eA c0 κ) c0 t (fun v42 more9=>(kg hd k).lp κ 12 [] k (qV c0 t v42 more9)) (fun v17=>r (z8 c0 t v17)) v17) (by kernel_rfl) (by simp only [Qw])
end
theorem S0 {S:Type} (o:Obj) (ho:af o) (hd:cR S) (Hd:Tl o 125 (ry hd)) (k:Nat):Tl o 128 (Iy hd k:Rw S):=ai (kg hd k) ⟨qf o ho k,SV o ho hd Hd k,trivial⟩ Tryz.func128 (by kernel_rfl) fun t c0 κ x h=>Eq.trans (b:=CU hd k (eA c0 κ) (fun v17=>(kg hd k).lp κ 2 [] k (z8 c0 t v17)) t c0) (by kernel_rfl) (Eq.trans (by simp only [Qv];rfl) (aj h))
def N7 {S:Type} (hd:cR S) (k:Nat):Fx S:=fp 12 [(128,Iy hd k)] [] k Tryz.f125 0
theorem EG {S:Type} (o:Obj) (ho:af o): ∀k:Nat,Tl o 125 (ry (gC k:cR S))
 |0=>eX fun t left κ x h=>by cases h
 |k+1=>ai (N7 (gC k) k) ⟨S0 o ho (gC k) (EG o ho k) k,trivial⟩ Tryz.func125 (by kernel_rfl) fun t left κ x h=>Eq.trans (by kernel_rfl) h
def wd {S:Type} (hd:cQ S):Rw S:=ag UD MO fun t c1 κ=>hd t c1 (eT κ)
def A0 {S:Type} (hd:cQ S) (k:Nat):Rw S:=ag UL xX9 fun t c0 κ=>aa k (mn hd k t c0) (Yg κ)
def OH {S:Type} (hd:cQ S) (k:Nat):Fx S:=fp 14 [(128,wd hd)] [] k Tryz.f169 2
theorem Ea {S:Type} (o:Obj) (ho:af o) (hd:cQ S) (Hd:Tl o 128 (wd hd)) (k:Nat):Tl o 169 (A0 hd k:Rw S):=ai (OH hd k) ⟨Hd,trivial⟩ Tryz.func169 (by kernel_rfl) fun t c0 κ x h=>Eq.trans (by kernel_rfl) (aj h)
def IV {S:Type} (hd:cQ S) (k:Nat):Rw S:=ag EZ MO fun a_k p p' c1 κ=>aa k (p7 hd k a_k p p' c1) (eT κ)
def ON {S:Type} (hd:cQ S) (k:Nat):Fx S:=fp 11 [(169,A0 hd k)] [] k Tryz.f170 2
theorem Tn {S:Type} (o:Obj) (ho:af o) (hd:cQ S) (Hd:Tl o 128 (wd hd)) (k:Nat):Tl o 170 (IV hd k:Rw S):=ai (ON hd k) ⟨Ea o ho hd Hd k,trivial⟩ Tryz.func170 (by kernel_rfl) fun a_k p p' c1 κ x h=>Eq.trans (by kernel_rfl) (aj h)
def kh {S:Type} (hd:cQ S) (k:Nat):Fx S:=fp 60 [(110,nM k),(170,IV hd k)] [(2,aN [1,2,15,16,17] [(2,6),(1000000,1),(1000001,1)],ao 4 5),(12,aN [1,9,40,41,42] [(1000000,1),(1000001,1)],ao 7 47),(15,aN [1,9,40,41,42,47,48,49] [(1000000,1),(1000001,1)],ao 15 13103)] k Tryz.f128 2
def z_ (t:Tm) (e1_0 v17:Int):St UU:=⟨[(1,(.func 170 [] [(pt 1000000)])),(2,(pt 2)),(15,(sT t.kids)),(16,(.int .i64 (t.kids.length:Int))),(17,(iI v17))],[(2,bT t),(1000000,.cells [(.func 169 [] [(pt 1000001),(pt 1000000)])]),(1000001,bI e1_0)],[],[]⟩
def qW (t:Tm) (e1_0' v42 more9:Int):St UU:=⟨[(1,(.func 170 [] [(pt 1000000)])),(9,(iI more9)),(40,(sB t.sys)),(41,(.int .i64 (t.sys.length:Int))),(42,(iI v42))],[(1000000,.cells [(.func 169 [] [(pt 1000001),(pt 1000000)])]),(1000001,bI e1_0')],[],[]⟩
def GB (t:Tm) (v42:Int) (x4:(Br Tm)) (more9:Int) (e1_0'' v49:Int):St UU:=⟨[(1,(.func 170 [] [(pt 1000000)])),(9,(iI more9)),(40,(sB t.sys)),(41,(.int .i64 (t.sys.length:Int))),(42,(iI v42)),(47,(sT x4.kids)),(48,(.int .i64 (x4.kids.length:Int))),(49,(iI v49))],[(1000000,.cells [(.func 169 [] [(pt 1000001),(pt 1000000)])]),(1000001,bI e1_0'')],[],[]⟩
section
variable {S:Type} (hd:cQ S) (k:Nat) (t:Tm) (c1:Int) (κ:Out UU→Option S)
theorem QA (v42 x4 more9 κ1): ∀n e1_0'' v49,(kh hd k).lp κ 15 [κ1] n (GB t v42 x4 more9 e1_0'' v49)=fU hd k (eT κ) (fun e1_0' v42 more9=>κ1 (qW t e1_0' v42 more9)) t v42 x4 more9 n e1_0'' v49:=aP (tA hd k (eT κ) t v42 x4 more9 (fun e1_0' v42 more9=>κ1 (qW t e1_0' v42 more9))) rfl (fun _=>rfl) fun r e1_0'' v49=>by kernel_rfl
theorem Qz: ∀n e1_0' v42 more9,(kh hd k).lp κ 12 [] n (qW t e1_0' v42 more9)=eN hd k (eT κ) t n e1_0' v42 more9:=iA (fun own=>pb hd k (eT κ) t (fun v42 x4 more9 e1_0'' v49=>fU hd k (eT κ) own t v42 x4 more9 k e1_0'' v49) own) rfl (fun _=>rfl) fun r e1_0' v42 more9=>Eq.trans (b:=pb hd k (eT κ) t (fun v42 x4 more9 e1_0'' v49=>(kh hd k).lp κ 15 [r] k (GB t v42 x4 more9 e1_0'' v49)) (fun e1_0' v42 more9=>r (qW t e1_0' v42 more9)) e1_0' v42 more9) (by kernel_rfl) (by simp only [QA])
theorem Qy: ∀n e1_0 v17,(kh hd k).lp κ 2 [] n (z_ t e1_0 v17)=lb hd k (eT κ) t n e1_0 v17:=aP (fun own=>pa hd k (eT κ) t (fun e1_0' v42 more9=>eN hd k (eT κ) t k e1_0' v42 more9) own) rfl (fun _=>rfl) fun r e1_0 v17=>Eq.trans (b:=pa hd k (eT κ) t (fun e1_0' v42 more9=>(kh hd k).lp κ 12 [] k (qW t e1_0' v42 more9)) (fun e1_0 v17=>r (z_ t e1_0 v17)) e1_0 v17) (by kernel_rfl) (by simp only [Qz])
end
theorem EH {S:Type} (o:Obj) (ho:af o): ∀k:Nat,Tl o 128 (wd (ee k:cQ S))
 |0=>eX fun t c1 κ x h=>by cases h
 |k+1=>ai (kh (ee k) k) ⟨qf o ho k,Tn o ho (ee k) (EH o ho k) k,trivial⟩ Tryz.func128 (by kernel_rfl) fun t c1 κ x h=>Eq.trans (b:=CS (ee k) k (eT κ) (fun e1_0 v17=>(kh (ee k) k).lp κ 2 [] k (z_ t e1_0 v17)) t c1) (by kernel_rfl) (Eq.trans (by simp only [Qy];rfl) h)
def I4 {S:Type} (k:Nat):Rw S:=ag zt xn fun t most κ=>aa k (uI k t most) (aq κ)
def OV {S:Type} (k:Nat):Fx S:=fp 10 [(169,A0 (ee k) k)] [] k Tryz.f126 0
theorem Tw {S:Type} (o:Obj) (ho:af o) (k:Nat):Tl o 126 (I4 k:Rw S):=ai (OV k) ⟨Ea o ho (ee k) (EH o ho k) k,trivial⟩ Tryz.func126 (by kernel_rfl) fun t most κ x h=>Eq.trans (by kernel_rfl) (aj h)
def As {S:Type} (k:Nat):Rw S:=ag jv xn fun t κ=>aa k (p6 k t) (aE κ)
def MW {S:Type} (k:Nat):Fx S:=fp 11 [(125,ry (gC k)),(126,I4 k)] [] k Tryz.f80 0
theorem DI {S:Type} (o:Obj) (ho:af o) (k:Nat):Tl o 80 (As k:Rw S):=ai (MW k) ⟨EG o ho k,Tw o ho k,trivial⟩ Tryz.func80 (by kernel_rfl) fun t κ x h=>Eq.trans (by kernel_rfl) (aj h)
def Ht {S:Type} (k:Nat):Rw S:=ag ei xn fun kind κ=>aa k (uF k kind) (aE κ)
def M2 {S:Type} (k:Nat):Fx S:=fp 38 [] [] k Tryz.f171 0
theorem RV {S:Type} (o:Obj) (ho:af o) (k:Nat):Tl o 171 (Ht k:Rw S):=ai (M2 k) trivial Tryz.func171 (by kernel_rfl) fun kind κ x h=>Eq.trans (by kernel_rfl) (aj h)
def Hx {S:Type} (k:Nat):Rw S:=ag ei xn fun kind κ=>aa k (jk k kind) (aE κ)
def Na {S:Type} (k:Nat):Fx S:=fp 10 [] [] k Tryz.f172 0
theorem RZ {S:Type} (o:Obj) (ho:af o) (k:Nat):Tl o 172 (Hx k:Rw S):=ai (Na k) trivial Tryz.func172 (by kernel_rfl) fun kind κ x h=>Eq.trans (by kernel_rfl) (aj h)
def HF {S:Type} (k:Nat):Rw S:=ag EU xn fun s κ=>aa k (uH k s) (aq κ)
def n9 {S:Type} (k:Nat):Fx S:=fp 49 [] [(2,aN [0,7,8] [],ao 4 5),(1000006,aN [0,3,4,5,7,8] [],ao 12 3685)] k Tryz.f173 0
def qM (s:ByteArray) (v8:Int):St UU:=⟨[(0,(.str s)),(7,(.int .i64 (s.size:Int))),(8,(iI v8))],[],[],[]⟩
def FL (s:ByteArray) (v8:Int) (x1:UInt8) (letter5:Bool):St UU:=⟨[(0,(.str s)),(3,(iI v8)),(4,(.int .u8 (x1.toNat:Int))),(5,(.bool letter5)),(7,(.int .i64 (s.size:Int))),(8,(iI v8))],[],[],[]⟩
section
variable {S:Type} (k:Nat) (s:ByteArray) (κ:Out UU→Option S)
theorem Pt (v8 x1 κ0): ∀n letter5,(n9 k).jn κ 1000006 [κ0] n (FL s v8 x1 letter5)=vl k (aq κ) (fun v8=>κ0 (qM s v8)) s v8 x1 n letter5:=qv (x_ k (aq κ) s v8 x1 (fun v8=>κ0 (qM s v8))) rfl (fun _=>rfl) (fun letter5=>by kernel_rfl)
theorem Ps: ∀n v8,(n9 k).lp κ 2 [] n (qM s v8)=ld k (aq κ) s n v8:=bY (fun own=>pg k (aq κ) s (fun v8 x1 letter5=>vl k (aq κ) own s v8 x1 k letter5) own) rfl (fun _=>rfl) fun r v8=>Eq.trans (b:=pg k (aq κ) s (fun v8 x1 letter5=>(n9 k).jn κ 1000006 [r] k (FL s v8 x1 letter5)) (fun v8=>r (qM s v8)) v8) (by kernel_rfl) (by simp only [Pt])
end
theorem R7 {S:Type} (o:Obj) (ho:af o) (k:Nat):Tl o 173 (HF k:Rw S):=ai (n9 k) trivial Tryz.func173 (by kernel_rfl) fun s κ x h=>Eq.trans (b:=CV k (aq κ) (fun v8=>(n9 k).lp κ 2 [] k (qM s v8)) s) (by kernel_rfl) (Eq.trans (by simp only [Ps];rfl) (aj h))
def HK {S:Type} (k:Nat):Rw S:=ag qx xn fun s κ=>aa k (mb k s) (aq κ)
def Np {S:Type} (k:Nat):Fx S:=fp 6 [] [] k Tryz.f192 0
theorem Sb {S:Type} (o:Obj) (ho:af o) (k:Nat):Tl o 192 (HK k:Rw S):=ai (Np k) trivial Tryz.func192 (by kernel_rfl) fun s κ x h=>Eq.trans (by kernel_rfl) (aj h)
def AJ {S:Type} (k:Nat):Rw S:=ag kJ xn fun c κ=>aa k (pq k c) (aq κ)
def Nt {S:Type} (k:Nat):Fx S:=fp 11 [(192,HK k)] [] k Tryz.f146 0
theorem DU {S:Type} (o:Obj) (ho:af o) (k:Nat):Tl o 146 (AJ k:Rw S):=ai (Nt k) ⟨Sb o ho k,trivial⟩ Tryz.func146 (by kernel_rfl) fun c κ x h=>Eq.trans (by kernel_rfl) (aj h)
def vX {S:Type} (k:Nat):Rw S:=ag qy xn fun a b κ=>aa k (lX k a b) (Hj κ)
def NC {S:Type} (k:Nat):Fx S:=fp 16 [] [] k Tryz.f193 0
theorem yY {S:Type} (o:Obj) (ho:af o) (k:Nat):Tl o 193 (vX k:Rw S):=ai (NC k) trivial Tryz.func193 (by kernel_rfl) fun a b κ x h=>Eq.trans (by kernel_rfl) (aj h)
def HY {S:Type} (k:Nat):Rw S:=ag qy xn fun a b κ=>aa k (tM k a b) (aq κ)
def NH {S:Type} (k:Nat):Fx S:=fp 10 [(193,vX k)] [] k Tryz.f150 0
theorem Sp {S:Type} (o:Obj) (ho:af o) (k:Nat):Tl o 150 (HY k:Rw S):=ai (NH k) ⟨yY o ho k,trivial⟩ Tryz.func150 (by kernel_rfl) fun a b κ x h=>Eq.trans (by kernel_rfl) (aj h)
def H8 {S:Type} (k:Nat):Rw S:=ag zu r_ fun d c0 κ=>aa k (tO k d c0) (Hk c0 κ)
def NN {S:Type} (k:Nat):Fx S:=fp 12 [(150,HY k)] [] k Tryz.f149 1
theorem SA {S:Type} (o:Obj) (ho:af o) (k:Nat):Tl o 149 (H8 k:Rw S):=ai (NN k) ⟨Sp o ho k,trivial⟩ Tryz.func149 (by kernel_rfl) fun d c0 κ x h=>Eq.trans (by kernel_rfl) (aj h)
def If {S:Type} (k:Nat):Rw S:=ag EV r_ fun s c0 κ=>aa k (yL k s c0) (vQ c0 κ)
def xx {S:Type} (k:Nat):Fx S:=fp 19 [(149,H8 k)] [(2,aN [0,1,7,8] [(1000000,2)],ao 4 5)] k Tryz.f175 1
def Gk (c0:Cl) (s:List Cl) (v8:Int):St UU:=⟨[(0,(sC s)),(1,(.func 149 [] [(pt 1000000)])),(7,(.int .i64 (s.length:Int))),(8,(iI v8))],[(1000000,bC c0)],[],[]⟩
section
variable {S:Type} (k:Nat) (s:List Cl) (c0:Cl) (κ:Out UU→Option S)
theorem Qb: ∀n v8,(xx k).lp κ 2 [] n (Gk c0 s v8)=nn k (vQ c0 κ) c0 s n v8:=bY (tx k (vQ c0 κ) c0 s) rfl (fun _=>rfl) fun r v8=>by kernel_rfl
end
theorem SI {S:Type} (o:Obj) (ho:af o) (k:Nat):Tl o 175 (If k:Rw S):=ai (xx k) ⟨SA o ho k,trivial⟩ Tryz.func175 (by kernel_rfl) fun s c0 κ x h=>Eq.trans (b:=CQ k (vQ c0 κ) (fun v8=>(xx k).lp κ 2 [] k (Gk c0 s v8)) s c0) (by kernel_rfl) (Eq.trans (by simp only [Qb];rfl) (aj h))
def Ij {S:Type} (k:Nat):Rw S:=ag EV r_ fun s c0 κ=>aa k (yJ k s c0) (Hk c0 κ)
def NX {S:Type} (k:Nat):Fx S:=fp 9 [(175,If k)] [] k Tryz.f131 1
theorem SM {S:Type} (o:Obj) (ho:af o) (k:Nat):Tl o 131 (Ij k:Rw S):=ai (NX k) ⟨SI o ho k,trivial⟩ Tryz.func131 (by kernel_rfl) fun s c0 κ x h=>Eq.trans (by kernel_rfl) (aj h)
def Ik {S:Type} (k:Nat):Rw S:=ag zu aba fun c c0 κ=>aa k (tN k c c0) (Yk c0 κ)
def NY {S:Type} (k:Nat):Fx S:=fp 7 [(131,Ij k)] [] k Tryz.f148 1
theorem SN {S:Type} (o:Obj) (ho:af o) (k:Nat):Tl o 148 (Ik k:Rw S):=ai (NY k) ⟨SM o ho k,trivial⟩ Tryz.func148 (by kernel_rfl) fun c c0 κ x h=>Eq.trans (by kernel_rfl) (aj h)
def gO {S:Type} (k:Nat):Rw S:=ag dy xn fun l κ=>aa k (ff k l) (ap κ)
def oi {S:Type} (k:Nat):Fx S:=fx 55 (fun _=>[]) (fun|53=>true|_=>false) [(146,AJ k),(148,Ik k)] [(4,⟨[(4,.none),(5,.none),(13,.none),(14,.none),(15,.none)],[(5,[some (200320,true)]),(12,[])]⟩,ao 6 23),(15,⟨[(8,.none),(9,some (100009,true)),(34,.none),(35,.none),(36,.none)],[(5,[.none])]⟩,ao 9 191)] k Tryz.f100 false [] 0
def zZ (l:List Cl) (b12_0:List (Cl×Bool)) (b5_0:List Cl) (v15:Int):St UU:=⟨[(4,(.mp 12)),(5,(pt 5)),(13,(sC l)),(14,(.int .i64 (l.length:Int))),(15,(iI v15))],[(5,.cells [(.own 200320 0)]),(12,.map ET.C b12_0)],[(200320,⟨0,ET.C,b5_0⟩)],[(200320,.wr)]⟩
def Gl (b5_0:List Cl) (v36:Int) (kept9:List Cl):St UU:=⟨[(8,(.func 148 [] [(pt 5)])),(9,(.own 100009 0)),(34,(sC b5_0)),(35,(.int .i64 (b5_0.length:Int))),(36,(iI v36))],[(5,.cells [(sC b5_0)])],[(100009,⟨0,ET.C,kept9⟩)],[(100009,.wr)]⟩
section
variable {S:Type} (k:Nat) (l:List Cl) (κ:Out UU→Option S)
theorem Qd (b5_0): ∀n v36 kept9,(oi k).lp κ 15 [] n (Gl b5_0 v36 kept9)=kM k (ap κ) b5_0 n v36 kept9:=aP (sk k (ap κ) b5_0) rfl (fun _=>rfl) fun r v36 kept9=>by kernel_rfl
theorem Qc: ∀n b12_0 b5_0 v15,(oi k).lp κ 4 [] n (zZ l b12_0 b5_0 v15)=mF k (ap κ) l n b12_0 b5_0 v15:=iA (fun own=>oy k (ap κ) l (fun b5_0 v36 kept9=>kM k (ap κ) b5_0 k v36 kept9) own) rfl (fun _=>rfl) fun r b12_0 b5_0 v15=>Eq.trans (b:=oy k (ap κ) l (fun b5_0 v36 kept9=>(oi k).lp κ 15 [] k (Gl b5_0 v36 kept9)) (fun b12_0 b5_0 v15=>r (zZ l b12_0 b5_0 v15)) b12_0 b5_0 v15) (by kernel_rfl) (by simp only [Qd])
end
theorem h9 {S:Type} (o:Obj) (ho:af o) (k:Nat):Tl o 100 (gO k:Rw S):=ai (oi k) ⟨DU o ho k,SN o ho k,trivial⟩ Tryz.func100 (by kernel_rfl) fun l κ x h=>Eq.trans (b:=BM k (ap κ) (fun b12_0 b5_0 v15=>(oi k).lp κ 4 [] k (zZ l b12_0 b5_0 v15)) l) (by kernel_rfl) (Eq.trans (by simp only [Qc];rfl) (aj h))
def Il {S:Type} (k:Nat):Rw S:=ag fO xn fun s1 s2 κ=>aa k (uE k s1 s2) (aq κ)
def xz {S:Type} (k:Nat):Fx S:=fp 26 [] [(4,aN [0,1,12,13] [],ao 5 11)] k Tryz.f145 0
def Gm (s1 s2:List Cl) (v13:Int):St UU:=⟨[(0,(sC s1)),(1,(sC s2)),(12,(.int .i64 (s1.length:Int))),(13,(iI v13))],[],[],[]⟩
section
variable {S:Type} (k:Nat) (s1 s2:List Cl) (κ:Out UU→Option S)
theorem Qe: ∀n v13,(xz k).lp κ 4 [] n (Gm s1 s2 v13)=nk k (aq κ) s1 s2 n v13:=bY (tw k (aq κ) s1 s2) rfl (fun _=>rfl) fun r v13=>by kernel_rfl
end
theorem SO {S:Type} (o:Obj) (ho:af o) (k:Nat):Tl o 145 (Il k:Rw S):=ai (xz k) trivial Tryz.func145 (by kernel_rfl) fun s1 s2 κ x h=>Eq.trans (b:=CO k (aq κ) (fun v13=>(xz k).lp κ 4 [] k (Gm s1 s2 v13)) s1 s2) (by kernel_rfl) (Eq.trans (by simp only [Qe];rfl) (aj h))
def ly {S:Type} (k:Nat):Rw S:=ag dy xn fun f κ=>aa k (fI k f) (aq κ)
def NZ {S:Type} (k:Nat):Fx S:=fp 17 [(100,gO k),(145,Il k)] [] k Tryz.f95 0
theorem my {S:Type} (o:Obj) (ho:af o) (k:Nat):Tl o 95 (ly k:Rw S):=ai (NZ k) ⟨h9 o ho k,SO o ho k,trivial⟩ Tryz.func95 (by kernel_rfl) fun f κ x h=>Eq.trans (by kernel_rfl) (aj h)
def rx {S:Type} (k:Nat):Rw S:=ag ei xn fun i κ=>aa k (kx k i) (aq κ)
def N3 {S:Type} (k:Nat):Fx S:=fp 9 [] [] k Tryz.f130 0
theorem uO {S:Type} (o:Obj) (ho:af o) (k:Nat):Tl o 130 (rx k:Rw S):=ai (N3 k) trivial Tryz.func130 (by kernel_rfl) fun i κ x h=>Eq.trans (by kernel_rfl) (aj h)
def vZ {S:Type} (k:Nat):Rw S:=ag jx xn fun s i κ=>aa k (hU k s i) (bG κ)
def N4 {S:Type} (k:Nat):Fx S:=fp 16 [(130,rx k)] [] k Tryz.f82 0
theorem yZ {S:Type} (o:Obj) (ho:af o) (k:Nat):Tl o 82 (vZ k:Rw S):=ai (N4 k) ⟨uO o ho k,trivial⟩ Tryz.func82 (by kernel_rfl) fun s i κ x h=>Eq.trans (by kernel_rfl) (aj h)
def v_ {S:Type} (k:Nat):Rw S:=ag dy xn fun f κ=>aa k (l6 k f) (bG κ)
def xA {S:Type} (k:Nat):Fx S:=fp 22 [(82,vZ k)] [(3,aN [3,6,7,8] [],ao 5 11)] k Tryz.f38 0
def Gn (f:List Cl) (s3 v8:Int):St UU:=⟨[(3,(iU s3)),(6,(sC f)),(7,(.int .i64 (f.length:Int))),(8,(iI v8))],[],[],[]⟩
section
variable {S:Type} (k:Nat) (f:List Cl) (κ:Out UU→Option S)
theorem Qf: ∀n s3 v8,(xA k).lp κ 3 [] n (Gn f s3 v8)=mM k (bG κ) f n s3 v8:=aP (sF k (bG κ) f) rfl (fun _=>rfl) fun r s3 v8=>by kernel_rfl
end
theorem y6 {S:Type} (o:Obj) (ho:af o) (k:Nat):Tl o 38 (v_ k:Rw S):=ai (xA k) ⟨yZ o ho k,trivial⟩ Tryz.func38 (by kernel_rfl) fun f κ x h=>Eq.trans (b:=B2 k (bG κ) (fun s3 v8=>(xA k).lp κ 3 [] k (Gn f s3 v8)) f) (by kernel_rfl) (Eq.trans (by simp only [Qf];rfl) (aj h))
def Im {S:Type} (k:Nat):Rw S:=ag zw xn fun f dims κ=>aa k (jl k f dims) (aq κ)
def N5 {S:Type} (k:Nat):Fx S:=fp 15 [(38,v_ k)] [] k Tryz.f174 0
theorem SP {S:Type} (o:Obj) (ho:af o) (k:Nat):Tl o 174 (Im k:Rw S):=ai (N5 k) ⟨y6 o ho k,trivial⟩ Tryz.func174 (by kernel_rfl) fun f dims κ x h=>Eq.trans (by kernel_rfl) (aj h)
def AT {S:Type} (k:Nat):Rw S:=ag kJ xn fun c κ=>aa k (po k c) (aq κ)
def N6 {S:Type} (k:Nat):Fx S:=fp 9 [] [] k Tryz.f132 0
theorem D4 {S:Type} (o:Obj) (ho:af o) (k:Nat):Tl o 132 (AT k:Rw S):=ai (N6 k) trivial Tryz.func132 (by kernel_rfl) fun c κ x h=>Eq.trans (by kernel_rfl) (aj h)
def Io {S:Type} (k:Nat):Rw S:=ag EX xn fun s κ=>aa k (yM k s) (aE κ)
def xD {S:Type} (k:Nat):Fx S:=fp 19 [(132,AT k)] [(2,aN [0,1,7,8] [],ao 4 5)] k Tryz.f175 0
def Gp (s:List Cl) (v8:Int):St UU:=⟨[(0,(sC s)),(1,(.func 132 [] [])),(7,(.int .i64 (s.length:Int))),(8,(iI v8))],[],[],[]⟩
section
variable {S:Type} (k:Nat) (s:List Cl) (κ:Out UU→Option S)
theorem Qg: ∀n v8,(xD k).lp κ 2 [] n (Gp s v8)=np k (aE κ) s n v8:=bY (tz k (aE κ) s) rfl (fun _=>rfl) fun r v8=>by kernel_rfl
end
theorem SQ {S:Type} (o:Obj) (ho:af o) (k:Nat):Tl o 175 (Io k:Rw S):=ai (xD k) ⟨D4 o ho k,trivial⟩ Tryz.func175 (by kernel_rfl) fun s κ x h=>Eq.trans (b:=CR k (aE κ) (fun v8=>(xD k).lp κ 2 [] k (Gp s v8)) s) (by kernel_rfl) (Eq.trans (by simp only [Qg];rfl) (aj h))
def Ip {S:Type} (k:Nat):Rw S:=ag EX xn fun s κ=>aa k (yK k s) (aq κ)
def N8 {S:Type} (k:Nat):Fx S:=fp 9 [(175,Io k)] [] k Tryz.f131 0
theorem SR {S:Type} (o:Obj) (ho:af o) (k:Nat):Tl o 131 (Ip k:Rw S):=ai (N8 k) ⟨SQ o ho k,trivial⟩ Tryz.func131 (by kernel_rfl) fun s κ x h=>Eq.trans (by kernel_rfl) (aj h)
def rz {S:Type} (k:Nat):Rw S:=ag dy xn fun f κ=>aa k (jc k f) (aq κ)
def N9 {S:Type} (k:Nat):Fx S:=fp 10 [(95,ly k),(131,Ip k)] [] k Tryz.f84 0
theorem uP {S:Type} (o:Obj) (ho:af o) (k:Nat):Tl o 84 (rz k:Rw S):=ai (N9 k) ⟨my o ho k,SR o ho k,trivial⟩ Tryz.func84 (by kernel_rfl) fun f κ x h=>Eq.trans (by kernel_rfl) (aj h)
def Iq {S:Type} (k:Nat):Rw S:=ag kK xn fun t vars dims κ=>aa k (p4 k t vars dims) (aq κ)
def oj {S:Type} (k:Nat):Fx S:=fp 138 [(84,rz k),(95,ly k),(171,Ht k),(172,Hx k),(173,HF k),(174,Im k)] [(1000003,aN [1,2,3] [(3,6)],ao 2 3),(15,aN [2,3,107,108,109] [(3,6)],ao 6 23)] k Tryz.f127 0
def Gq (t:Tm) (vars dims:Int):St UU:=⟨[(1,(iI vars)),(2,(iI dims)),(3,(pt 3))],[(3,bT t)],[],[]⟩
def Gr (t:Tm) (dims:Int) (v109:Int):St UU:=⟨[(2,(iI dims)),(3,(pt 3)),(107,(sB t.sys)),(108,(.int .i64 (t.sys.length:Int))),(109,(iI v109))],[(3,bT t)],[],[]⟩
section
variable {S:Type} (k:Nat) (t:Tm) (vars dims:Int) (κ:Out UU→Option S)
theorem Qi: ∀n v109,(oj k).lp κ 15 [] n (Gr t dims v109)=iy k (aq κ) t dims n v109:=bY (tD k (aq κ) t dims) rfl (fun _=>rfl) fun r v109=>by kernel_rfl
theorem Qh: ∀n,(oj k).jn κ 1000003 [] n (Gq t vars dims)=vm k (aq κ) t vars dims n:=ju (ph k (aq κ) t vars dims (fun v109=>iy k (aq κ) t dims k v109)) rfl (fun _=>rfl) (Eq.trans (b:=ph k (aq κ) t vars dims (fun v109=>(oj k).lp κ 15 [] k (Gr t dims v109))) (by kernel_rfl) (by simp only [Qi]))
end
theorem SS {S:Type} (o:Obj) (ho:af o) (k:Nat):Tl o 127 (Iq k:Rw S):=ai (oj k) ⟨uP o ho k,my o ho k,RV o ho k,RZ o ho k,R7 o ho k,SP o ho k,trivial⟩ Tryz.func127 (by kernel_rfl) fun t vars dims κ x h=>Eq.trans (b:=CW k (aq κ) ((oj k).jn κ 1000003 [] k (Gq t vars dims)) t vars dims) (by kernel_rfl) (Eq.trans (by simp only [Qh];rfl) (aj h))
def nN {S:Type} (hd:cP S):Rw S:=ag EY xn fun t vars dims bound κ=>hd t vars dims bound (aq κ)
def Ir {S:Type} (hd:cP S) (k:Nat):Rw S:=ag Uk MK fun a_k v d c0 c1 c2 κ=>aa k (pZ hd k a_k v d c0 c1 c2) (eS c0 c1 c2 κ)
def Oa {S:Type} (hd:cP S) (k:Nat):Fx S:=fp 21 [(81,nN hd)] [] k Tryz.f129 3
theorem ST {S:Type} (o:Obj) (ho:af o) (hd:cP S) (Hd:Tl o 81 (nN hd)) (k:Nat):Tl o 129 (Ir hd k:Rw S):=ai (Oa hd k) ⟨Hd,trivial⟩ Tryz.func129 (by kernel_rfl) fun a_k v d c0 c1 c2 κ x h=>Eq.trans (by kernel_rfl) (aj h)
def Is {S:Type} (hd:cP S) (k:Nat):Rw S:=ag Ul MK fun t c0 c1 c2 κ=>aa k (uG hd k t c0 c1 c2) (eS c0 c1 c2 κ)
def kf {S:Type} (hd:cP S) (k:Nat):Fx S:=fp 60 [(110,nM k),(129,Ir hd k)] [(2,aN [1,2,15,16,17] [(2,6),(1000000,1),(1000001,1),(1000002,1)],ao 4 5),(12,aN [1,9,40,41,42] [(1000000,1),(1000001,1),(1000002,1)],ao 7 47),(15,aN [1,9,40,41,42,47,48,49] [(1000000,1),(1000001,1),(1000002,1)],ao 15 13103)] k Tryz.f128 3
def z6 (c0 c1:Int) (c2:Bool) (t:Tm) (v17:Int):St UU:=⟨[(1,(.func 129 [] [(pt 1000000),(pt 1000001),(pt 1000002)])),(2,(pt 2)),(15,(sT t.kids)),(16,(.int .i64 (t.kids.length:Int))),(17,(iI v17))],[(2,bT t),(1000000,bI c0),(1000001,bI c1),(1000002,.cells [(.bool c2)])],[],[]⟩
def qT (c0 c1:Int) (c2:Bool) (t:Tm) (v42 more9:Int):St UU:=⟨[(1,(.func 129 [] [(pt 1000000),(pt 1000001),(pt 1000002)])),(9,(iI more9)),(40,(sB t.sys)),(41,(.int .i64 (t.sys.length:Int))),(42,(iI v42))],[(1000000,bI c0),(1000001,bI c1),(1000002,.cells [(.bool c2)])],[],[]⟩
def Gs (c0 c1:Int) (c2:Bool) (t:Tm) (v42:Int) (x4:(Br Tm)) (more9:Int) (v49:Int):St UU:=⟨[(1,(.func 129 [] [(pt 1000000),(pt 1000001),(pt 1000002)])),(9,(iI more9)),(40,(sB t.sys)),(41,(.int .i64 (t.sys.length:Int))),(42,(iI v42)),(47,(sT x4.kids)),(48,(.int .i64 (x4.kids.length:Int))),(49,(iI v49))],[(1000000,bI c0),(1000001,bI c1),(1000002,.cells [(.bool c2)])],[],[]⟩
section
variable {S:Type} (hd:cP S) (k:Nat) (t:Tm) (c0 c1:Int) (c2:Bool) (κ:Out UU→Option S)
theorem Ql (v42 x4 more9 κ1): ∀n v49,(kf hd k).lp κ 15 [κ1] n (Gs c0 c1 c2 t v42 x4 more9 v49)=jN hd k (eS c0 c1 c2 κ) (fun v42 more9=>κ1 (qT c0 c1 c2 t v42 more9)) c0 c1 c2 t v42 x4 more9 n v49:=bY (tB hd k (eS c0 c1 c2 κ) c0 c1 c2 t v42 x4 more9 (fun v42 more9=>κ1 (qT c0 c1 c2 t v42 more9))) rfl (fun _=>rfl) fun r v49=>by kernel_rfl
theorem Qk: ∀n v42 more9,(kf hd k).lp κ 12 [] n (qT c0 c1 c2 t v42 more9)=fV hd k (eS c0 c1 c2 κ) c0 c1 c2 t n v42 more9:=aP (fun own=>pd hd k (eS c0 c1 c2 κ) c0 c1 c2 t (fun v42 x4 more9 v49=>jN hd k (eS c0 c1 c2 κ) own c0 c1 c2 t v42 x4 more9 k v49) own) rfl (fun _=>rfl) fun r v42 more9=>Eq.trans (b:=pd hd k (eS c0 c1 c2 κ) c0 c1 c2 t (fun v42 x4 more9 v49=>(kf hd k).lp κ 15 [r] k (Gs c0 c1 c2 t v42 x4 more9 v49)) (fun v42 more9=>r (qT c0 c1 c2 t v42 more9)) v42 more9) (by kernel_rfl) (by simp only [Ql])
theorem Qj: ∀n v17,(kf hd k).lp κ 2 [] n (z6 c0 c1 c2 t v17)=lc hd k (eS c0 c1 c2 κ) c0 c1 c2 t n v17:=bY (fun own=>pc hd k (eS c0 c1 c2 κ) c0 c1 c2 t (fun v42 more9=>fV hd k (eS c0 c1 c2 κ) c0 c1 c2 t k v42 more9) own) rfl (fun _=>rfl) fun r v17=>Eq.trans (b:=pc hd k (eS c0 c1 c2 κ) c0 c1 c2 t (fun v42 more9=>(kf hd k).lp κ 12 [] k (qT c0 c1 c2 t v42 more9)) (fun v17=>r (z6 c0 c1 c2 t v17)) v17) (by kernel_rfl) (by simp only [Qk])
end
theorem SU {S:Type} (o:Obj) (ho:af o) (hd:cP S) (Hd:Tl o 81 (nN hd)) (k:Nat):Tl o 128 (Is hd k:Rw S):=ai (kf hd k) ⟨qf o ho k,ST o ho hd Hd k,trivial⟩ Tryz.func128 (by kernel_rfl) fun t c0 c1 c2 κ x h=>Eq.trans (b:=CT hd k (eS c0 c1 c2 κ) (fun v17=>(kf hd k).lp κ 2 [] k (z6 c0 c1 c2 t v17)) t c0 c1 c2) (by kernel_rfl) (Eq.trans (by simp only [Qj];rfl) (aj h))
def N_ {S:Type} (hd:cP S) (k:Nat):Fx S:=fp 24 [(127,Iq k),(128,Is hd k)] [] k Tryz.f81 0
theorem zi {S:Type} (o:Obj) (ho:af o): ∀k:Nat,Tl o 81 (nN (eJ k:cP S))
 |0=>eX fun t vars dims bound κ x h=>by cases h
 |k+1=>ai (N_ (eJ k) k) ⟨SS o ho k,SU o ho (eJ k) (zi o ho k) k,trivial⟩ Tryz.func81 (by kernel_rfl) fun t vars dims bound κ x h=>Eq.trans (by kernel_rfl) h
def nO {S:Type} (k:Nat):Rw S:=ag jv xn fun t κ=>aa k (jj k t) (aE κ)
def Oc {S:Type} (k:Nat):Fx S:=fp 12 [(80,As k),(81,nN (eJ k))] [] k Tryz.f91 0
theorem qh {S:Type} (o:Obj) (ho:af o) (k:Nat):Tl o 91 (nO k:Rw S):=ai (Oc k) ⟨DI o ho k,zi o ho k,trivial⟩ Tryz.func91 (by kernel_rfl) fun t κ x h=>Eq.trans (by kernel_rfl) (aj h)
def jV {S:Type} (k:Nat):Rw S:=ag Um e7 fun a_e c0 κ=>aa k (fH k a_e c0) (X0 κ)
def Od {S:Type} (k:Nat):Fx S:=fp 13 [] [] k Tryz.f85 1
theorem kC {S:Type} (o:Obj) (ho:af o) (k:Nat):Tl o 85 (jV k:Rw S):=ai (Od k) trivial Tryz.func85 (by kernel_rfl) fun a_e c0 κ x h=>Eq.trans (by kernel_rfl) (aj h)
def AU {S:Type} (k:Nat):Rw S:=ag E0 xn fun l κ=>aa k (pn k l) (vE κ)
def xE {S:Type} (k:Nat):Fx S:=fp 22 [(85,jV k),(91,nO k)] [(3,aN [3,8,9,10] [(7,1)],ao 5 11)] k Tryz.f48 0
def Gt (l:List Tm) (b7_0 v10:Int):St UU:=⟨[(3,(pt 7)),(8,(sT l)),(9,(.int .i64 (l.length:Int))),(10,(iI v10))],[(7,bI b7_0)],[],[]⟩
section
variable {S:Type} (k:Nat) (l:List Tm) (κ:Out UU→Option S)
theorem Qm: ∀n b7_0 v10,(xE k).lp κ 3 [] n (Gt l b7_0 v10)=mE k (vE κ) l n b7_0 v10:=aP (si k (vE κ) l) rfl (fun _=>rfl) fun r b7_0 v10=>by kernel_rfl
end
theorem D5 {S:Type} (o:Obj) (ho:af o) (k:Nat):Tl o 48 (AU k:Rw S):=ai (xE k) ⟨kC o ho k,qh o ho k,trivial⟩ Tryz.func48 (by kernel_rfl) fun l κ x h=>Eq.trans (b:=BF k (vE κ) (fun b7_0 v10=>(xE k).lp κ 3 [] k (Gt l b7_0 v10)) l) (by kernel_rfl) (Eq.trans (by simp only [Qm];rfl) (aj h))
def lz {S:Type} (k:Nat):Rw S:=ag Un e7 fun c0 κ=>aa k (df k c0) (eA c0 κ)
def Of {S:Type} (k:Nat):Fx S:=fp 8 [] [] k Tryz.f52 1
theorem mz {S:Type} (o:Obj) (ho:af o) (k:Nat):Tl o 52 (lz k:Rw S):=ai (Of k) trivial Tryz.func52 (by kernel_rfl) fun c0 κ x h=>Eq.trans (by kernel_rfl) (aj h)
def wa {S:Type} (k:Nat):Rw S:=ag E1 xn fun l κ=>aa k (l9 k l) (aE κ)
def xF {S:Type} (k:Nat):Fx S:=fp 15 [(95,ly k)] [(2,aN [5,6,7] [],ao 4 5)] k Tryz.f96 0
def Gu (l:List (List Cl)) (v7:Int):St UU:=⟨[(5,(wz l .none)),(6,(.int .i64 (l.length:Int))),(7,(iI v7))],[],[],[]⟩
section
variable {S:Type} (k:Nat) (l:List (List Cl)) (κ:Out UU→Option S)
theorem Qn: ∀n v7,(xF k).lp κ 2 [] n (Gu l v7)=mR k (aE κ) l n v7:=bY (sL k (aE κ) l) rfl (fun _=>rfl) fun r v7=>by kernel_rfl
end
theorem y7 {S:Type} (o:Obj) (ho:af o) (k:Nat):Tl o 96 (wa k:Rw S):=ai (xF k) ⟨my o ho k,trivial⟩ Tryz.func96 (by kernel_rfl) fun l κ x h=>Eq.trans (b:=B9 k (aE κ) (fun v7=>(xF k).lp κ 2 [] k (Gu l v7)) l) (by kernel_rfl) (Eq.trans (by simp only [Qn];rfl) (aj h))
def AV {S:Type} (k:Nat):Rw S:=ag cn xn fun κ=>aa k (pC k) (X1 κ)
def Og {S:Type} (k:Nat):Fx S:=fx 1 (fun _=>[]) (fun _=>false) [] [] k Tryz.f21 false [true] 0
theorem D6 {S:Type} (o:Obj) (ho:af o) (k:Nat):Tl o 21 (AV k:Rw S):=ai (Og k) trivial Tryz.func21 (by kernel_rfl) fun κ x h=>Eq.trans (by kernel_rfl) (aj h)
def AW {S:Type} (k:Nat):Rw S:=ag ei xn fun i κ=>aa k (mc k i) (bG κ)
def Oh {S:Type} (k:Nat):Fx S:=fp 9 [] [] k Tryz.f163 0
theorem D7 {S:Type} (o:Obj) (ho:af o) (k:Nat):Tl o 163 (AW k:Rw S):=ai (Oh k) trivial Tryz.func163 (by kernel_rfl) fun i κ x h=>Eq.trans (by kernel_rfl) (aj h)
def Iu {S:Type} (k:Nat):Rw S:=ag E2 xn fun s a_from a_by κ=>aa k (jf k s a_from a_by) (rk κ)
def Oi {S:Type} (k:Nat):Fx S:=fp 46 [(163,AW k)] [] k Tryz.f147 0
theorem SW {S:Type} (o:Obj) (ho:af o) (k:Nat):Tl o 147 (Iu k:Rw S):=ai (Oi k) ⟨D7 o ho k,trivial⟩ Tryz.func147 (by kernel_rfl) fun s a_from a_by κ x h=>Eq.trans (by kernel_rfl) (aj h)
def Iv {S:Type} (k:Nat):Rw S:=ag E3 xn fun c a_from a_by κ=>aa k (tP k c a_from a_by) (He κ)
def Oj {S:Type} (k:Nat):Fx S:=fp 42 [(146,AJ k),(147,Iu k)] [] k Tryz.f99 0
theorem SX {S:Type} (o:Obj) (ho:af o) (k:Nat):Tl o 99 (Iv k:Rw S):=ai (Oj k) ⟨DU o ho k,SW o ho k,trivial⟩ Tryz.func99 (by kernel_rfl) fun c a_from a_by κ x h=>Eq.trans (by kernel_rfl) (aj h)
def Iw {S:Type} (k:Nat):Rw S:=ag Uo wQ fun a_have c c0 c1 κ=>aa k (yy k a_have c c0 c1) (X2 c0 c1 κ)
def Ok {S:Type} (k:Nat):Fx S:=fx 22 (fun _=>[]) (fun _=>false) [(99,Iv k)] [] k Tryz.f98 false [true,false] 2
theorem SY {S:Type} (o:Obj) (ho:af o) (k:Nat):Tl o 98 (Iw k:Rw S):=ai (Ok k) ⟨SX o ho k,trivial⟩ Tryz.func98 (by kernel_rfl) fun a_have c c0 c1 κ x h=>Eq.trans (by kernel_rfl) (aj h)
end
end Go.Proofs.YtapmagaejigpnaaGreatDoor
namespace Go.Proofs.YtapmagaejigpnaaGreatDoor
open Go PI
set_option linter.unusedVariables false
set_option maxRecDepth 100000
noncomputable section
def Ix {S:Type} (k:Nat):Rw S:=ag Uq wQ fun l a_from c0 c1 κ=>aa k (ue k l a_from c0 c1) (vF c0 c1 κ)
def xG {S:Type} (k:Nat):Fx S:=fx 33 (fun|23=>[true,false]|_=>[]) (fun _=>false) [(98,Iw k)] [(2,⟨[(1,some (100001,true)),(2,.none),(13,.none),(14,.none),(15,.none)],[(1000000,[.none]),(1000001,[.none])]⟩,ao 4 5)] k Tryz.f97 false [] 2
def Gv (c0 c1:Int) (l:List Cl) (v1:List Cl) (v15:Int):St UU:=⟨[(1,(.own 100001 0)),(2,(.func 98 [] [(pt 1000000),(pt 1000001)])),(13,(sC l)),(14,(.int .i64 (l.length:Int))),(15,(iI v15))],[(1000000,bI c0),(1000001,bI c1)],[(100001,⟨0,ET.C,v1⟩)],[(100001,.wr)]⟩
section
variable {S:Type} (k:Nat) (l a_from:List Cl) (c0 c1:Int) (κ:Out UU→Option S)
theorem Qo: ∀n v1 v15,(xG k).lp κ 2 [] n (Gv c0 c1 l v1 v15)=mP k (vF c0 c1 κ) c0 c1 l n v1 v15:=aP (sI k (vF c0 c1 κ) c0 c1 l) rfl (fun _=>rfl) fun r v1 v15=>by kernel_rfl
end
theorem SZ {S:Type} (o:Obj) (ho:af o) (k:Nat):Tl o 97 (Ix k:Rw S):=ai (xG k) ⟨SY o ho k,trivial⟩ Tryz.func97 (by kernel_rfl) fun l a_from c0 c1 κ x h=>Eq.trans (b:=B6 k (vF c0 c1 κ) (fun v1 v15=>(xG k).lp κ 2 [] k (Gv c0 c1 l v1 v15)) l a_from c0 c1) (by kernel_rfl) (Eq.trans (by simp only [Qo];rfl) (aj h))
def nP {S:Type} (k:Nat):Rw S:=ag zx xn fun f a_from a_by κ=>aa k (jd k f a_from a_by) (ap κ)
def Ol {S:Type} (k:Nat):Fx S:=fx 31 (fun|21=>[false,true,false]|_=>[]) (fun _=>false) [(21,AV k),(96,wa k),(97,Ix k),(100,gO k)] [] k Tryz.f57 false [] 0
theorem qi {S:Type} (o:Obj) (ho:af o) (k:Nat):Tl o 57 (nP k:Rw S):=ai (Ol k) ⟨D6 o ho k,y7 o ho k,SZ o ho k,h9 o ho k,trivial⟩ Tryz.func57 (by kernel_rfl) fun f a_from a_by κ x h=>Eq.trans (by kernel_rfl) (aj h)
def AX {S:Type} (k:Nat):Rw S:=ag Ur e7 fun f c0 κ=>aa k (g_ k f c0) (Hf κ)
def Om {S:Type} (k:Nat):Fx S:=fp 23 [(52,lz k),(57,nP k),(85,jV k)] [] k Tryz.f53 1
theorem D8 {S:Type} (o:Obj) (ho:af o) (k:Nat):Tl o 53 (AX k:Rw S):=ai (Om k) ⟨mz o ho k,qi o ho k,kC o ho k,trivial⟩ Tryz.func53 (by kernel_rfl) fun f c0 κ x h=>Eq.trans (by kernel_rfl) (aj h)
def Iz {S:Type} (k:Nat):Rw S:=ag E1 xn fun l κ=>aa k (t8 k l) (aE κ)
def xH {S:Type} (k:Nat):Fx S:=fp 15 [(84,rz k)] [(2,aN [5,6,7] [],ao 4 5)] k Tryz.f176 0
def Gw (l:List (List Cl)) (v7:Int):St UU:=⟨[(5,(wz l .none)),(6,(.int .i64 (l.length:Int))),(7,(iI v7))],[],[],[]⟩
section
variable {S:Type} (k:Nat) (l:List (List Cl)) (κ:Out UU→Option S)
theorem Qp: ∀n v7,(xH k).lp κ 2 [] n (Gw l v7)=mL k (aE κ) l n v7:=bY (sE k (aE κ) l) rfl (fun _=>rfl) fun r v7=>by kernel_rfl
end
theorem S1 {S:Type} (o:Obj) (ho:af o) (k:Nat):Tl o 176 (Iz k:Rw S):=ai (xH k) ⟨uP o ho k,trivial⟩ Tryz.func176 (by kernel_rfl) fun l κ x h=>Eq.trans (b:=B1 k (aE κ) (fun v7=>(xH k).lp κ 2 [] k (Gw l v7)) l) (by kernel_rfl) (Eq.trans (by simp only [Qp];rfl) (aj h))
def AY {S:Type} (k:Nat):Rw S:=ag fO xn fun f g κ=>aa k (pB k f g) (ap κ)
def On {S:Type} (k:Nat):Fx S:=fp 14 [(100,gO k)] [] k Tryz.f162 0
theorem D9 {S:Type} (o:Obj) (ho:af o) (k:Nat):Tl o 162 (AY k:Rw S):=ai (On k) ⟨h9 o ho k,trivial⟩ Tryz.func162 (by kernel_rfl) fun f g κ x h=>Eq.trans (by kernel_rfl) (aj h)
def IA {S:Type} (k:Nat):Rw S:=ag fO xn fun f g κ=>aa k (tV k f g) (ap κ)
def Oo {S:Type} (k:Nat):Fx S:=fp 19 [(162,AY k),(176,Iz k)] [] k Tryz.f133 0
theorem S2 {S:Type} (o:Obj) (ho:af o) (k:Nat):Tl o 133 (IA k:Rw S):=ai (Oo k) ⟨D9 o ho k,S1 o ho k,trivial⟩ Tryz.func133 (by kernel_rfl) fun f g κ x h=>Eq.trans (by kernel_rfl) (aj h)
def IB {S:Type} (k:Nat):Rw S:=ag Us e7 fun f g c0 κ=>aa k (jb k f g c0) (Hf κ)
def Oq {S:Type} (k:Nat):Fx S:=fp 26 [(52,lz k),(85,jV k),(133,IA k)] [] k Tryz.f86 1
theorem S3 {S:Type} (o:Obj) (ho:af o) (k:Nat):Tl o 86 (IB k:Rw S):=ai (Oq k) ⟨mz o ho k,kC o ho k,S2 o ho k,trivial⟩ Tryz.func86 (by kernel_rfl) fun f g c0 κ x h=>Eq.trans (by kernel_rfl) (aj h)
def IC {S:Type} (k:Nat):Rw S:=ag Ut xn fun l_0 l_1 f a_from κ=>aa k (pF k l_0 l_1 f a_from) (X3 κ)
def Ot {S:Type} (k:Nat):Fx S:=fp 31 [(57,nP k)] [] k Tryz.f190 0
theorem S4 {S:Type} (o:Obj) (ho:af o) (k:Nat):Tl o 190 (IC k:Rw S):=ai (Ot k) ⟨qi o ho k,trivial⟩ Tryz.func190 (by kernel_rfl) fun l_0 l_1 f a_from κ x h=>Eq.trans (by kernel_rfl) (aj h)
def wc {S:Type} (hd:eD S):Rw S:=ag Uu xn fun l_0 l_1 t v d κ=>hd l_0 l_1 t v d (dU κ)
def gZ {S:Type} (hd:eD S) (k:Nat):Fx S:=fp 128 [(110,nM k),(141,wc hd),(190,IC k)] [(1000006,⟨[(2,.none),(3,.none),(4,.none),(5,.none),(8,.none),(9,.none)],[(4,[.none,.none]),(5,[.none,.none,.none,.none,.none,.none]),(8,[.none,.none,.none,some (200515,true),some (200516,true),some (200517,true)]),(9,[.none,.none,.none,.none,some (200580,true),some (200581,true)])]⟩,ao 3 7),(7,⟨[(2,.none),(3,.none),(4,.none),(5,.none),(8,.none),(9,.none),(55,.none),(56,.none),(57,.none)],[(4,[.none,.none]),(5,[.none,.none,.none,.none,.none,.none]),(8,[.none,.none,.none,some (200515,true),some (200516,true),some (200517,true)]),(9,[.none,.none,.none,.none,some (200580,true),some (200581,true)])]⟩,ao 6 23),(16,⟨[(2,.none),(3,.none),(4,.none),(8,.none),(9,.none),(14,.none),(88,.none),(89,.none),(90,.none)],[(4,[.none,.none]),(8,[.none,.none,.none,some (200515,true),some (200516,true),some (200517,true)]),(9,[.none,.none,.none,.none,some (200580,true),some (200581,true)])]⟩,ao 9 191),(20,⟨[(2,.none),(3,.none),(4,.none),(8,.none),(9,.none),(14,.none),(17,.none),(88,.none),(89,.none),(90,.none),(101,.none),(102,.none),(103,.none)],[(4,[.none,.none]),(8,[.none,.none,.none,some (200515,true),some (200516,true),some (200517,true)]),(9,[.none,.none,.none,.none,some (200580,true),some (200581,true)]),(17,[.none,some (201089,true)])]⟩,ao 19 183487)] k Tryz.f141 0
def Gx (l_0 l_1:Int) (t:Tm) (r2:List Cl) (v d:Int) (b9_1:Int):St UU:=⟨[(2,(iI v)),(3,(iI d)),(4,(pt 4)),(5,(pt 5)),(8,(pt 8)),(9,(pt 9))],[(4,.cells [(iI l_0),(iI l_1)]),(5,bT t),(8,.cells [(iI 0),(iI 0),(.str ByteArray.empty),(.own 200515 0),(.own 200516 0),(.own 200517 0)]),(9,.cells [(iI t.kind),(iI b9_1),(.str t.name),(sC r2),(.own 200580 0),(.own 200581 0)])],[(200581,⟨0,ET.B,([]:List (Br Tm))⟩),(200580,⟨0,ET.T,([]:List Tm)⟩),(200517,⟨0,ET.B,([]:List (Br Tm))⟩),(200516,⟨0,ET.T,([]:List Tm)⟩),(200515,⟨0,ET.C,([]:List Cl)⟩)],[(200581,.wr),(200580,.wr),(200517,.wr),(200516,.wr),(200515,.wr)]⟩
def z7 (l_0 l_1:Int) (t:Tm) (b9_1:Int) (r2:List Cl) (v d:Int) (b9_4:List Tm) (v57:Int):St UU:=⟨[(2,(iI v)),(3,(iI d)),(4,(pt 4)),(5,(pt 5)),(8,(pt 8)),(9,(pt 9)),(55,(sT t.kids)),(56,(.int .i64 (t.kids.length:Int))),(57,(iI v57))],[(4,.cells [(iI l_0),(iI l_1)]),(5,bT t),(8,.cells [(iI 0),(iI 0),(.str ByteArray.empty),(.own 200515 0),(.own 200516 0),(.own 200517 0)]),(9,.cells [(iI t.kind),(iI b9_1),(.str t.name),(sC r2),(.own 200580 0),(.own 200581 0)])],[(200581,⟨0,ET.B,([]:List (Br Tm))⟩),(200580,⟨0,ET.T,b9_4⟩),(200517,⟨0,ET.B,([]:List (Br Tm))⟩),(200516,⟨0,ET.T,([]:List Tm)⟩),(200515,⟨0,ET.C,([]:List Cl)⟩)],[(200581,.wr),(200580,.wr),(200517,.wr),(200516,.wr),(200515,.wr)]⟩
def qU (l_0 l_1:Int) (t:Tm) (b9_1:Int) (r2:List Cl) (b9_4:List Tm) (v d:Int) (b9_5:List (Br Tm)) (more14 v90:Int):St UU:=⟨[(2,(iI v)),(3,(iI d)),(4,(pt 4)),(8,(pt 8)),(9,(pt 9)),(14,(iI more14)),(88,(sB t.sys)),(89,(.int .i64 (t.sys.length:Int))),(90,(iI v90))],[(4,.cells [(iI l_0),(iI l_1)]),(8,.cells [(iI 0),(iI 0),(.str ByteArray.empty),(.own 200515 0),(.own 200516 0),(.own 200517 0)]),(9,.cells [(iI t.kind),(iI b9_1),(.str t.name),(sC r2),(.own 200580 0),(.own 200581 0)])],[(200581,⟨0,ET.B,b9_5⟩),(200580,⟨0,ET.T,b9_4⟩),(200517,⟨0,ET.B,([]:List (Br Tm))⟩),(200516,⟨0,ET.T,([]:List Tm)⟩),(200515,⟨0,ET.C,([]:List Cl)⟩)],[(200581,.wr),(200580,.wr),(200517,.wr),(200516,.wr),(200515,.wr)]⟩
def Gy (r12:List Cl) (l_0 l_1:Int) (t:Tm) (b9_1:Int) (r2:List Cl) (b9_4:List Tm) (b9_5:List (Br Tm)) (x10:(Br Tm)) (more14 v d v90:Int) (b17_1:List Tm) (v103:Int):St UU:=⟨[(2,(iI v)),(3,(iI d)),(4,(pt 4)),(8,(pt 8)),(9,(pt 9)),(14,(iI more14)),(17,(pt 17)),(88,(sB t.sys)),(89,(.int .i64 (t.sys.length:Int))),(90,(iI v90)),(101,(sT x10.kids)),(102,(.int .i64 (x10.kids.length:Int))),(103,(iI v103))],[(4,.cells [(iI l_0),(iI l_1)]),(8,.cells [(iI 0),(iI 0),(.str ByteArray.empty),(.own 200515 0),(.own 200516 0),(.own 200517 0)]),(9,.cells [(iI t.kind),(iI b9_1),(.str t.name),(sC r2),(.own 200580 0),(.own 200581 0)]),(17,.cells [(sC r12),(.own 201089 0)])],[(201089,⟨0,ET.T,b17_1⟩),(200581,⟨0,ET.B,b9_5⟩),(200580,⟨0,ET.T,b9_4⟩),(200517,⟨0,ET.B,([]:List (Br Tm))⟩),(200516,⟨0,ET.T,([]:List Tm)⟩),(200515,⟨0,ET.C,([]:List Cl)⟩)],[(201089,.wr),(200581,.wr),(200580,.wr),(200517,.wr),(200516,.wr),(200515,.wr)]⟩
section
variable {S:Type} (hd:eD S) (k:Nat) (l_0 l_1:Int) (t:Tm) (v d:Int) (κ:Out UU→Option S)
theorem Qt (r12 b9_1 r2 b9_4 b9_5 x10 more14 v90 κ2): ∀n b17_1 v103,(gZ hd k).lp κ 20 [κ2] n (Gy r12 l_0 l_1 t b9_1 r2 b9_4 b9_5 x10 more14 v d v90 b17_1 v103)=jF hd k (dU κ) (fun b9_5 more14 v90=>κ2 (qU l_0 l_1 t b9_1 r2 b9_4 v d b9_5 more14 v90)) r12 l_0 l_1 t b9_1 r2 b9_4 b9_5 x10 more14 v d v90 n b17_1 v103:=aP (sO hd k (dU κ) r12 l_0 l_1 t b9_1 r2 b9_4 b9_5 x10 more14 v d v90 (fun b9_5 more14 v90=>κ2 (qU l_0 l_1 t b9_1 r2 b9_4 v d b9_5 more14 v90))) rfl (fun _=>rfl) fun r b17_1 v103=>by kernel_rfl
theorem Qs (b9_1 r2 b9_4): ∀n b9_5 more14 v90,(gZ hd k).lp κ 16 [] n (qU l_0 l_1 t b9_1 r2 b9_4 v d b9_5 more14 v90)=eo hd k (dU κ) l_0 l_1 t b9_1 r2 b9_4 v d n b9_5 more14 v90:=iA (fun own=>oD hd k (dU κ) l_0 l_1 t b9_1 r2 b9_4 v d (fun r12 b9_5 x10 more14 v90 b17_1 v103=>jF hd k (dU κ) own r12 l_0 l_1 t b9_1 r2 b9_4 b9_5 x10 more14 v d v90 k b17_1 v103) own) rfl (fun _=>rfl) fun r b9_5 more14 v90=>Eq.trans (b:=oD hd k (dU κ) l_0 l_1 t b9_1 r2 b9_4 v d (fun r12 b9_5 x10 more14 v90 b17_1 v103=>(gZ hd k).lp κ 20 [r] k (Gy r12 l_0 l_1 t b9_1 r2 b9_4 b9_5 x10 more14 v d v90 b17_1 v103)) (fun b9_5 more14 v90=>r (qU l_0 l_1 t b9_1 r2 b9_4 v d b9_5 more14 v90)) b9_5 more14 v90) (by kernel_rfl) (by simp only [Qt])
theorem Qr (b9_1 r2): ∀n b9_4 v57,(gZ hd k).lp κ 7 [] n (z7 l_0 l_1 t b9_1 r2 v d b9_4 v57)=il hd k (dU κ) l_0 l_1 t b9_1 r2 v d n b9_4 v57:=aP (fun own=>oC hd k (dU κ) l_0 l_1 t b9_1 r2 v d (fun b9_4 b9_5 more14 v90=>eo hd k (dU κ) l_0 l_1 t b9_1 r2 b9_4 v d k b9_5 more14 v90) own) rfl (fun _=>rfl) fun r b9_4 v57=>Eq.trans (b:=oC hd k (dU κ) l_0 l_1 t b9_1 r2 v d (fun b9_4 b9_5 more14 v90=>(gZ hd k).lp κ 16 [] k (qU l_0 l_1 t b9_1 r2 b9_4 v d b9_5 more14 v90)) (fun b9_4 v57=>r (z7 l_0 l_1 t b9_1 r2 v d b9_4 v57)) b9_4 v57) (by kernel_rfl) (by simp only [Qs])
theorem Qq (r2): ∀n b9_1,(gZ hd k).jn κ 1000006 [] n (Gx l_0 l_1 t r2 v d b9_1)=qA hd k (dU κ) l_0 l_1 t r2 v d n b9_1:=qv (xX hd k (dU κ) l_0 l_1 t r2 v d (fun b9_1 b9_4 v57=>il hd k (dU κ) l_0 l_1 t b9_1 r2 v d k b9_4 v57)) rfl (fun _=>rfl) (fun b9_1=>Eq.trans (b:=xX hd k (dU κ) l_0 l_1 t r2 v d (fun b9_1 b9_4 v57=>(gZ hd k).lp κ 7 [] k (z7 l_0 l_1 t b9_1 r2 v d b9_4 v57)) b9_1) (by kernel_rfl) (by simp only [Qr]))
end
theorem zj {S:Type} (o:Obj) (ho:af o): ∀k:Nat,Tl o 141 (wc (dg k:eD S))
 |0=>eX fun l_0 l_1 t v d κ x h=>by cases h
 |k+1=>ai (gZ (dg k) k) ⟨qf o ho k,zj o ho k,S4 o ho k,trivial⟩ Tryz.func141 (by kernel_rfl) fun l_0 l_1 t v d κ x h=>Eq.trans (b:=Cb (dg k) k (dU κ) (fun r2 b9_1=>(gZ (dg k) k).jn κ 1000006 [] k (Gx l_0 l_1 t r2 v d b9_1)) l_0 l_1 t v d) (by kernel_rfl) (Eq.trans (by simp only [Qq];rfl) h)
def ID {S:Type} (k:Nat):Rw S:=ag E4 ML fun c0 c1 c2 κ=>aa k (ul k c0 c1 c2) (X4 c0 c1 c2 κ)
def Ou {S:Type} (k:Nat):Fx S:=fp 10 [(141,wc (dg k))] [] k Tryz.f142 3
theorem S5 {S:Type} (o:Obj) (ho:af o) (k:Nat):Tl o 142 (ID k:Rw S):=ai (Ou k) ⟨zj o ho k,trivial⟩ Tryz.func142 (by kernel_rfl) fun c0 c1 c2 κ x h=>Eq.trans (by kernel_rfl) (aj h)
def IE {S:Type} (k:Nat):Rw S:=ag Uv ML fun t numbers c0 c1 c2 κ=>aa k (yD k t numbers c0 c1 c2) (vG c0 c1 c2 κ)
def xJ {S:Type} (k:Nat):Fx S:=⟨⟨30,(fun _=>[]),(fun _=>false),.none,fun|6=>true|7=>true|_=>false⟩,[(91,nO k),(142,ID k)],[(5,⟨[(2,.none),(6,.none),(7,.none),(17,.none),(18,.none),(19,.none)],[(1000000,[.none]),(1000001,[.none,.none,.none,.none,.none,.none]),(1000002,[.none]),(5000006,[.none,.none,.none,some (320200387,true),some (320200388,true),some (320200389,true)]),(5000007,[.none])]⟩,ao 5 11)],k,Tryz.f139,false,[],3,some (tH 16 189 Tryz.f189 k)⟩
def Gz (c0:Int) (c1:Tm) (c2:Int) (numbers:List Int) (v19:Int):St UU:=⟨[(2,(.func 142 [] [(pt 1000000),(pt 1000001),(pt 1000002)])),(6,(pt 5000006)),(7,(pt 5000007)),(17,(jZ numbers .none)),(18,(.int .i64 (numbers.length:Int))),(19,(iI v19))],[(1000000,bI c0),(1000001,bT c1),(1000002,bI c2),(5000006,.cells [(iI 0),(iI 0),(.str ByteArray.empty),(.own 320200387 0),(.own 320200388 0),(.own 320200389 0)]),(5000007,bI 0)],[(320200389,⟨0,ET.B,([]:List (Br Tm))⟩),(320200388,⟨0,ET.T,([]:List Tm)⟩),(320200387,⟨0,ET.C,([]:List Cl)⟩)],[(320200389,.wr),(320200388,.wr),(320200387,.wr)]⟩
section
variable {S:Type} (k:Nat) (t:Tm) (numbers:List Int) (c0:Int) (c1:Tm) (c2:Int) (κ:Out UU→Option S)
theorem Qu: ∀n v19,(xJ k).lp κ 5 [] n (Gz c0 c1 c2 numbers v19)=kP k (vG c0 c1 c2 κ) c0 c1 c2 numbers n v19:=bY (sM k (vG c0 c1 c2 κ) c0 c1 c2 numbers) rfl (fun _=>rfl) fun r v19=>by kernel_rfl
end
theorem S6 {S:Type} (o:Obj) (ho:af o) (k:Nat):Tl o 139 (IE k:Rw S):=Ml (xJ k) rfl (Dv o Tryz.func189 (by kernel_rfl)) ⟨qh o ho k,S5 o ho k,trivial⟩ Tryz.func139 (by kernel_rfl) fun t numbers c0 c1 c2 κ x h=>Eq.trans (b:=B_ k (vG c0 c1 c2 κ) (fun v19=>(xJ k).lp κ 5 [] k (Gz c0 c1 c2 numbers v19)) t numbers c0 c1 c2) (by kernel_rfl) (Eq.trans (by simp only [Qu];rfl) (aj h))
def IF {S:Type} (k:Nat):Rw S:=ag kK xn fun t a_from a_by κ=>aa k (uk k t a_from a_by) (c7 κ)
def Ov {S:Type} (k:Nat):Fx S:=fp 16 [(139,IE k)] [] k Tryz.f93 0
theorem S7 {S:Type} (o:Obj) (ho:af o) (k:Nat):Tl o 93 (IF k:Rw S):=ai (Ov k) ⟨S6 o ho k,trivial⟩ Tryz.func93 (by kernel_rfl) fun t a_from a_by κ x h=>Eq.trans (by kernel_rfl) (aj h)
def rA {S:Type} (k:Nat):Rw S:=ag jx xn fun s i κ=>aa k (gr k s i) (bG κ)
def Ow {S:Type} (k:Nat):Fx S:=fp 16 [(130,rx k)] [] k Tryz.f144 0
theorem uQ {S:Type} (o:Obj) (ho:af o) (k:Nat):Tl o 144 (rA k:Rw S):=ai (Ow k) ⟨uO o ho k,trivial⟩ Tryz.func144 (by kernel_rfl) fun s i κ x h=>Eq.trans (by kernel_rfl) (aj h)
def IG {S:Type} (k:Nat):Rw S:=ag qx xn fun a_x κ=>aa k (DB k a_x) (aE κ)
def Ox {S:Type} (k:Nat):Fx S:=fp 21 [] [] k Tryz.f191 0
theorem S8 {S:Type} (o:Obj) (ho:af o) (k:Nat):Tl o 191 (IG k:Rw S):=ai (Ox k) trivial Tryz.func191 (by kernel_rfl) fun a_x κ x h=>Eq.trans (by kernel_rfl) (aj h)
def we {S:Type} (k:Nat):Rw S:=ag qx xn fun s κ=>aa k (je k s) (aE κ)
def Oy {S:Type} (k:Nat):Fx S:=fp 6 [(191,IG k)] [] k Tryz.f143 0
theorem y8 {S:Type} (o:Obj) (ho:af o) (k:Nat):Tl o 143 (we k:Rw S):=ai (Oy k) ⟨S8 o ho k,trivial⟩ Tryz.func143 (by kernel_rfl) fun s κ x h=>Eq.trans (by kernel_rfl) (aj h)
def IH {S:Type} (k:Nat):Rw S:=ag ei xn fun i κ=>aa k (tQ k i) (aq κ)
def Oz {S:Type} (k:Nat):Fx S:=fp 7 [(143,we k),(144,rA k)] [] k Tryz.f94 0
theorem S9 {S:Type} (o:Obj) (ho:af o) (k:Nat):Tl o 94 (IH k:Rw S):=ai (Oz k) ⟨y8 o ho k,uQ o ho k,trivial⟩ Tryz.func94 (by kernel_rfl) fun i κ x h=>Eq.trans (by kernel_rfl) (aj h)
def II {S:Type} (k:Nat):Rw S:=ag zy xn fun t i a_r κ=>aa k (yx k t i a_r) (aE κ)
def OA {S:Type} (k:Nat):Fx S:=fp 21 [(91,nO k),(94,IH k),(95,ly k)] [] k Tryz.f56 0
theorem S_ {S:Type} (o:Obj) (ho:af o) (k:Nat):Tl o 56 (II k:Rw S):=ai (OA k) ⟨qh o ho k,S9 o ho k,my o ho k,trivial⟩ Tryz.func56 (by kernel_rfl) fun t i a_r κ x h=>Eq.trans (by kernel_rfl) (aj h)
def IJ {S:Type} (k:Nat):Rw S:=ag E5 sa fun c0 c1 κ=>aa k (yp k c0 c1) (X5 c0 c1 κ)
def OB {S:Type} (k:Nat):Fx S:=fp 6 [] [] k Tryz.f101 2
theorem Ta {S:Type} (o:Obj) (ho:af o) (k:Nat):Tl o 101 (IJ k:Rw S):=ai (OB k) trivial Tryz.func101 (by kernel_rfl) fun c0 c1 κ x h=>Eq.trans (by kernel_rfl) (aj h)
def IK {S:Type} (k:Nat):Rw S:=ag Ux sa fun c0 c1 κ=>aa k (yq k c0 c1) (X6 c0 c1 κ)
def OC {S:Type} (k:Nat):Fx S:=fp 6 [] [] k Tryz.f101 2
theorem Tb {S:Type} (o:Obj) (ho:af o) (k:Nat):Tl o 101 (IK k:Rw S):=ai (OC k) trivial Tryz.func101 (by kernel_rfl) fun c0 c1 κ x h=>Eq.trans (by kernel_rfl) (aj h)
def IL {S:Type} (k:Nat):Rw S:=ag Uy xn fun i a_r κ=>aa k (yo k i a_r) (X7 κ)
def OD {S:Type} (k:Nat):Fx S:=fp 12 [(101,lu (ql E5 sa) (IJ k) (IK k))] [] k Tryz.f58 0
theorem Tc {S:Type} (o:Obj) (ho:af o) (k:Nat):Tl o 58 (IL k:Rw S):=ai (OD k) ⟨rh (Ta o ho k) (Tb o ho k),trivial⟩ Tryz.func58 (by kernel_rfl) fun i a_r κ x h=>Eq.trans (by kernel_rfl) (aj h)
def rB {S:Type} (k:Nat):Rw S:=ag jx xn fun s i κ=>aa k (fJ k s i) (aq κ)
def OE {S:Type} (k:Nat):Fx S:=fp 15 [(130,rx k)] [] k Tryz.f103 0
theorem uR {S:Type} (o:Obj) (ho:af o) (k:Nat):Tl o 103 (rB k:Rw S):=ai (OE k) ⟨uO o ho k,trivial⟩ Tryz.func103 (by kernel_rfl) fun s i κ x h=>Eq.trans (by kernel_rfl) (aj h)
def AZ {S:Type} (k:Nat):Rw S:=ag dy xn fun f κ=>aa k (pu k f) (ez κ)
def OF {S:Type} (k:Nat):Fx S:=fp 5 [] [] k Tryz.f104 0
theorem D_ {S:Type} (o:Obj) (ho:af o) (k:Nat):Tl o 104 (AZ k:Rw S):=ai (OF k) trivial Tryz.func104 (by kernel_rfl) fun f κ x h=>Eq.trans (by kernel_rfl) (aj h)
def IM {S:Type} (k:Nat):Rw S:=ag ei xn fun i κ=>aa k (tY k i) (aq κ)
def OG {S:Type} (k:Nat):Fx S:=fp 7 [(143,we k),(144,rA k)] [] k Tryz.f158 0
theorem Td {S:Type} (o:Obj) (ho:af o) (k:Nat):Tl o 158 (IM k:Rw S):=ai (OG k) ⟨y8 o ho k,uQ o ho k,trivial⟩ Tryz.func158 (by kernel_rfl) fun i κ x h=>Eq.trans (by kernel_rfl) (aj h)
def A1 {S:Type} (k:Nat):Rw S:=ag kJ xn fun c κ=>aa k (pA k c) (X8 κ)
def OI {S:Type} (k:Nat):Fx S:=fp 8 [(132,AT k)] [] k Tryz.f200 0
theorem Eb {S:Type} (o:Obj) (ho:af o) (k:Nat):Tl o 200 (A1 k:Rw S):=ai (OI k) ⟨D4 o ho k,trivial⟩ Tryz.func200 (by kernel_rfl) fun c κ x h=>Eq.trans (by kernel_rfl) (aj h)
def IN {S:Type} (k:Nat):Rw S:=ag Uz xn fun l κ=>aa k (t6 k l) (ez κ)
def xK {S:Type} (k:Nat):Fx S:=fp 29 [(200,A1 k)] [(3,⟨[(1,.none),(5,some (100005,true)),(10,.none),(11,.none),(12,.none)],[]⟩,ao 5 11)] k Tryz.f199 0
def GC (l:List Cl) (v12:Int) (out5:List Cl):St UU:=⟨[(1,(.func 200 [] [])),(5,(.own 100005 0)),(10,(sC l)),(11,(.int .i64 (l.length:Int))),(12,(iI v12))],[],[(100005,⟨0,ET.C,out5⟩)],[(100005,.wr)]⟩
section
variable {S:Type} (k:Nat) (l:List Cl) (κ:Out UU→Option S)
theorem QD: ∀n v12 out5,(xK k).lp κ 3 [] n (GC l v12 out5)=mJ k (ez κ) l n v12 out5:=aP (sA k (ez κ) l) rfl (fun _=>rfl) fun r v12 out5=>by kernel_rfl
end
theorem Te {S:Type} (o:Obj) (ho:af o) (k:Nat):Tl o 199 (IN k:Rw S):=ai (xK k) ⟨Eb o ho k,trivial⟩ Tryz.func199 (by kernel_rfl) fun l κ x h=>Eq.trans (b:=BZ k (ez κ) (fun v12 out5=>(xK k).lp κ 3 [] k (GC l v12 out5)) l) (by kernel_rfl) (Eq.trans (by simp only [QD];rfl) (aj h))
def A2 {S:Type} (k:Nat):Rw S:=ag dy xn fun f κ=>aa k (pz k f) (ap κ)
def OJ {S:Type} (k:Nat):Fx S:=fp 12 [(95,ly k),(100,gO k),(199,IN k)] [] k Tryz.f159 0
theorem Ec {S:Type} (o:Obj) (ho:af o) (k:Nat):Tl o 159 (A2 k:Rw S):=ai (OJ k) ⟨my o ho k,h9 o ho k,Te o ho k,trivial⟩ Tryz.func159 (by kernel_rfl) fun f κ x h=>Eq.trans (by kernel_rfl) (aj h)
def IP {S:Type} (k:Nat):Rw S:=ag zu r_ fun b c0 κ=>aa k (t7 k b c0) (X9 c0 κ)
def OK {S:Type} (k:Nat):Fx S:=fp 11 [(193,vX k),(200,A1 k)] [] k Tryz.f201 1
theorem Tf {S:Type} (o:Obj) (ho:af o) (k:Nat):Tl o 201 (IP k:Rw S):=ai (OK k) ⟨yY o ho k,Eb o ho k,trivial⟩ Tryz.func201 (by kernel_rfl) fun b c0 κ x h=>Eq.trans (by kernel_rfl) (aj h)
def IQ {S:Type} (k:Nat):Rw S:=ag UA r_ fun l c0 κ=>aa k (tZ k l c0) (vH c0 κ)
def xL {S:Type} (k:Nat):Fx S:=fp 29 [(201,IP k)] [(3,⟨[(1,.none),(5,some (100005,true)),(10,.none),(11,.none),(12,.none)],[(1000000,[.none,.none])]⟩,ao 5 11)] k Tryz.f199 1
def GD (c0:Cl) (l:List Cl) (v12:Int) (out5:List Cl):St UU:=⟨[(1,(.func 201 [] [(pt 1000000)])),(5,(.own 100005 0)),(10,(sC l)),(11,(.int .i64 (l.length:Int))),(12,(iI v12))],[(1000000,bC c0)],[(100005,⟨0,ET.C,out5⟩)],[(100005,.wr)]⟩
section
variable {S:Type} (k:Nat) (l:List Cl) (c0:Cl) (κ:Out UU→Option S)
theorem QE: ∀n v12 out5,(xL k).lp κ 3 [] n (GD c0 l v12 out5)=mI k (vH c0 κ) c0 l n v12 out5:=aP (sz k (vH c0 κ) c0 l) rfl (fun _=>rfl) fun r v12 out5=>by kernel_rfl
end
theorem Tg {S:Type} (o:Obj) (ho:af o) (k:Nat):Tl o 199 (IQ k:Rw S):=ai (xL k) ⟨Tf o ho k,trivial⟩ Tryz.func199 (by kernel_rfl) fun l c0 κ x h=>Eq.trans (b:=BY k (vH c0 κ) (fun v12 out5=>(xL k).lp κ 3 [] k (GD c0 l v12 out5)) l c0) (by kernel_rfl) (Eq.trans (by simp only [QE];rfl) (aj h))
def IR {S:Type} (k:Nat):Rw S:=ag fO xn fun f g κ=>aa k (lZ k f g) (ap κ)
def xM {S:Type} (k:Nat):Fx S:=fp 25 [(100,gO k),(199,IQ k)] [(3,⟨[(1,.none),(6,some (100006,true)),(9,.none),(10,.none),(11,.none)],[]⟩,ao 5 11)] k Tryz.f160 0
def GE (g f:List Cl) (v11:Int) (out6:List Cl):St UU:=⟨[(1,(sC g)),(6,(.own 100006 0)),(9,(sC f)),(10,(.int .i64 (f.length:Int))),(11,(iI v11))],[],[(100006,⟨0,ET.C,out6⟩)],[(100006,.wr)]⟩
section
variable {S:Type} (k:Nat) (f g:List Cl) (κ:Out UU→Option S)
theorem QF: ∀n v11 out6,(xM k).lp κ 3 [] n (GE g f v11 out6)=mK k (ap κ) g f n v11 out6:=aP (sD k (ap κ) g f) rfl (fun _=>rfl) fun r v11 out6=>by kernel_rfl
end
theorem Th {S:Type} (o:Obj) (ho:af o) (k:Nat):Tl o 160 (IR k:Rw S):=ai (xM k) ⟨h9 o ho k,Tg o ho k,trivial⟩ Tryz.func160 (by kernel_rfl) fun f g κ x h=>Eq.trans (b:=B0 k (ap κ) (fun v11 out6=>(xM k).lp κ 3 [] k (GE g f v11 out6)) f g) (by kernel_rfl) (Eq.trans (by simp only [QF];rfl) (aj h))
def IS {S:Type} (k:Nat):Rw S:=ag cn xn fun κ=>aa k (yz k) (ez κ)
def OL {S:Type} (k:Nat):Fx S:=fp 3 [] [] k Tryz.f20 0
theorem Ti {S:Type} (o:Obj) (ho:af o) (k:Nat):Tl o 20 (IS k:Rw S):=ai (OL k) trivial Tryz.func20 (by kernel_rfl) fun κ x h=>Eq.trans (by kernel_rfl) (aj h)
def IT {S:Type} (k:Nat):Rw S:=ag kJ xn fun c κ=>aa k (ug k c) (ap κ)
def ol {S:Type} (k:Nat):Fx S:=fp 43 [(100,gO k),(144,rA k),(224,Bc)] [(3,⟨[(1,.none),(4,some (100004,true)),(11,.none),(12,.none),(13,.none)],[(1,[.none,.none])]⟩,ao 5 11),(8,⟨[(4,some (100004,true)),(26,.none),(27,.none),(28,.none)],[]⟩,ao 6 23)] k Tryz.f198 0
def Aa (c:Cl) (r1:List Int) (v13:Int) (out4:List Cl):St UU:=⟨[(1,(pt 1)),(4,(.own 100004 0)),(11,(jZ r1 .none)),(12,(.int .i64 (r1.length:Int))),(13,(iI v13))],[(1,bC c)],[(100004,⟨0,ET.C,out4⟩)],[(100004,.wr)]⟩
def GF (r5:List Int) (v28:Int) (out4':List Cl):St UU:=⟨[(4,(.own 100004 0)),(26,(jZ r5 .none)),(27,(.int .i64 (r5.length:Int))),(28,(iI v28))],[],[(100004,⟨0,ET.C,out4'⟩)],[(100004,.wr)]⟩
section
variable {S:Type} (k:Nat) (c:Cl) (κ:Out UU→Option S)
theorem QH (r5): ∀n v28 out4',(ol k).lp κ 8 [] n (GF r5 v28 out4')=kO k (ap κ) r5 n v28 out4':=aP (sK k (ap κ) r5) rfl (fun _=>rfl) fun r v28 out4'=>by kernel_rfl
theorem QG (r1): ∀n v13 out4,(ol k).lp κ 3 [] n (Aa c r1 v13 out4)=mQ k (ap κ) c r1 n v13 out4:=aP (fun own=>oB k (ap κ) c r1 (fun r5 v28 out4'=>kO k (ap κ) r5 k v28 out4') own) rfl (fun _=>rfl) fun r v13 out4=>Eq.trans (b:=oB k (ap κ) c r1 (fun r5 v28 out4'=>(ol k).lp κ 8 [] k (GF r5 v28 out4')) (fun v13 out4=>r (Aa c r1 v13 out4)) v13 out4) (by kernel_rfl) (by simp only [QH])
end
theorem Tj {S:Type} (o:Obj) (ho:af o) (k:Nat):Tl o 198 (IT k:Rw S):=ai (ol k) ⟨h9 o ho k,uQ o ho k,aaD o ho,trivial⟩ Tryz.func198 (by kernel_rfl) fun c κ x h=>Eq.trans (b:=B8 k (ap κ) (fun r1 v13 out4=>(ol k).lp κ 3 [] k (Aa c r1 v13 out4)) c) (by kernel_rfl) (Eq.trans (by simp only [QG];rfl) (aj h))
def A3 {S:Type} (k:Nat):Rw S:=ag fO xn fun f g κ=>aa k (hJ k f g) (ap κ)
def om {S:Type} (k:Nat):Fx S:=fp 35 [(100,gO k),(193,vX k)] [(3,⟨[(1,.none),(6,some (100006,true)),(11,.none),(12,.none),(13,.none)],[]⟩,ao 5 11),(6,⟨[(1,.none),(6,some (100006,true)),(8,.none),(11,.none),(12,.none),(13,.none),(17,.none),(18,.none),(19,.none)],[(8,[.none,.none])]⟩,ao 13 3275)] k Tryz.f155 0
def qX (g f:List Cl) (v13:Int) (out6:List Cl):St UU:=⟨[(1,(sC g)),(6,(.own 100006 0)),(11,(sC f)),(12,(.int .i64 (f.length:Int))),(13,(iI v13))],[],[(100006,⟨0,ET.C,out6⟩)],[(100006,.wr)]⟩
def GG (x1:Cl) (g f:List Cl) (v13:Int) (v19:Int) (out6':List Cl):St UU:=⟨[(1,(sC g)),(6,(.own 100006 0)),(8,(pt 8)),(11,(sC f)),(12,(.int .i64 (f.length:Int))),(13,(iI v13)),(17,(sC g)),(18,(.int .i64 (g.length:Int))),(19,(iI v19))],[(8,bC x1)],[(100006,⟨0,ET.C,out6'⟩)],[(100006,.wr)]⟩
section
variable {S:Type} (k:Nat) (f g:List Cl) (κ:Out UU→Option S)
theorem QJ (x1 v13 κ0): ∀n v19 out6',(om k).lp κ 6 [κ0] n (GG x1 g f v13 v19 out6')=kN k (ap κ) (fun v13 out6=>κ0 (qX g f v13 out6)) x1 g f v13 n v19 out6':=aP (sJ k (ap κ) x1 g f v13 (fun v13 out6=>κ0 (qX g f v13 out6))) rfl (fun _=>rfl) fun r v19 out6'=>by kernel_rfl
theorem QI: ∀n v13 out6,(om k).lp κ 3 [] n (qX g f v13 out6)=jE k (ap κ) g f n v13 out6:=aP (fun own=>oA k (ap κ) g f (fun x1 v13 v19 out6'=>kN k (ap κ) own x1 g f v13 k v19 out6') own) rfl (fun _=>rfl) fun r v13 out6=>Eq.trans (b:=oA k (ap κ) g f (fun x1 v13 v19 out6'=>(om k).lp κ 6 [r] k (GG x1 g f v13 v19 out6')) (fun v13 out6=>r (qX g f v13 out6)) v13 out6) (by kernel_rfl) (by simp only [QJ])
end
theorem Ed {S:Type} (o:Obj) (ho:af o) (k:Nat):Tl o 155 (A3 k:Rw S):=ai (om k) ⟨h9 o ho k,yY o ho k,trivial⟩ Tryz.func155 (by kernel_rfl) fun f g κ x h=>Eq.trans (b:=B7 k (ap κ) (fun v13 out6=>(om k).lp κ 3 [] k (qX g f v13 out6)) f g) (by kernel_rfl) (Eq.trans (by simp only [QI];rfl) (aj h))
def IU {S:Type} (k:Nat):Rw S:=ag E6 xn fun a_have c κ=>aa k (uf k a_have c) (ap κ)
def OM {S:Type} (k:Nat):Fx S:=fp 21 [(155,A3 k),(198,IT k)] [] k Tryz.f197 0
theorem Tk {S:Type} (o:Obj) (ho:af o) (k:Nat):Tl o 197 (IU k:Rw S):=ai (OM k) ⟨Ed o ho k,Tj o ho k,trivial⟩ Tryz.func197 (by kernel_rfl) fun a_have c κ x h=>Eq.trans (by kernel_rfl) (aj h)
def IW {S:Type} (k:Nat):Rw S:=ag UB xn fun l a_from κ=>aa k (yB k l a_from) (ap κ)
def xN {S:Type} (k:Nat):Fx S:=fp 33 [(197,IU k)] [(2,aN [1,2,13,14,15] [],ao 4 5)] k Tryz.f97 0
def GH (l:List Cl) (v1:List Cl) (v15:Int):St UU:=⟨[(1,(sC v1)),(2,(.func 197 [] [])),(13,(sC l)),(14,(.int .i64 (l.length:Int))),(15,(iI v15))],[],[],[]⟩
section
variable {S:Type} (k:Nat) (l a_from:List Cl) (κ:Out UU→Option S)
theorem QK: ∀n v1 v15,(xN k).lp κ 2 [] n (GH l v1 v15)=mO k (ap κ) l n v1 v15:=aP (sH k (ap κ) l) rfl (fun _=>rfl) fun r v1 v15=>by kernel_rfl
end
theorem To {S:Type} (o:Obj) (ho:af o) (k:Nat):Tl o 97 (IW k:Rw S):=ai (xN k) ⟨Tk o ho k,trivial⟩ Tryz.func97 (by kernel_rfl) fun l a_from κ x h=>Eq.trans (b:=B5 k (ap κ) (fun v1 v15=>(xN k).lp κ 2 [] k (GH l v1 v15)) l a_from) (by kernel_rfl) (Eq.trans (by simp only [QK];rfl) (aj h))
def A4 {S:Type} (k:Nat):Rw S:=ag dy xn fun f κ=>aa k (l7 k f) (ap κ)
def OO {S:Type} (k:Nat):Fx S:=fp 9 [(20,IS k),(97,IW k)] [] k Tryz.f156 0
theorem Ee {S:Type} (o:Obj) (ho:af o) (k:Nat):Tl o 156 (A4 k:Rw S):=ai (OO k) ⟨Ti o ho k,To o ho k,trivial⟩ Tryz.func156 (by kernel_rfl) fun f κ x h=>Eq.trans (by kernel_rfl) (aj h)
def IX {S:Type} (k:Nat):Rw S:=ag dy xn fun f κ=>aa k (ua k f) (ap κ)
def OP {S:Type} (k:Nat):Fx S:=fp 15 [(96,wa k),(156,A4 k)] [] k Tryz.f202 0
theorem Tp {S:Type} (o:Obj) (ho:af o) (k:Nat):Tl o 202 (IX k:Rw S):=ai (OP k) ⟨y7 o ho k,Ee o ho k,trivial⟩ Tryz.func202 (by kernel_rfl) fun f κ x h=>Eq.trans (by kernel_rfl) (aj h)
def IY {S:Type} (k:Nat):Rw S:=ag dy xn fun f κ=>aa k (tW k f) (ap κ)
def OQ {S:Type} (k:Nat):Fx S:=fp 18 [(159,A2 k),(202,IX k)] [] k Tryz.f161 0
theorem Tq {S:Type} (o:Obj) (ho:af o) (k:Nat):Tl o 161 (IY k:Rw S):=ai (OQ k) ⟨Ec o ho k,Tp o ho k,trivial⟩ Tryz.func161 (by kernel_rfl) fun f κ x h=>Eq.trans (by kernel_rfl) (aj h)
def IZ {S:Type} (k:Nat):Rw S:=ag ve xn fun f i a_r κ=>aa k (tX k f i a_r) (ap κ)
def oq {S:Type} (k:Nat):Fx S:=fp 92 [(82,vZ k),(84,rz k),(95,ly k),(103,rB k),(158,IM k),(159,A2 k),(160,IR k),(161,IY k),(162,AY k)] [(5,aN [1,2,8,27,28,29] [],ao 6 23),(1000018,aN [1,2,8,11,13,27,28,29] [],ao 16 63895)] k Tryz.f106 0
def qY (i:Int) (a_r f:List Cl) (v29:Int) (v8:List Cl):St UU:=⟨[(1,(iI i)),(2,(sC a_r)),(8,(sC v8)),(27,(sC f)),(28,(.int .i64 (f.length:Int))),(29,(iI v29))],[],[],[]⟩
def GI (i:Int) (a_r f:List Cl) (v29:Int) (v8:List Cl) (g11:List Cl) (v13:Int):St UU:=⟨[(1,(iI i)),(2,(sC a_r)),(8,(sC v8)),(11,(sC g11)),(13,(iI v13)),(27,(sC f)),(28,(.int .i64 (f.length:Int))),(29,(iI v29))],[],[],[]⟩
section
variable {S:Type} (k:Nat) (f:List Cl) (i:Int) (a_r:List Cl) (κ:Out UU→Option S)
theorem QM (v29 v8 κ0): ∀n g11 v13,(oq k).jn κ 1000018 [κ0] n (GI i a_r f v29 v8 g11 v13)=mH k (ap κ) (fun v29 v8=>κ0 (qY i a_r f v29 v8)) i a_r f v29 v8 n g11 v13:=EP (sy k (ap κ) i a_r f v29 v8 (fun v29 v8=>κ0 (qY i a_r f v29 v8))) rfl (fun _=>rfl) (fun g11 v13=>by kernel_rfl)
theorem QL: ∀n v29 v8,(oq k).lp κ 5 [] n (qY i a_r f v29 v8)=jD k (ap κ) i a_r f n v29 v8:=aP (fun own=>oz k (ap κ) i a_r f (fun v29 v8 g11 v13=>mH k (ap κ) own i a_r f v29 v8 k g11 v13) own) rfl (fun _=>rfl) fun r v29 v8=>Eq.trans (b:=oz k (ap κ) i a_r f (fun v29 v8 g11 v13=>(oq k).jn κ 1000018 [r] k (GI i a_r f v29 v8 g11 v13)) (fun v29 v8=>r (qY i a_r f v29 v8)) v29 v8) (by kernel_rfl) (by simp only [QM])
end
theorem Tr {S:Type} (o:Obj) (ho:af o) (k:Nat):Tl o 106 (IZ k:Rw S):=ai (oq k) ⟨yZ o ho k,uP o ho k,my o ho k,uR o ho k,Td o ho k,Ec o ho k,Th o ho k,Tq o ho k,D9 o ho k,trivial⟩ Tryz.func106 (by kernel_rfl) fun f i a_r κ x h=>Eq.trans (b:=BX k (ap κ) (fun v29 v8=>(oq k).lp κ 5 [] k (qY i a_r f v29 v8)) f i a_r) (by kernel_rfl) (Eq.trans (by simp only [QL];rfl) (aj h))
def A5 {S:Type} (k:Nat):Rw S:=ag zz abb fun f depth c0 c1 κ=>aa k (pw k f depth c0 c1) (X_ c0 c1 κ)
def OR {S:Type} (k:Nat):Fx S:=fp 38 [(38,v_ k),(57,nP k),(103,rB k),(104,AZ k),(106,IZ k)] [] k Tryz.f102 3
theorem Ef {S:Type} (o:Obj) (ho:af o) (k:Nat):Tl o 102 (A5 k:Rw S):=ai (OR k) ⟨y6 o ho k,qi o ho k,uR o ho k,D_ o ho k,Tr o ho k,trivial⟩ Tryz.func102 (by kernel_rfl) fun f depth c0 c1 κ x h=>Eq.trans (by kernel_rfl) (aj h)
def I0 {S:Type} (k:Nat):Rw S:=ag ei xn fun i κ=>aa k (t_ k i) (ap κ)
def OS {S:Type} (k:Nat):Fx S:=fp 12 [(143,we k),(144,rA k)] [] k Tryz.f153 0
theorem Ts {S:Type} (o:Obj) (ho:af o) (k:Nat):Tl o 153 (I0 k:Rw S):=ai (OS k) ⟨y8 o ho k,uQ o ho k,trivial⟩ Tryz.func153 (by kernel_rfl) fun i κ x h=>Eq.trans (by kernel_rfl) (aj h)
def I1 {S:Type} (k:Nat):Rw S:=ag fO xn fun f g κ=>aa k (kw k f g) (ap κ)
def OT {S:Type} (k:Nat):Fx S:=fp 14 [(100,gO k)] [] k Tryz.f157 0
theorem Tt {S:Type} (o:Obj) (ho:af o) (k:Nat):Tl o 157 (I1 k:Rw S):=ai (OT k) ⟨h9 o ho k,trivial⟩ Tryz.func157 (by kernel_rfl) fun f g κ x h=>Eq.trans (by kernel_rfl) (aj h)
def I2 {S:Type} (k:Nat):Rw S:=ag UC sa fun a_have c c0 c1 κ=>aa k (uc k a_have c c0 c1) (rl c0 c1 κ)
def OU {S:Type} (k:Nat):Fx S:=fp 63 [(82,vZ k),(103,rB k),(155,A3 k),(156,A4 k),(157,I1 k)] [] k Tryz.f154 2
theorem Tu {S:Type} (o:Obj) (ho:af o) (k:Nat):Tl o 154 (I2 k:Rw S):=ai (OU k) ⟨yZ o ho k,uR o ho k,Ed o ho k,Ee o ho k,Tt o ho k,trivial⟩ Tryz.func154 (by kernel_rfl) fun a_have c c0 c1 κ x h=>Eq.trans (by kernel_rfl) (aj h)
def I3 {S:Type} (k:Nat):Rw S:=ag UE sa fun l a_from c0 c1 κ=>aa k (yA k l a_from c0 c1) (rl c0 c1 κ)
def xO {S:Type} (k:Nat):Fx S:=fp 33 [(154,I2 k)] [(2,aN [1,2,13,14,15] [(1000000,1),(1000001,1)],ao 4 5)] k Tryz.f97 2
def GJ (c0:Int) (c1 l:List Cl) (v1:List Cl) (v15:Int):St UU:=⟨[(1,(sC v1)),(2,(.func 154 [] [(pt 1000000),(pt 1000001)])),(13,(sC l)),(14,(.int .i64 (l.length:Int))),(15,(iI v15))],[(1000000,bI c0),(1000001,.cells [(sC c1)])],[],[]⟩
section
variable {S:Type} (k:Nat) (l a_from:List Cl) (c0:Int) (c1:List Cl) (κ:Out UU→Option S)
theorem QN: ∀n v1 v15,(xO k).lp κ 2 [] n (GJ c0 c1 l v1 v15)=mN k (rl c0 c1 κ) c0 c1 l n v1 v15:=aP (sG k (rl c0 c1 κ) c0 c1 l) rfl (fun _=>rfl) fun r v1 v15=>by kernel_rfl
end
theorem Tv {S:Type} (o:Obj) (ho:af o) (k:Nat):Tl o 97 (I3 k:Rw S):=ai (xO k) ⟨Tu o ho k,trivial⟩ Tryz.func97 (by kernel_rfl) fun l a_from c0 c1 κ x h=>Eq.trans (b:=B4 k (rl c0 c1 κ) (fun v1 v15=>(xO k).lp κ 2 [] k (GJ c0 c1 l v1 v15)) l a_from c0 c1) (by kernel_rfl) (Eq.trans (by simp only [QN];rfl) (aj h))
def I5 {S:Type} (k:Nat):Rw S:=ag ve xn fun f i a_r κ=>aa k (ub k f i a_r) (ap κ)
def OW {S:Type} (k:Nat):Fx S:=fp 32 [(21,AV k),(96,wa k),(97,I3 k),(153,I0 k)] [] k Tryz.f105 0
theorem Tx {S:Type} (o:Obj) (ho:af o) (k:Nat):Tl o 105 (I5 k:Rw S):=ai (OW k) ⟨D6 o ho k,y7 o ho k,Tv o ho k,Ts o ho k,trivial⟩ Tryz.func105 (by kernel_rfl) fun f i a_r κ x h=>Eq.trans (by kernel_rfl) (aj h)
end
end Go.Proofs.YtapmagaejigpnaaGreatDoor
namespace Go.Proofs.YtapmagaejigpnaaGreatDoor
open Go PI
set_option linter.unusedVariables false
set_option maxRecDepth 100000
noncomputable section
def I6 {S:Type} (k:Nat):Rw S:=ag zz MM fun f depth c0 c1 κ=>aa k (tR k f depth c0 c1) (Ya c0 c1 κ)
def OX {S:Type} (k:Nat):Fx S:=fp 38 [(38,v_ k),(57,nP k),(103,rB k),(104,AZ k),(105,I5 k)] [] k Tryz.f102 3
theorem Tz {S:Type} (o:Obj) (ho:af o) (k:Nat):Tl o 102 (I6 k:Rw S):=ai (OX k) ⟨y6 o ho k,qi o ho k,uR o ho k,D_ o ho k,Tx o ho k,trivial⟩ Tryz.func102 (by kernel_rfl) fun f depth c0 c1 κ x h=>Eq.trans (by kernel_rfl) (aj h)
def I7 {S:Type} (k:Nat):Rw S:=ag zA C7 fun t depth c0 c1 κ=>aa k (tT k t depth c0 c1) (Yb c0 c1 κ)
def OY {S:Type} (k:Nat):Fx S:=fp 27 [(102,lu (ql zz MM) (I6 k) (A5 k))] [] k Tryz.f107 4
theorem TB {S:Type} (o:Obj) (ho:af o) (k:Nat):Tl o 107 (I7 k:Rw S):=ai (OY k) ⟨rh (Tz o ho k) (Ef o ho k),trivial⟩ Tryz.func107 (by kernel_rfl) fun t depth c0 c1 κ x h=>Eq.trans (by kernel_rfl) (aj h)
def A6 {S:Type} (k:Nat):Rw S:=ag E7 abc fun i c0 κ=>aa k (px k i c0) (Yc c0 κ)
def OZ {S:Type} (k:Nat):Fx S:=fp 14 [(110,nM k)] [] k Tryz.f109 1
theorem Eg {S:Type} (o:Obj) (ho:af o) (k:Nat):Tl o 109 (A6 k:Rw S):=ai (OZ k) ⟨qf o ho k,trivial⟩ Tryz.func109 (by kernel_rfl) fun i c0 κ x h=>Eq.trans (by kernel_rfl) (aj h)
def A7 {S:Type} (k:Nat):Rw S:=ag E7 e7 fun p c0 κ=>aa k (py k p c0) (Yd c0 κ)
def O0 {S:Type} (k:Nat):Fx S:=fp 5 [] [] k Tryz.f111 1
theorem Eh {S:Type} (o:Obj) (ho:af o) (k:Nat):Tl o 111 (A7 k:Rw S):=ai (O0 k) trivial Tryz.func111 (by kernel_rfl) fun p c0 κ x h=>Eq.trans (by kernel_rfl) (aj h)
def nQ {S:Type} (hd:cx S):Rw S:=ag zA C7 fun t depth c0 c1 κ=>hd t depth c0 c1 (vI c0 c1 κ)
def I8 {S:Type} (hd:cx S) (k:Nat):Rw S:=ag E8 MN fun l depth c0 c1 c4 κ=>aa k (yv hd k l depth c0 c1 c4) (vJ c0 c1 c4 κ)
def xQ {S:Type} (hd:cx S) (k:Nat):Fx S:=fp 42 [(59,nQ hd),(111,A7 k)] [(3,⟨[(2,.none),(3,.none),(4,.none),(10,some (100010,true)),(15,.none),(16,.none),(17,.none)],[(4,[.none,.none]),(1000000,[.none]),(1000001,[.none]),(1000002,[.none]),(1000003,[.none]),(1000004,[.none])]⟩,ao 5 11)] k Tryz.f108 5
def GL (c0:Int) (c1:List Cl) (c4:Int) (l:List Tm) (depth:Int) (out10:List Tm) (v17:Int):St UU:=⟨[(2,(iI depth)),(3,(.func 111 [] [(pt 1000004)])),(4,(pt 4)),(10,(.own 100010 0)),(15,(sT l)),(16,(.int .i64 (l.length:Int))),(17,(iI v17))],[(4,.cells [(.func 102 [] [(pt 1000000),(pt 1000001),(pt 1000002)]),(.func 102 [] [(pt 1000000),(pt 1000001),(pt 1000003)])]),(1000000,bI c0),(1000001,.cells [(sC c1)]),(1000002,.cells [(.func 105 [] [])]),(1000003,.cells [(.func 106 [] [])]),(1000004,bI c4)],[(100010,⟨0,ET.T,out10⟩)],[(100010,.wr)]⟩
section
variable {S:Type} (hd:cx S) (k:Nat) (l:List Tm) (depth c0:Int) (c1:List Cl) (c4:Int) (κ:Out UU→Option S)
theorem QP: ∀n out10 v17,(xQ hd k).lp κ 3 [] n (GL c0 c1 c4 l depth out10 v17)=jB hd k (vJ c0 c1 c4 κ) c0 c1 c4 l depth n out10 v17:=aP (sq hd k (vJ c0 c1 c4 κ) c0 c1 c4 l depth) rfl (fun _=>rfl) fun r out10 v17=>by kernel_rfl
end
theorem TC {S:Type} (o:Obj) (ho:af o) (hd:cx S) (Hd:Tl o 59 (nQ hd)) (k:Nat):Tl o 108 (I8 hd k:Rw S):=ai (xQ hd k) ⟨Hd,Eh o ho k,trivial⟩ Tryz.func108 (by kernel_rfl) fun l depth c0 c1 c4 κ x h=>Eq.trans (b:=BR hd k (vJ c0 c1 c4 κ) (fun out10 v17=>(xQ hd k).lp κ 3 [] k (GL c0 c1 c4 l depth out10 v17)) l depth c0 c1 c4) (by kernel_rfl) (Eq.trans (by simp only [QP];rfl) (aj h))
def I9 {S:Type} (hd:cx S) (k:Nat):Rw S:=ag UF abd fun l depth c0 c1 c4 κ=>aa k (yw hd k l depth c0 c1 c4) (vK c0 c1 c4 κ)
def xR {S:Type} (hd:cx S) (k:Nat):Fx S:=fp 42 [(59,nQ hd),(109,A6 k)] [(3,⟨[(2,.none),(3,.none),(4,.none),(10,some (100010,true)),(15,.none),(16,.none),(17,.none)],[(4,[.none,.none]),(1000000,[.none]),(1000001,[.none]),(1000002,[.none]),(1000003,[.none]),(1000004,[.none,.none,.none,.none,.none,.none])]⟩,ao 5 11)] k Tryz.f108 5
def GM (c0:Int) (c1:List Cl) (c4:Tm) (l:List Tm) (depth:Int) (out10:List Tm) (v17:Int):St UU:=⟨[(2,(iI depth)),(3,(.func 109 [] [(pt 1000004)])),(4,(pt 4)),(10,(.own 100010 0)),(15,(sT l)),(16,(.int .i64 (l.length:Int))),(17,(iI v17))],[(4,.cells [(.func 102 [] [(pt 1000000),(pt 1000001),(pt 1000002)]),(.func 102 [] [(pt 1000000),(pt 1000001),(pt 1000003)])]),(1000000,bI c0),(1000001,.cells [(sC c1)]),(1000002,.cells [(.func 105 [] [])]),(1000003,.cells [(.func 106 [] [])]),(1000004,bT c4)],[(100010,⟨0,ET.T,out10⟩)],[(100010,.wr)]⟩
section
variable {S:Type} (hd:cx S) (k:Nat) (l:List Tm) (depth c0:Int) (c1:List Cl) (c4:Tm) (κ:Out UU→Option S)
theorem QQ: ∀n out10 v17,(xR hd k).lp κ 3 [] n (GM c0 c1 c4 l depth out10 v17)=jC hd k (vK c0 c1 c4 κ) c0 c1 c4 l depth n out10 v17:=aP (sr hd k (vK c0 c1 c4 κ) c0 c1 c4 l depth) rfl (fun _=>rfl) fun r out10 v17=>by kernel_rfl
end
theorem TD {S:Type} (o:Obj) (ho:af o) (hd:cx S) (Hd:Tl o 59 (nQ hd)) (k:Nat):Tl o 108 (I9 hd k:Rw S):=ai (xR hd k) ⟨Hd,Eg o ho k,trivial⟩ Tryz.func108 (by kernel_rfl) fun l depth c0 c1 c4 κ x h=>Eq.trans (b:=BS hd k (vK c0 c1 c4 κ) (fun out10 v17=>(xR hd k).lp κ 3 [] k (GM c0 c1 c4 l depth out10 v17)) l depth c0 c1 c4) (by kernel_rfl) (Eq.trans (by simp only [QQ];rfl) (aj h))
def xP {S:Type} (hd:cx S) (k:Nat):Fx S:=fp 98 [(102,A5 k),(107,I7 k),(108,lu (ql E8 MN) (I8 hd k) (I9 hd k))] [(13,⟨[(2,.none),(3,.none),(6,.none),(8,.none),(10,.none),(53,.none),(54,.none),(55,.none)],[(3,[.none,.none]),(6,[.none,.none,.none,some (200387,true),some (200388,true),some (200389,true)]),(8,[.none,.none,.none,.none,.none,some (200517,true)]),(10,[.none]),(1000000,[.none]),(1000001,[.none]),(1000002,[.none]),(1000003,[.none])]⟩,ao 11 767)] k Tryz.f59 4
def GK (c0:Int) (c1:List Cl) (t:Tm) (r1:List Cl×Int) (r2:List Tm×Int) (depth:Int) (b10_0:Int) (b8_5:List (Br Tm)) (v55:Int):St UU:=⟨[(2,(iI depth)),(3,(pt 3)),(6,(pt 6)),(8,(pt 8)),(10,(pt 10)),(53,(sB t.sys)),(54,(.int .i64 (t.sys.length:Int))),(55,(iI v55))],[(3,.cells [(.func 102 [] [(pt 1000000),(pt 1000001),(pt 1000002)]),(.func 102 [] [(pt 1000000),(pt 1000001),(pt 1000003)])]),(6,.cells [(iI 0),(iI 0),(.str ByteArray.empty),(.own 200387 0),(.own 200388 0),(.own 200389 0)]),(8,.cells [(iI t.kind),(iI t.n),(.str t.name),(sC r1.1),(sT r2.1),(.own 200517 0)]),(10,bI b10_0),(1000000,bI c0),(1000001,.cells [(sC c1)]),(1000002,.cells [(.func 105 [] [])]),(1000003,.cells [(.func 106 [] [])])],[(200517,⟨0,ET.B,b8_5⟩),(200389,⟨0,ET.B,([]:List (Br Tm))⟩),(200388,⟨0,ET.T,([]:List Tm)⟩),(200387,⟨0,ET.C,([]:List Cl)⟩)],[(200517,.wr),(200389,.wr),(200388,.wr),(200387,.wr)]⟩
section
variable {S:Type} (hd:cx S) (k:Nat) (t:Tm) (depth c0:Int) (c1:List Cl) (κ:Out UU→Option S)
theorem QO (r1 r2): ∀n b10_0 b8_5 v55,(xP hd k).lp κ 13 [] n (GK c0 c1 t r1 r2 depth b10_0 b8_5 v55)=eL hd k (vI c0 c1 κ) c0 c1 t r1 r2 depth n b10_0 b8_5 v55:=iA (su hd k (vI c0 c1 κ) c0 c1 t r1 r2 depth) rfl (fun _=>rfl) fun r b10_0 b8_5 v55=>by kernel_rfl
end
theorem zk {S:Type} (o:Obj) (ho:af o): ∀k:Nat,Tl o 59 (nQ (dx k:cx S))
 |0=>eX fun t depth c0 c1 κ x h=>by cases h
 |k+1=>ai (xP (dx k) k) ⟨Ef o ho k,TB o ho k,rh (TC o ho (dx k) (zk o ho k) k) (TD o ho (dx k) (zk o ho k) k),trivial⟩ Tryz.func59 (by kernel_rfl) fun t depth c0 c1 κ x h=>Eq.trans (b:=BV (dx k) k (vI c0 c1 κ) (fun r1 r2 b10_0 b8_5 v55=>(xP (dx k) k).lp κ 13 [] k (GK c0 c1 t r1 r2 depth b10_0 b8_5 v55)) t depth c0 c1) (by kernel_rfl) (Eq.trans (by simp only [QO];rfl) h)
def I_ {S:Type} (k:Nat):Rw S:=ag ei xn fun i κ=>aa k (yn k i) (Ye κ)
def O1 {S:Type} (k:Nat):Fx S:=fp 8 [] [] k Tryz.f60 0
theorem TE {S:Type} (o:Obj) (ho:af o) (k:Nat):Tl o 60 (I_ k:Rw S):=ai (O1 k) trivial Tryz.func60 (by kernel_rfl) fun i κ x h=>Eq.trans (by kernel_rfl) (aj h)
def Ja {S:Type} (k:Nat):Rw S:=ag jx xn fun s i κ=>aa k (ma k s i) (bG κ)
def O2 {S:Type} (k:Nat):Fx S:=fp 24 [(130,rx k),(163,AW k)] [] k Tryz.f113 0
theorem TF {S:Type} (o:Obj) (ho:af o) (k:Nat):Tl o 113 (Ja k:Rw S):=ai (O2 k) ⟨uO o ho k,D7 o ho k,trivial⟩ Tryz.func113 (by kernel_rfl) fun s i κ x h=>Eq.trans (by kernel_rfl) (aj h)
def Au {S:Type} (k:Nat):Rw S:=ag UG e7 fun f depth c0 κ=>aa k (lY k f depth c0) (rm c0 κ)
def wU {S:Type} (k:Nat):Fx S:=fp 37 [(100,gO k),(113,Ja k)] [(3,⟨[(1,.none),(2,.none),(7,some (100007,true)),(10,.none),(11,.none),(12,.none)],[(1000000,[.none])]⟩,ao 5 11)] k Tryz.f112 1
def Fv (c0 depth:Int) (f:List Cl) (v12:Int) (out7:List Cl):St UU:=⟨[(1,(iI depth)),(2,(pt 1000000)),(7,(.own 100007 0)),(10,(sC f)),(11,(.int .i64 (f.length:Int))),(12,(iI v12))],[(1000000,bI c0)],[(100007,⟨0,ET.C,out7⟩)],[(100007,.wr)]⟩
section
variable {S:Type} (k:Nat) (f:List Cl) (depth c0:Int) (κ:Out UU→Option S)
theorem O6: ∀n v12 out7,(wU k).lp κ 3 [] n (Fv c0 depth f v12 out7)=mG k (rm c0 κ) c0 depth f n v12 out7:=aP (sm k (rm c0 κ) c0 depth f) rfl (fun _=>rfl) fun r v12 out7=>by kernel_rfl
end
theorem DJ {S:Type} (o:Obj) (ho:af o) (k:Nat):Tl o 112 (Au k:Rw S):=ai (wU k) ⟨h9 o ho k,TF o ho k,trivial⟩ Tryz.func112 (by kernel_rfl) fun f depth c0 κ x h=>Eq.trans (b:=BN k (rm c0 κ) (fun v12 out7=>(wU k).lp κ 3 [] k (Fv c0 depth f v12 out7)) f depth c0) (by kernel_rfl) (Eq.trans (by simp only [O6];rfl) (aj h))
def Hm {S:Type} (k:Nat):Rw S:=ag E9 e7 fun t depth c0 κ=>aa k (tU k t depth c0) (rm c0 κ)
def MX {S:Type} (k:Nat):Fx S:=fp 27 [(112,Au k)] [] k Tryz.f107 1
theorem RO {S:Type} (o:Obj) (ho:af o) (k:Nat):Tl o 107 (Hm k:Rw S):=ai (MX k) ⟨DJ o ho k,trivial⟩ Tryz.func107 (by kernel_rfl) fun t depth c0 κ x h=>Eq.trans (by kernel_rfl) (aj h)
def nI {S:Type} (hd:cz S):Rw S:=ag E9 e7 fun t depth c0 κ=>hd t depth c0 (vL c0 κ)
def Hn {S:Type} (hd:cz S) (k:Nat):Rw S:=ag E_ wQ fun l depth c0 c1 κ=>aa k (yr hd k l depth c0 c1) (vM c0 c1 κ)
def wW {S:Type} (hd:cz S) (k:Nat):Fx S:=fp 42 [(59,nI hd),(111,A7 k)] [(3,⟨[(2,.none),(3,.none),(4,.none),(10,some (100010,true)),(15,.none),(16,.none),(17,.none)],[(4,[.none,.none]),(1000000,[.none]),(1000001,[.none])]⟩,ao 5 11)] k Tryz.f108 2
def Fy (c0 c1:Int) (l:List Tm) (depth:Int) (out10:List Tm) (v17:Int):St UU:=⟨[(2,(iI depth)),(3,(.func 111 [] [(pt 1000001)])),(4,(pt 4)),(10,(.own 100010 0)),(15,(sT l)),(16,(.int .i64 (l.length:Int))),(17,(iI v17))],[(4,.cells [(.func 112 [] [(pt 1000000)]),(.func 112 [] [(pt 1000000)])]),(1000000,bI c0),(1000001,bI c1)],[(100010,⟨0,ET.T,out10⟩)],[(100010,.wr)]⟩
section
variable {S:Type} (hd:cz S) (k:Nat) (l:List Tm) (depth c0 c1:Int) (κ:Out UU→Option S)
theorem O8: ∀n out10 v17,(wW hd k).lp κ 3 [] n (Fy c0 c1 l depth out10 v17)=jz hd k (vM c0 c1 κ) c0 c1 l depth n out10 v17:=aP (sn hd k (vM c0 c1 κ) c0 c1 l depth) rfl (fun _=>rfl) fun r out10 v17=>by kernel_rfl
end
theorem RP {S:Type} (o:Obj) (ho:af o) (hd:cz S) (Hd:Tl o 59 (nI hd)) (k:Nat):Tl o 108 (Hn hd k:Rw S):=ai (wW hd k) ⟨Hd,Eh o ho k,trivial⟩ Tryz.func108 (by kernel_rfl) fun l depth c0 c1 κ x h=>Eq.trans (b:=BP hd k (vM c0 c1 κ) (fun out10 v17=>(wW hd k).lp κ 3 [] k (Fy c0 c1 l depth out10 v17)) l depth c0 c1) (by kernel_rfl) (Eq.trans (by simp only [O8];rfl) (aj h))
def Ho {S:Type} (hd:cz S) (k:Nat):Rw S:=ag UH abe fun l depth c0 c1 κ=>aa k (yu hd k l depth c0 c1) (vN c0 c1 κ)
def wX {S:Type} (hd:cz S) (k:Nat):Fx S:=fp 42 [(59,nI hd),(109,A6 k)] [(3,⟨[(2,.none),(3,.none),(4,.none),(10,some (100010,true)),(15,.none),(16,.none),(17,.none)],[(4,[.none,.none]),(1000000,[.none]),(1000001,[.none,.none,.none,.none,.none,.none])]⟩,ao 5 11)] k Tryz.f108 2
def Fz (c0:Int) (c1:Tm) (l:List Tm) (depth:Int) (out10:List Tm) (v17:Int):St UU:=⟨[(2,(iI depth)),(3,(.func 109 [] [(pt 1000001)])),(4,(pt 4)),(10,(.own 100010 0)),(15,(sT l)),(16,(.int .i64 (l.length:Int))),(17,(iI v17))],[(4,.cells [(.func 112 [] [(pt 1000000)]),(.func 112 [] [(pt 1000000)])]),(1000000,bI c0),(1000001,bT c1)],[(100010,⟨0,ET.T,out10⟩)],[(100010,.wr)]⟩
section
variable {S:Type} (hd:cz S) (k:Nat) (l:List Tm) (depth c0:Int) (c1:Tm) (κ:Out UU→Option S)
theorem O9: ∀n out10 v17,(wX hd k).lp κ 3 [] n (Fz c0 c1 l depth out10 v17)=jA hd k (vN c0 c1 κ) c0 c1 l depth n out10 v17:=aP (so hd k (vN c0 c1 κ) c0 c1 l depth) rfl (fun _=>rfl) fun r out10 v17=>by kernel_rfl
end
theorem RQ {S:Type} (o:Obj) (ho:af o) (hd:cz S) (Hd:Tl o 59 (nI hd)) (k:Nat):Tl o 108 (Ho hd k:Rw S):=ai (wX hd k) ⟨Hd,Eg o ho k,trivial⟩ Tryz.func108 (by kernel_rfl) fun l depth c0 c1 κ x h=>Eq.trans (b:=BQ hd k (vN c0 c1 κ) (fun out10 v17=>(wX hd k).lp κ 3 [] k (Fz c0 c1 l depth out10 v17)) l depth c0 c1) (by kernel_rfl) (Eq.trans (by simp only [O9];rfl) (aj h))
def wV {S:Type} (hd:cz S) (k:Nat):Fx S:=fp 98 [(107,Hm k),(108,lu (ql E_ wQ) (Hn hd k) (Ho hd k)),(112,Au k)] [(13,⟨[(2,.none),(3,.none),(6,.none),(8,.none),(10,.none),(53,.none),(54,.none),(55,.none)],[(3,[.none,.none]),(6,[.none,.none,.none,some (200387,true),some (200388,true),some (200389,true)]),(8,[.none,.none,.none,.none,.none,some (200517,true)]),(10,[.none]),(1000000,[.none])]⟩,ao 11 767)] k Tryz.f59 1
def Fw (c0:Int) (t:Tm) (r1:List Cl×Int) (r2:List Tm×Int) (depth:Int) (b10_0:Int) (b8_5:List (Br Tm)) (v55:Int):St UU:=⟨[(2,(iI depth)),(3,(pt 3)),(6,(pt 6)),(8,(pt 8)),(10,(pt 10)),(53,(sB t.sys)),(54,(.int .i64 (t.sys.length:Int))),(55,(iI v55))],[(3,.cells [(.func 112 [] [(pt 1000000)]),(.func 112 [] [(pt 1000000)])]),(6,.cells [(iI 0),(iI 0),(.str ByteArray.empty),(.own 200387 0),(.own 200388 0),(.own 200389 0)]),(8,.cells [(iI t.kind),(iI t.n),(.str t.name),(sC r1.1),(sT r2.1),(.own 200517 0)]),(10,bI b10_0),(1000000,bI c0)],[(200517,⟨0,ET.B,b8_5⟩),(200389,⟨0,ET.B,([]:List (Br Tm))⟩),(200388,⟨0,ET.T,([]:List Tm)⟩),(200387,⟨0,ET.C,([]:List Cl)⟩)],[(200517,.wr),(200389,.wr),(200388,.wr),(200387,.wr)]⟩
section
variable {S:Type} (hd:cz S) (k:Nat) (t:Tm) (depth c0:Int) (κ:Out UU→Option S)
theorem O7 (r1 r2): ∀n b10_0 b8_5 v55,(wV hd k).lp κ 13 [] n (Fw c0 t r1 r2 depth b10_0 b8_5 v55)=eM hd k (vL c0 κ) c0 t r1 r2 depth n b10_0 b8_5 v55:=iA (sx hd k (vL c0 κ) c0 t r1 r2 depth) rfl (fun _=>rfl) fun r b10_0 b8_5 v55=>by kernel_rfl
end
theorem zg {S:Type} (o:Obj) (ho:af o): ∀k:Nat,Tl o 59 (nI (dt k:cz S))
 |0=>eX fun t depth c0 κ x h=>by cases h
 |k+1=>ai (wV (dt k) k) ⟨RO o ho k,rh (RP o ho (dt k) (zg o ho k) k) (RQ o ho (dt k) (zg o ho k) k),DJ o ho k,trivial⟩ Tryz.func59 (by kernel_rfl) fun t depth c0 κ x h=>Eq.trans (b:=BW (dt k) k (vL c0 κ) (fun r1 r2 b10_0 b8_5 v55=>(wV (dt k) k).lp κ 13 [] k (Fw c0 t r1 r2 depth b10_0 b8_5 v55)) t depth c0) (by kernel_rfl) (Eq.trans (by simp only [O7];rfl) h)
def Hp {S:Type} (k:Nat):Rw S:=ag zy xn fun t i a_r κ=>aa k (pr k t i a_r) (c7 κ)
def MY {S:Type} (k:Nat):Fx S:=fp 48 [(56,II k),(57,nP k),(58,IL k),(59,lu (ql zA C7) (nQ (dx k)) (nI (dt k))),(60,I_ k)] [] k Tryz.f19 0
theorem RR {S:Type} (o:Obj) (ho:af o) (k:Nat):Tl o 19 (Hp k:Rw S):=ai (MY k) ⟨S_ o ho k,qi o ho k,Tc o ho k,rh (zk o ho k) (zg o ho k),TE o ho k,trivial⟩ Tryz.func19 (by kernel_rfl) fun t i a_r κ x h=>Eq.trans (by kernel_rfl) (aj h)
def Av {S:Type} (k:Nat):Rw S:=ag UI e7 fun line a_r c0 κ=>aa k (g9 k line a_r c0) (Hg κ)
def MZ {S:Type} (k:Nat):Fx S:=fp 44 [(19,Hp k),(52,lz k),(85,jV k),(93,IF k)] [] k Tryz.f54 1
theorem DK {S:Type} (o:Obj) (ho:af o) (k:Nat):Tl o 54 (Av k:Rw S):=ai (MZ k) ⟨RR o ho k,mz o ho k,kC o ho k,S7 o ho k,trivial⟩ Tryz.func54 (by kernel_rfl) fun line a_r c0 κ x h=>Eq.trans (by kernel_rfl) (aj h)
def Hq {S:Type} (k:Nat):Rw S:=ag E4 MP fun c0 c1 c2 κ=>aa k (uj k c0 c1 c2) (Yf c0 c1 c2 κ)
def M0 {S:Type} (k:Nat):Fx S:=fp 11 [(141,wc (dg k))] [] k Tryz.f140 3
theorem RS {S:Type} (o:Obj) (ho:af o) (k:Nat):Tl o 140 (Hq k:Rw S):=ai (M0 k) ⟨zj o ho k,trivial⟩ Tryz.func140 (by kernel_rfl) fun c0 c1 c2 κ x h=>Eq.trans (by kernel_rfl) (aj h)
def Hr {S:Type} (k:Nat):Rw S:=ag UJ MP fun t numbers c0 c1 c2 κ=>aa k (yE k t numbers c0 c1 c2) (vO c0 c1 c2 κ)
def wY {S:Type} (k:Nat):Fx S:=⟨⟨30,(fun _=>[]),(fun _=>false),.none,fun|6=>true|7=>true|_=>false⟩,[(91,nO k),(140,Hq k)],[(5,⟨[(2,.none),(6,.none),(7,.none),(17,.none),(18,.none),(19,.none)],[(1000000,[.none]),(1000001,[.none]),(1000002,[.none,.none,.none,.none,.none,.none]),(5000006,[.none,.none,.none,some (320200387,true),some (320200388,true),some (320200389,true)]),(5000007,[.none])]⟩,ao 5 11)],k,Tryz.f139,false,[],3,some (tH 16 189 Tryz.f189 k)⟩
def FA (c0 c1:Int) (c2:Tm) (numbers:List Int) (v19:Int):St UU:=⟨[(2,(.func 140 [] [(pt 1000000),(pt 1000001),(pt 1000002)])),(6,(pt 5000006)),(7,(pt 5000007)),(17,(jZ numbers .none)),(18,(.int .i64 (numbers.length:Int))),(19,(iI v19))],[(1000000,bI c0),(1000001,bI c1),(1000002,bT c2),(5000006,.cells [(iI 0),(iI 0),(.str ByteArray.empty),(.own 320200387 0),(.own 320200388 0),(.own 320200389 0)]),(5000007,bI 0)],[(320200389,⟨0,ET.B,([]:List (Br Tm))⟩),(320200388,⟨0,ET.T,([]:List Tm)⟩),(320200387,⟨0,ET.C,([]:List Cl)⟩)],[(320200389,.wr),(320200388,.wr),(320200387,.wr)]⟩
section
variable {S:Type} (k:Nat) (t:Tm) (numbers:List Int) (c0 c1:Int) (c2:Tm) (κ:Out UU→Option S)
theorem O_: ∀n v19,(wY k).lp κ 5 [] n (FA c0 c1 c2 numbers v19)=kQ k (vO c0 c1 c2 κ) c0 c1 c2 numbers n v19:=bY (sN k (vO c0 c1 c2 κ) c0 c1 c2 numbers) rfl (fun _=>rfl) fun r v19=>by kernel_rfl
end
theorem RT {S:Type} (o:Obj) (ho:af o) (k:Nat):Tl o 139 (Hr k:Rw S):=Ml (wY k) rfl (Dv o Tryz.func189 (by kernel_rfl)) ⟨qh o ho k,RS o ho k,trivial⟩ Tryz.func139 (by kernel_rfl) fun t numbers c0 c1 c2 κ x h=>Eq.trans (b:=Ca k (vO c0 c1 c2 κ) (fun v19=>(wY k).lp κ 5 [] k (FA c0 c1 c2 numbers v19)) t numbers c0 c1 c2) (by kernel_rfl) (Eq.trans (by simp only [O_];rfl) (aj h))
def Hs {S:Type} (k:Nat):Rw S:=ag kK xn fun t vars dims κ=>aa k (ui k t vars dims) (c7 κ)
def M1 {S:Type} (k:Nat):Fx S:=fp 18 [(139,Hr k)] [] k Tryz.f92 0
theorem RU {S:Type} (o:Obj) (ho:af o) (k:Nat):Tl o 92 (Hs k:Rw S):=ai (M1 k) ⟨RT o ho k,trivial⟩ Tryz.func92 (by kernel_rfl) fun t vars dims κ x h=>Eq.trans (by kernel_rfl) (aj h)
def Aw {S:Type} (k:Nat):Rw S:=ag UK e7 fun t vars dims c0 κ=>aa k (d_ k t vars dims c0) (Hg κ)
def M3 {S:Type} (k:Nat):Fx S:=fp 30 [(52,lz k),(85,jV k),(92,Hs k)] [] k Tryz.f51 1
theorem DL {S:Type} (o:Obj) (ho:af o) (k:Nat):Tl o 51 (Aw k:Rw S):=ai (M3 k) ⟨mz o ho k,kC o ho k,RU o ho k,trivial⟩ Tryz.func51 (by kernel_rfl) fun t vars dims c0 κ x h=>Eq.trans (by kernel_rfl) (aj h)
def nJ {S:Type} (k:Nat):Rw S:=ag Fa xn fun kind kids κ=>aa k (bX k kind kids) (Hh κ)
def M4 {S:Type} (k:Nat):Fx S:=fx 8 (fun _=>[]) (fun _=>false) [] [] k Tryz.f50 true [] 0
theorem qc {S:Type} (o:Obj) (ho:af o) (k:Nat):Tl o 50 (nJ k:Rw S):=ai (M4 k) trivial Tryz.func50 (by kernel_rfl) fun kind kids κ x h=>Eq.trans (by kernel_rfl) (aj h)
def Ax {S:Type} (k:Nat):Rw S:=ag UM e7 fun t c0 κ=>aa k (fe k t c0) (Yh κ)
def M5 {S:Type} (k:Nat):Fx S:=fp 28 [(52,lz k),(85,jV k),(91,nO k)] [] k Tryz.f55 1
theorem DM {S:Type} (o:Obj) (ho:af o) (k:Nat):Tl o 55 (Ax k:Rw S):=ai (M5 k) ⟨mz o ho k,kC o ho k,qh o ho k,trivial⟩ Tryz.func55 (by kernel_rfl) fun t c0 κ x h=>Eq.trans (by kernel_rfl) (aj h)
def Ay {S:Type} (k:Nat):Rw S:=ag Fb xn fun line phi a a_end a_r κ=>aa k (pm k line phi a a_end a_r) (c7 κ)
def M6 {S:Type} (k:Nat):Fx S:=fp 49 [(48,AU k),(50,nJ k),(51,Aw k),(53,AX k),(54,Av k),(55,Ax k),(84,rz k),(85,jV k),(86,IB k)] [] k Tryz.f41 0
theorem DN {S:Type} (o:Obj) (ho:af o) (k:Nat):Tl o 41 (Ay k:Rw S):=ai (M6 k) ⟨D5 o ho k,qc o ho k,DL o ho k,D8 o ho k,DK o ho k,DM o ho k,uP o ho k,kC o ho k,S3 o ho k,trivial⟩ Tryz.func41 (by kernel_rfl) fun line phi a a_end a_r κ x h=>Eq.trans (by kernel_rfl) (aj h)
def Az {S:Type} (k:Nat):Rw S:=ag kL xn fun line phi a κ=>aa k (pk k line phi a) (c7 κ)
def M7 {S:Type} (k:Nat):Fx S:=fp 17 [(41,Ay k)] [] k Tryz.f11 0
theorem DO {S:Type} (o:Obj) (ho:af o) (k:Nat):Tl o 11 (Az k:Rw S):=ai (M7 k) ⟨DN o ho k,trivial⟩ Tryz.func11 (by kernel_rfl) fun line phi a κ x h=>Eq.trans (by kernel_rfl) (aj h)
def Hu {S:Type} (k:Nat):Rw S:=ag UN xn fun sys κ=>aa k (DA k sys) (Yi κ)
def M8 {S:Type} (k:Nat):Fx S:=fx 8 (fun _=>[]) (fun _=>false) [(50,nJ k)] [] k Tryz.f49 true [] 0
theorem RW {S:Type} (o:Obj) (ho:af o) (k:Nat):Tl o 49 (Hu k:Rw S):=ai (M8 k) ⟨qc o ho k,trivial⟩ Tryz.func49 (by kernel_rfl) fun sys κ x h=>Eq.trans (by kernel_rfl) (aj h)
def Hv {S:Type} (k:Nat):Rw S:=ag ES xn fun t a sys κ=>aa k (Dy k t a sys) (c7 κ)
def wZ {S:Type} (k:Nat):Fx S:=fp 76 [(48,AU k),(49,Hu k),(50,nJ k),(51,Aw k),(52,lz k),(53,AX k),(54,Av k),(55,Ax k)] [(4,⟨[(4,.none),(6,.none),(8,.none),(9,.none),(27,.none),(28,.none),(29,.none)],[(4,[.none,.none,.none,.none,.none,.none]),(6,[.none,.none,.none,some (200387,true),some (200388,true),some (200389,true)]),(9,[.none,.none,.none,some (200579,true),.none,some (200581,true)]),(19000,[.none])]⟩,ao 6 23)] k Tryz.f18 0
def FB (a:Tm) (r5:Int×Int×ByteArray×List Tm) (sys:List (Br Tm)) (b19000_0:Int) (b9_5:List (Br Tm)) (v29:Int):St UU:=⟨[(4,(pt 4)),(6,(pt 6)),(8,(pt 19000)),(9,(pt 9)),(27,(sB sys)),(28,(.int .i64 (sys.length:Int))),(29,(iI v29))],[(4,bT a),(6,.cells [(iI 0),(iI 0),(.str ByteArray.empty),(.own 200387 0),(.own 200388 0),(.own 200389 0)]),(9,.cells [(iI r5.1),(iI r5.2.1),(.str r5.2.2.1),(.own 200579 0),(sT r5.2.2.2),(.own 200581 0)]),(19000,bI b19000_0)],[(200581,⟨0,ET.B,b9_5⟩),(200579,⟨0,ET.C,([]:List Cl)⟩),(200389,⟨0,ET.B,([]:List (Br Tm))⟩),(200388,⟨0,ET.T,([]:List Tm)⟩),(200387,⟨0,ET.C,([]:List Cl)⟩)],[(200581,.wr),(200579,.wr),(200389,.wr),(200388,.wr),(200387,.wr)]⟩
section
variable {S:Type} (k:Nat) (t a:Tm) (sys:List (Br Tm)) (κ:Out UU→Option S)
theorem Pa (r5): ∀n b19000_0 b9_5 v29,(wZ k).lp κ 4 [] n (FB a r5 sys b19000_0 b9_5 v29)=zC k (c7 κ) a r5 sys n b19000_0 b9_5 v29:=iA (Dh k (c7 κ) a r5 sys) rfl (fun _=>rfl) fun r b19000_0 b9_5 v29=>by kernel_rfl
end
theorem RX {S:Type} (o:Obj) (ho:af o) (k:Nat):Tl o 18 (Hv k:Rw S):=ai (wZ k) ⟨D5 o ho k,RW o ho k,qc o ho k,DL o ho k,mz o ho k,D8 o ho k,DK o ho k,DM o ho k,trivial⟩ Tryz.func18 (by kernel_rfl) fun t a sys κ x h=>Eq.trans (b:=KB k (c7 κ) (fun r5 b19000_0 b9_5 v29=>(wZ k).lp κ 4 [] k (FB a r5 sys b19000_0 b9_5 v29)) t a sys) (by kernel_rfl) (Eq.trans (by simp only [Pa];rfl) (aj h))
def vR {S:Type} (k:Nat):Rw S:=ag fO xn fun a b κ=>aa k (gy k a b) (aq κ)
def w5 {S:Type} (k:Nat):Fx S:=fp 26 [] [(4,aN [0,1,5] [],ao 5 11)] k Tryz.f24 0
def FC (a b:List Cl) (i5:Int):St UU:=⟨[(0,(sC a)),(1,(sC b)),(5,(iI i5))],[],[],[]⟩
section
variable {S:Type} (k:Nat) (a b:List Cl) (κ:Out UU→Option S)
theorem Pb: ∀n i5,(w5 k).lp κ 4 [] n (FC a b i5)=iq k (aq κ) a b n i5:=bY (lP k (aq κ) a b) rfl (fun _=>rfl) fun r i5=>by kernel_rfl
end
theorem yT {S:Type} (o:Obj) (ho:af o) (k:Nat):Tl o 24 (vR k:Rw S):=ai (w5 k) trivial Tryz.func24 (by kernel_rfl) fun a b κ x h=>Eq.trans (b:=wH k (aq κ) (fun i5=>(w5 k).lp κ 4 [] k (FC a b i5)) a b) (by kernel_rfl) (Eq.trans (by simp only [Pb];rfl) (aj h))
def AB {S:Type} (k:Nat):Rw S:=ag ei xn fun a_n κ=>aa k (ku k a_n) (Hi κ)
def M9 {S:Type} (k:Nat):Fx S:=fx 5 (fun _=>[]) (fun _=>false) [] [] k Tryz.f69 true [] 0
theorem DP {S:Type} (o:Obj) (ho:af o) (k:Nat):Tl o 69 (AB k:Rw S):=ai (M9 k) trivial Tryz.func69 (by kernel_rfl) fun a_n κ x h=>Eq.trans (by kernel_rfl) (aj h)
def Hw {S:Type} (k:Nat):Rw S:=ag dy xn fun a_r κ=>aa k (ym k a_r) (Yj κ)
def M_ {S:Type} (k:Nat):Fx S:=fx 13 (fun _=>[]) (fun _=>false) [(50,nJ k),(69,AB k)] [] k Tryz.f71 true [] 0
theorem RY {S:Type} (o:Obj) (ho:af o) (k:Nat):Tl o 71 (Hw k:Rw S):=ai (M_ k) ⟨qc o ho k,DP o ho k,trivial⟩ Tryz.func71 (by kernel_rfl) fun a_r κ x h=>Eq.trans (by kernel_rfl) (aj h)
def Hy {S:Type} (k:Nat):Rw S:=ag cn xn fun κ=>aa k (Dz k) (Hh κ)
def Nb {S:Type} (k:Nat):Fx S:=fx 37 (fun _=>[]) (fun _=>false) [(50,nJ k),(69,AB k),(71,Hw k)] [] k Tryz.f31 true [] 0
theorem R0 {S:Type} (o:Obj) (ho:af o) (k:Nat):Tl o 31 (Hy k:Rw S):=ai (Nb k) ⟨qc o ho k,DP o ho k,RY o ho k,trivial⟩ Tryz.func31 (by kernel_rfl) fun κ x h=>Eq.trans (by kernel_rfl) (aj h)
def Hz {S:Type} (k:Nat):Rw S:=ag kK xn fun t vars dims κ=>aa k (DC k t vars dims) (aE κ)
def Nc {S:Type} (k:Nat):Fx S:=fp 28 [(80,As k),(81,nN (eJ k))] [] k Tryz.f37 0
theorem R1 {S:Type} (o:Obj) (ho:af o) (k:Nat):Tl o 37 (Hz k:Rw S):=ai (Nc k) ⟨DI o ho k,zi o ho k,trivial⟩ Tryz.func37 (by kernel_rfl) fun t vars dims κ x h=>Eq.trans (by kernel_rfl) (aj h)
def HA {S:Type} (k:Nat):Rw S:=ag cn xn fun κ=>aa k (l_ k) (aq κ)
def Nd {S:Type} (k:Nat):Fx S:=fp 75 [(11,Az k),(18,Hv k),(24,vR k),(31,Hy k),(37,Hz k)] [] k Tryz.f10 0
theorem R2 {S:Type} (o:Obj) (ho:af o) (k:Nat):Tl o 10 (HA k:Rw S):=ai (Nd k) ⟨DO o ho k,RX o ho k,yT o ho k,R0 o ho k,R1 o ho k,trivial⟩ Tryz.func10 (by kernel_rfl) fun κ x h=>Eq.trans (by kernel_rfl) (aj h)
def AC {S:Type} (hd:fC S):Rw S:=ag jv xn fun t κ=>hd t (aE κ)
def j9 {S:Type} (hd:fC S) (k:Nat):Fx S:=fp 60 [(177,AC hd)] [(3,aN [1,3,4] [(1,6)],ao 5 11),(9,aN [1,3,6] [(1,6)],ao 6 23),(12,aN [1,3,6,7] [(1,6)],ao 12 1175)] k Tryz.f177 0
def zT (t:Tm) (most3 i4:Int):St UU:=⟨[(1,(pt 1)),(3,(iI most3)),(4,(iI i4))],[(1,bT t)],[],[]⟩
def qH (t:Tm) (most3' i6:Int):St UU:=⟨[(1,(pt 1)),(3,(iI most3')),(6,(iI i6))],[(1,bT t)],[],[]⟩
def FD (t:Tm) (i6:Int) (most3'' v7:Int):St UU:=⟨[(1,(pt 1)),(3,(iI most3'')),(6,(iI i6)),(7,(iI v7))],[(1,bT t)],[],[]⟩
section
variable {S:Type} (hd:fC S) (k:Nat) (t:Tm) (κ:Out UU→Option S)
theorem Pe (i6 κ1): ∀n most3'' v7,(j9 hd k).lp κ 12 [κ1] n (FD t i6 most3'' v7)=it hd k (aE κ) (fun most3' i6=>κ1 (qH t most3' i6)) t i6 n most3'' v7:=aP (tk hd k (aE κ) t i6 (fun most3' i6=>κ1 (qH t most3' i6))) rfl (fun _=>rfl) fun r most3'' v7=>by kernel_rfl
theorem Pd: ∀n most3' i6,(j9 hd k).lp κ 9 [] n (qH t most3' i6)=fQ hd k (aE κ) t n most3' i6:=aP (fun own=>oT hd k (aE κ) t (fun i6 most3'' v7=>it hd k (aE κ) own t i6 k most3'' v7) own) rfl (fun _=>rfl) fun r most3' i6=>Eq.trans (b:=oT hd k (aE κ) t (fun i6 most3'' v7=>(j9 hd k).lp κ 12 [r] k (FD t i6 most3'' v7)) (fun most3' i6=>r (qH t most3' i6)) most3' i6) (by kernel_rfl) (by simp only [Pe])
theorem Pc: ∀n most3 i4,(j9 hd k).lp κ 3 [] n (zT t most3 i4)=kZ hd k (aE κ) t n most3 i4:=aP (fun own=>oS hd k (aE κ) t (fun most3' i6=>fQ hd k (aE κ) t k most3' i6) own) rfl (fun _=>rfl) fun r most3 i4=>Eq.trans (b:=oS hd k (aE κ) t (fun most3' i6=>(j9 hd k).lp κ 9 [] k (qH t most3' i6)) (fun most3 i4=>r (zT t most3 i4)) most3 i4) (by kernel_rfl) (by simp only [Pd])
end
theorem EB {S:Type} (o:Obj) (ho:af o): ∀k:Nat,Tl o 177 (AC (gz k:fC S))
 |0=>eX fun t κ x h=>by cases h
 |k+1=>ai (j9 (gz k) k) ⟨EB o ho k,trivial⟩ Tryz.func177 (by kernel_rfl) fun t κ x h=>Eq.trans (b:=CC (gz k) k (aE κ) (fun most3 i4=>(j9 (gz k) k).lp κ 3 [] k (zT t most3 i4)) t) (by kernel_rfl) (Eq.trans (by simp only [Pc];rfl) h)
def AD {S:Type} (hd:fE S):Rw S:=ag jv xn fun t κ=>hd t (aE κ)
def j_ {S:Type} (hd:fE S) (k:Nat):Fx S:=fp 53 [(178,AD hd)] [(3,aN [1,3,4] [(1,6)],ao 5 11),(7,aN [1,3,5] [(1,6)],ao 6 23),(10,aN [1,3,5,6] [(1,6)],ao 12 1175)] k Tryz.f178 0
def zU (t:Tm) (v3 i4:Int):St UU:=⟨[(1,(pt 1)),(3,(iI v3)),(4,(iI i4))],[(1,bT t)],[],[]⟩
def qI (t:Tm) (v3' i5:Int):St UU:=⟨[(1,(pt 1)),(3,(iI v3')),(5,(iI i5))],[(1,bT t)],[],[]⟩
def FE (t:Tm) (i5:Int) (v3'' v6:Int):St UU:=⟨[(1,(pt 1)),(3,(iI v3'')),(5,(iI i5)),(6,(iI v6))],[(1,bT t)],[],[]⟩
section
variable {S:Type} (hd:fE S) (k:Nat) (t:Tm) (κ:Out UU→Option S)
theorem Ph (i5 κ1): ∀n v3'' v6,(j_ hd k).lp κ 10 [κ1] n (FE t i5 v3'' v6)=jL hd k (aE κ) (fun v3' i5=>κ1 (qI t v3' i5)) t i5 n v3'' v6:=aP (tn hd k (aE κ) t i5 (fun v3' i5=>κ1 (qI t v3' i5))) rfl (fun _=>rfl) fun r v3'' v6=>by kernel_rfl
theorem Pg: ∀n v3' i5,(j_ hd k).lp κ 7 [] n (qI t v3' i5)=fR hd k (aE κ) t n v3' i5:=aP (fun own=>oV hd k (aE κ) t (fun i5 v3'' v6=>jL hd k (aE κ) own t i5 k v3'' v6) own) rfl (fun _=>rfl) fun r v3' i5=>Eq.trans (b:=oV hd k (aE κ) t (fun i5 v3'' v6=>(j_ hd k).lp κ 10 [r] k (FE t i5 v3'' v6)) (fun v3' i5=>r (qI t v3' i5)) v3' i5) (by kernel_rfl) (by simp only [Ph])
theorem Pf: ∀n v3 i4,(j_ hd k).lp κ 3 [] n (zU t v3 i4)=nf hd k (aE κ) t n v3 i4:=aP (fun own=>oU hd k (aE κ) t (fun v3' i5=>fR hd k (aE κ) t k v3' i5) own) rfl (fun _=>rfl) fun r v3 i4=>Eq.trans (b:=oU hd k (aE κ) t (fun v3' i5=>(j_ hd k).lp κ 7 [] k (qI t v3' i5)) (fun v3 i4=>r (zU t v3 i4)) v3 i4) (by kernel_rfl) (by simp only [Pg])
end
theorem EC {S:Type} (o:Obj) (ho:af o): ∀k:Nat,Tl o 178 (AD (gA k:fE S))
 |0=>eX fun t κ x h=>by cases h
 |k+1=>ai (j_ (gA k) k) ⟨EC o ho k,trivial⟩ Tryz.func178 (by kernel_rfl) fun t κ x h=>Eq.trans (b:=CE (gA k) k (aE κ) (fun v3 i4=>(j_ (gA k) k).lp κ 3 [] k (zU t v3 i4)) t) (by kernel_rfl) (Eq.trans (by simp only [Pf];rfl) h)
def HB {S:Type} (k:Nat):Rw S:=ag jv xn fun t κ=>aa k (uz k t) (aE κ)
def Nf {S:Type} (k:Nat):Fx S:=fp 9 [(177,AC (gz k)),(178,AD (gA k))] [] k Tryz.f134 0
theorem R3 {S:Type} (o:Obj) (ho:af o) (k:Nat):Tl o 134 (HB k:Rw S):=ai (Nf k) ⟨EB o ho k,EC o ho k,trivial⟩ Tryz.func134 (by kernel_rfl) fun t κ x h=>Eq.trans (by kernel_rfl) (aj h)
def HC {S:Type} (k:Nat):Rw S:=ag ei xn fun kind κ=>aa k (pN k kind) (aE κ)
def Ng {S:Type} (k:Nat):Fx S:=fp 14 [] [] k Tryz.f119 0
theorem R4 {S:Type} (o:Obj) (ho:af o) (k:Nat):Tl o 119 (HC k:Rw S):=ai (Ng k) trivial Tryz.func119 (by kernel_rfl) fun kind κ x h=>Eq.trans (by kernel_rfl) (aj h)
def HD {S:Type} (k:Nat):Rw S:=ag ei xn fun kind κ=>aa k (ml k kind) (aE κ)
def Nh {S:Type} (k:Nat):Fx S:=fp 15 [] [] k Tryz.f179 0
theorem R5 {S:Type} (o:Obj) (ho:af o) (k:Nat):Tl o 179 (HD k:Rw S):=ai (Nh k) trivial Tryz.func179 (by kernel_rfl) fun kind κ x h=>Eq.trans (by kernel_rfl) (aj h)
def HE {S:Type} (k:Nat):Rw S:=ag EU xn fun s κ=>aa k (uy k s) (aq κ)
def n8 {S:Type} (k:Nat):Fx S:=fp 45 [] [(2,aN [0,3] [],ao 4 5),(1000006,aN [0,3,4] [],ao 10 805)] k Tryz.f180 0
def qJ (s:ByteArray) (i3:Int):St UU:=⟨[(0,(.str s)),(3,(iI i3))],[],[],[]⟩
def FF (s:ByteArray) (i3:Int) (x1:UInt8):St UU:=⟨[(0,(.str s)),(3,(iI i3)),(4,(.int .u8 (x1.toNat:Int)))],[],[],[]⟩
section
variable {S:Type} (k:Nat) (s:ByteArray) (κ:Out UU→Option S)
theorem Pj (i3 x1 κ0): ∀n,(n8 k).jn κ 1000006 [κ0] n (FF s i3 x1)=vh k (aq κ) (fun i3=>κ0 (qJ s i3)) s i3 x1 n:=ju (xZ k (aq κ) s i3 x1 (fun i3=>κ0 (qJ s i3))) rfl (fun _=>rfl) (by kernel_rfl)
theorem Pi: ∀n i3,(n8 k).lp κ 2 [] n (qJ s i3)=la k (aq κ) s n i3:=bY (fun own=>oW k (aq κ) s (fun i3 x1=>vh k (aq κ) own s i3 x1 k) own) rfl (fun _=>rfl) fun r i3=>Eq.trans (b:=oW k (aq κ) s (fun i3 x1=>(n8 k).jn κ 1000006 [r] k (FF s i3 x1)) (fun i3=>r (qJ s i3)) i3) (by kernel_rfl) (by simp only [Pj])
end
theorem R6 {S:Type} (o:Obj) (ho:af o) (k:Nat):Tl o 180 (HE k:Rw S):=ai (n8 k) trivial Tryz.func180 (by kernel_rfl) fun s κ x h=>Eq.trans (b:=CG k (aq κ) (fun i3=>(n8 k).lp κ 2 [] k (qJ s i3)) s) (by kernel_rfl) (Eq.trans (by simp only [Pi];rfl) (aj h))
def vS {S:Type} (k:Nat):Rw S:=ag ei xn fun a_n κ=>aa k (mf k a_n) (aE κ)
def w6 {S:Type} (k:Nat):Fx S:=fp 13 [] [(3,aN [0,3,4] [],ao 5 11)] k Tryz.f187 0
def FG (a_n:Int) (p3 i4:Int):St UU:=⟨[(0,(iI a_n)),(3,(iI p3)),(4,(iI i4))],[],[],[]⟩
section
variable {S:Type} (k:Nat) (a_n:Int) (κ:Out UU→Option S)
theorem Pk: ∀n p3 i4,(w6 k).lp κ 3 [] n (FG a_n p3 i4)=mV k (aE κ) a_n n p3 i4:=aP (sV k (aE κ) a_n) rfl (fun _=>rfl) fun r p3 i4=>by kernel_rfl
end
theorem yU {S:Type} (o:Obj) (ho:af o) (k:Nat):Tl o 187 (vS k:Rw S):=ai (w6 k) trivial Tryz.func187 (by kernel_rfl) fun a_n κ x h=>Eq.trans (b:=Ci k (aE κ) (fun p3 i4=>(w6 k).lp κ 3 [] k (FG a_n p3 i4)) a_n) (by kernel_rfl) (Eq.trans (by simp only [Pk];rfl) (aj h))
end
end Go.Proofs.YtapmagaejigpnaaGreatDoor
