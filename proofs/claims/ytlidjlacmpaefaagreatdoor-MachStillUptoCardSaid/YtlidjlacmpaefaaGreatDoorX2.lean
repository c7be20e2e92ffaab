/- Part 2 of a proof: the sources, with their names and remarks, lie in wip/. -/
import Derived.Test.YtlidjlacmpaefaaGreatDoorX1
import Derived.LoopN
import Derived.Scope
import Derived.Recover
import Derived.Orders
import Derived.Test.YtlidjlacmpaefaaGreatDoorProg
import Derived.KernelRfl
import Derived.Test.YtlidjlacmpaefaaGreatDoorRows
import Derived.ProofKit
import Derived.OpenShut
import Derived.ChangeArms
import Derived.Deep.Slices
import Derived.Shelf.SlSortCmp.NoneTotal
import Derived.Ground.SlsfProg
import Derived.Shelf.Spec.TrailingZeros
import Derived.RangeFuncBound
import Derived.RangeFuncLeaves
import Derived.RangeFuncOwn
import Derived.OwnWalkIn
import Derived.TacticsInMore
import Derived.LoopNIn
import Derived.LoopIn
import Derived.Maps.RangeWalk
import Derived.Maps.AppendAt
import Derived.Test.YtlidjlacmpaefaaGreatDoorCards
import Derived.Test.YtlidjlacmpaefaaGreatDoorTie
import Derived.WalkKit
import Derived.ReadAgain
import Derived.Deep.DeepHandedRow
import Derived.Lib.LaidTab
open Array renaming getD_eq_getD_getElem?→ct
open Bool renaming and_eq_true→aj
open ByteArray renaming empty→aY
open Go.IntKind renaming wrap→ay
open List renaming all_eq_true→bW,append_nil→ei,getElem?_eq_getElem→bP,getElem?_eq_some_iff→bS,getElem?_map→ej,length→dH,length_map→e_,map_cons→ek,mem_append→cP,mem_cons→cu,mem_map→ck,mem_of_getElem?→dk
open Nat renaming beq→ac,ble→a7,blt→cG,le_of_ble_eq_true→eI,le_refl→b7,le_trans→dI,lt_of_lt_of_le→eJ,zero_add→b8
open Option renaming bind→aN,bind_eq_some_iff→gk,bind_some→bB,map_eq_some_iff→fL,none→dl
set_option linter.unusedVariables false
set_option linter.unusedSimpArgs false
namespace Go.Proofs.YtlidjlacmpaefaaGreatDoor.PI
open Go
section
variable {U:Uni} {V:Env U} {P:Program} {X:Link V P} {K:bA U} {S:Side U} {c:Ctx} {ann:Nat->Option Ann}
theorem Lands.eqv {ds:List Deferred} {e:Ex U} {σ σ':St U} {Q:Exit->Act->World->Prop} (h:Lands X c ds e σ Q) (he:σ'.eqv σ):Lands X c ds e σ' Q:=
 fun a w g D hd hs=>h a w g D hd (hs.eqv he)
def ma (X:Link V P) (c:Ctx):Option Ann->Code->St U->Ex U->St U->Prop
 |none,code,σ,e,σ'=> ∀ (a:Act) (w:World) (g:Gh U) (D:Nat->Option Nat) (Q:Exit->Act->World->Prop),Sim X c a.tmps w σ g D->Lands X c a.defers e σ' Q->code.wp P Q a w
 |some A,code,σ,e,σ'=> ∃n,∀ (a:Act) (w:World) (g:Gh U) (D:Nat->Option Nat) (Q:Exit->Act->World->Prop),Sim X c a.tmps w σ g D->Lands X c a.defers e σ' Q->Code.rounds P code Q n a w
theorem yY {next:Act->World->Prop} {Q:Exit->Act->World->Prop} {ds:List Deferred} {e:Ex U} {σ':St U} (h:Lands X c ds e σ' Q) (he:e≠ .normal):Lands X c ds e σ' (Exit.then next Q):=by
 intro a w g D hd hs
 have:=h a w g D hd hs
 cases e with
 |normal=>grind
 |exit id=>exact this
 |ret=>exact this
 |panic v=>exact this
theorem DJ {Q:Exit->Act->World->Prop} {ds:List Deferred} {e:Ex U} {σ':St U} {id:Nat} (h:Lands X c ds e σ' Q) (he:e≠ .exit id):Lands X c ds e σ' (Exit.inBlock id Q):=by
 intro a w g D hd hs
 have:=h a w g D hd hs
 grind [Exit.inBlock]
theorem FN {Q:Exit->Act->World->Prop} {ds:List Deferred} {e:Ex U} {σ':St U} (h:Lands X c ds e σ' Q):Lands X c ds e σ' (Exit.noGoto Q):=by
 intro a w g D hd hs
 have:=h a w g D hd hs
 cases e with
 |normal=>exact this
 |exit id=>exact this
 |ret=>exact this
 |panic v=>exact this
theorem ja (hm:P.follows .mixedOrders=true) (hS:gZ X K S c) (hnt:c.nt=S.nt) {o:Option Ann} {code:Code} {σ:St U} {e:Ex U} {σ':St U} (h:Big K V S ann o code σ e σ'):ma X c o code σ e σ':=by
 induction h with
 |skip σ=>exact fun a w g D Q hs hl=>Go.wp_skip (hl a w g D rfl hs)
 |label l σ=>exact fun a w g D Q hs hl=>wp_label (hl a w g D rfl hs)
 |region id ops draw σ e σ' fps hd h hf=>
  intro a w g D Q hs hl
  rw [<-hnt] at hd
  cases draw with
  |false=>
   refine wp_region ?_
   rw [List.range_eq_range']
   have:=zk (Q:=Q) hS ops.toList 0 a w σ g D fps (by simp) hd hs h hl
   omega
  |true=>
   obtain ⟨rfl,hfor,hfree⟩:=hf rfl
   refine wp_region_any hm ?_
   obtain ⟨hlen,hseq⟩:=H_ ops.toList 0 σ σ' fps (by simp) h
   have hlen':fps.length=ops.size:=by omega
   refine Je hS hd hfor hfree hl ops.size _ ((List.range' 0 ops.toList.length).zip fps) a _ σ g D (by grind) ⟨by simp, ?_,fun x hx=> ?_,fun k o hk=> ?_⟩ rfl hs.drew hseq
   ·have h1:((List.range' 0 ops.toList.length).zip fps).map (·.1)=List.range' 0 ops.toList.length:=List.map_fst_zip (by grind)
    rw [h1,List.filter_eq_self.2,List.range_eq_range']
    all_goals simp_all
   ·grind [List.mem_iff_getElem?]
   ·exfalso
    have:(Array.replicate ops.size false).getD k false=false:=by
     rw [ct,Array.getElem?_replicate]
     grind
    grind
 |regionP id ops σ v σ' σ'' τ fps ll σl hd h he hv hlt hf hc=>
  intro a w g D Q hs hl
  rw [<-hnt] at hd
  obtain ⟨fs,f,o,σ1,hfps,ho,hseq,hj⟩:=Ia (ops:=ops) ops.toList 0 σ σ' fps v (by simp) h
  subst hfps
  rw [b8] at ho
  obtain ⟨L,σe,hR,hsq,hal,hfor,hjL,hlen⟩:=GU ho hseq hj he hlt hf
  refine wp_region_any hm ?_
  have hjs:fs.length<ops.size:=(Array.getElem?_eq_some_iff.1 ho).1
  have hrep: ∀i d,(Array.replicate ops.size false).getD i d=(if i<ops.size then false else d):=by
   intro i d
   rw [ct,Array.getElem?_replicate]
   grind
  have hwp:=Jf (v:=v) hS hd hfor hR (ds:=a.defers) (Q:=Q) (fun a' w' g' D' τ' hdf hs' hal' val hval=>by
    have hc2:cR (eY σ τ') τ'=some τ:=by rw [<-tN hal',tN hal];exact hc
    obtain ⟨g2,D2,hs2⟩:=mL hs' hc2
    refine hl a' w' g2 D2 hdf hs2 val ?_
    cases v with
    |iface t p=>
     cases p with
     |int k n=>cases hval with
      |iface _ u _ hu=>cases hu;exact .iface _ _ _ (.int _ _)
     |_=>cases hv
    |_=>cases hv) L.length (Array.replicate ops.size false) L a _ σ g D rfl (by simp) ?_ (fun i hi _=>by simp_all) (by simp_all) hjL (fun k o' hk=> ?_) rfl hs.drew hsq
  ·simp_all
  ·rw [List.filter_eq_self.2]
   intro x hx
   rw [hrep,if_pos (hR.lt x hx)];rfl
  simp_all
 |seqN x y σ σ1 e σ' h1 h2 i1 i2=>
  intro a w g D Q hs hl
  exact wp_seq (i1 a w g D _ hs fun a' w' g' D' hd hs'=>i2 a' w' g' D' Q hs' (by grind))
 |seqJ x y A σ σ1 τ e σ' h1 hA hc h2 i1 i2=>
  intro a w g D Q hs hl
  refine wp_seq (i1 a w g D _ hs fun a' w' g' D' hd hs'=> ?_)
  obtain ⟨g2,D2,hs2⟩:=mL hs' hc
  exact i2 a' w' g2 D2 Q hs2 (by grind)
 |seqE x y σ e σ' h1 he i1=>exact fun a w g D Q hs hl=>wp_seq (i1 a w g D _ hs (yY hl he))
 |cond j x y σ t e σ' hj h ih=>
  intro a w g D Q hs hl
  have hR:=hs.regs j
  rw [hj] at hR
  refine wp_cond (t:=t) (fZ hR) ?_
  cases t with
  |true=>exact ih a w g D Q hs hl
  |false=>exact ih a w g D Q hs hl
 |blockIn id x σ σ' h ih=>
  intro a w g D Q hs hl
  refine wp_block (ih a w g D _ hs fun a' w' g' D' hd hs'=> ?_)
  simp only [Exit.inBlock,if_true]
  exact hl a' w' g' D' hd hs'
 |blockOut id x σ e σ' h he ih=>exact fun a w g D Q hs hl=>wp_block (ih a w g D _ hs (DJ hl he))
 |loop x A σ τ e σ' hA hc h ih=>
  intro a w g D Q hs hl
  obtain ⟨n,hn⟩:=ih
  obtain ⟨g',D',hs'⟩:=mL hs hc
  grind [wp_loop_rounds]
 |scope x σ e σ' h ih=>exact fun a w g D Q hs hl=>wp_scope_straight (ih a w g D _ hs (FN hl))
 |exit id σ=>exact fun a w g D Q hs hl=>wp_exit (hl a w g D rfl hs)
 |ret σ=>exact fun a w g D Q hs hl=>wp_ret (hl a w g D rfl hs)
 |round x A σ σ1 τ e σ' h hc h' i1 i2=>
  obtain ⟨n,hn⟩:=i2
  refine ⟨n+1,fun a w g D Q hs hl=> ?_⟩
  rw [rounds_succ]
  refine i1 a w g D _ hs fun a' w' g' D' hd hs'=> ?_
  obtain ⟨g2,D2,hs2⟩:=mL hs' hc
  exact hn a' w' g2 D2 Q hs2 (by grind)
 |leave x A σ e σ' h he i1=>
  refine ⟨1,fun a w g D Q hs hl=> ?_⟩
  rw [rounds_succ]
  exact i1 a w g D _ hs (yY hl he)
 |pre o x σ0 σ e σ' he h ih=>
  cases o with
  |none=>exact fun a w g D Q hs hl=>ih a w g D Q (hs.eqv he) hl
  |some A=>obtain ⟨n,hn⟩:=ih;exact ⟨n,fun a w g D Q hs hl=>hn a w g D Q (hs.eqv he) hl⟩
 |post o x σ e σ1 σ' he h ih=>
  cases o with
  |none=>exact fun a w g D Q hs hl=>ih a w g D Q hs (hl.eqv he)
  |some A=>obtain ⟨n,hn⟩:=ih;exact ⟨n,fun a w g D Q hs hl=>hn a w g D Q hs (hl.eqv he)⟩
end
section
variable {U:Uni} {V:Env U} {P:Program} {X:Link V P} {S:Side U} {c:Ctx}
theorem iD (hI:gh X) (hS:S.rcv=none) (hP:PinOK S c):gZ X (bL X) S c:=by
 intro o a w σ g D r τ fp gp next Q hd h hr ht
 obtain ⟨dst,op,ty,pos,after,gd⟩:=o
 cases op with
 |move x=>exact Gk hd h hr ht
 |assign x=>exact FW hd h hr ht
 |pick x y z=>exact Gn hd h hr ht
 |alloc t=>exact FV hP hd h hr ht
 |box t x=>exact FY hP hd h hr ht
 |build t ps=>exact FZ hd h hr ht
 |buildSlice t n ps=>exact F0 hd h hr ht
 |load t x=>exact Gc hd h hr ht
 |store t x y=>exact Gq h hr ht
 |nilCheck x=>exact Gl hd h hr ht
 |binOp b t x y u=>exact FX hd h hr ht
 |unOp u t x=>exact Gs hd h hr ht
 |convert s t x=>exact F6 hd h hr ht
 |makeFunc f xs ys=>cases f with
  |func f=>exact Gf hd h hr ht
  |_=>exact hr.elim
 |makeInterface t x=>exact Gg hd h hr ht
 |typeAssert x s t ok=>cases ok with
  |true=>exact Gr hd h hr ht
  |false=>exact hr.elim
 |makeMap t x=>cases x with
  |none=>exact Gi hd h hr ht
  |some x=>exact hr.elim
 |lookup t m x ok=>exact Ge hd h hr ht
 |mapUpdate t m x y=>exact Gj h hr ht
 |slice t x lo hi mx=>exact Gp hd h hr ht
 |fieldAddr s x f=>exact F9 hd h hr ht
 |field s x f=>exact F8 hd h hr ht
 |indexAddr t x i=>exact Ga hd h hr ht
 |index t x i=>exact F_ hd h hr ht
 |extract x i=>exact F7 hd h hr ht
 |panic x=>exact Gm h hr ht
 |call cl=>
  cases hc:cl.callee with
  |builtin b=>
   by_cases hb:b= .recover
   ·subst hb
    obtain ⟨callee,args,ats⟩:=cl
    simp only at hc
    subst hc
    simp only [bh,hS] at hr
    exact hr.elim
   ·exact F1 hc hb hd h hr ht
  |value f=>exact F5 hI hc hd h hr ht
  |invoke x n=>
   obtain ⟨callee,args,ats⟩:=cl
   simp only at hc
   subst hc
   exact Gb hd h hr ht
 |_=>exact hr.elim
end
section
variable {U:Uni} {V:Env U} {P:Program} {X:Link V P}
theorem Il: ∀ (args:List (PV U)) (s n:Nat),bw (l7 s args) n=if s<=n then (args[n-s]?).map (yT n) else none:=by
 intro args
 induction args with
 |nil=>intro s n;simp [l7,bw]
 |cons p args ih=>
  intro s n
  simp only [l7,eV,ih]
  by_cases h:s=n
  ·subst h;simp
  ·rw [if_neg h]
   by_cases h2:s<=n
   ·rw [if_pos h2,if_pos (by omega)]
    obtain ⟨k,rfl⟩: ∃k,n=s+(k+1):=⟨n-s-1,by omega⟩
    rw [show s+(k+1)-(s+1)=k by omega,show s+(k+1)-s=k+1 by omega]
    simp
   ·rw [if_neg h2,if_neg (by omega)]
def dP (args:List (PV U)) (j:Nat):Option (Ob U):=match args[j]? with|some (.fresh e l)=>some ⟨0,e,l⟩|_=>none
theorem yS: ∀ (args:List (PV U)) (s i:Nat),bw (eE s args) i=if 2000000+s<=i then dP args (i-2000000-s) else none:=by
 intro args
 induction args with
 |nil=>intro s i;simp [eE,bw,dP]
 |cons p args ih=>
  intro s i
  have tail:bw (eE (s+1) args) i=if 2000000+s<=i/\i≠2000000+s then dP (p::args) (i-2000000-s) else none:=by
   rw [ih]
   by_cases h:2000000+(s+1)<=i
   ·rw [if_pos h,if_pos ⟨by omega,by omega⟩]
    obtain ⟨k,rfl⟩: ∃k,i=2000000+s+(k+1):=⟨i-2000000-s-1,by omega⟩
    rw [show 2000000+s+(k+1)-2000000-(s+1)=k by omega,show 2000000+s+(k+1)-2000000-s=k+1 by omega]
    simp [dP]
   ·rw [if_neg h,if_neg (by omega)]
  have plain:p.notFresh=true->eE s (p::args)=eE (s+1) args:=by
   intro hp;cases p<;>first|rfl|cases hp
  by_cases hp:p.notFresh=true
  ·rw [plain hp,tail]
   by_cases h1:2000000+s<=i
   ·rw [if_pos h1]
    by_cases h2:i=2000000+s
    ·subst h2
     rw [if_neg (by omega)]
     have:2000000+s-2000000-s=0:=by omega
     rw [this]
     unfold dP
     simp only [List.getElem?_cons_zero]
     cases p<;>first|rfl|cases hp
    ·rw [if_pos ⟨h1,h2⟩]
   ·rw [if_neg h1,if_neg (by omega)]
  ·cases p with
   |fresh e l=>
    simp only [eE,eV,tail]
    by_cases h1:2000000+s=i
    ·subst h1
     rw [if_pos rfl,if_pos (b7 _)]
     have:2000000+s-2000000-s=0:=by omega
     rw [this];rfl
    ·rw [if_neg h1]
     by_cases h2:2000000+s<=i
     ·rw [if_pos ⟨h2,Ne.symm h1⟩,if_pos h2]
     ·rw [if_neg (by omega),if_neg h2]
   |_=>exact absurd rfl hp
end
section
variable {U:Uni} {V:Env U} {P:Program} {X:Link V P}
theorem Jn {boxes:List (Box U)}: ∀ (n s id:Nat) (bs:List (Box U)),n=bs.length->bw ((bz s n).zip bs) id=if s<=id then bs[id-s]? else none:=by
 intro n
 induction n with
 |zero=>intro s id bs h;have:bs=[]:=List.eq_nil_of_length_eq_zero h.symm;simp_all [bw]
 |succ n ih=>
  intro s id bs h
  cases bs<;>grind [bz,List.zip_cons_cons,eV]
def dG (n:Nat) (ν:Nat->Nat) (args:List (PV U)) (vs:Array Value):Gh U:=
 ⟨fun id=>if 1000000<=id/\id-1000000<n then some (ν (id-1000000)) else none,
  fun i=>if 2000000<=i then (dP args (i-2000000)).map (fun ob=>(0,ob.e,vs.getD (i-2000000) undef)) else none⟩
def gR (args:List (PV U)) (δ:Nat->Option Nat):Nat->Option Nat:=fun i=>if 2000000<=i then (dP args (i-2000000)).bind fun _=>δ (i-2000000) else none
def ee (w:World) (N0:az) (n m:Nat) (ν:Nat->Nat) (δ:Nat->Option Nat) (ο:Nat->Array Value) (hoz: ∀b,w.heap.size<=b->ο b= #[]) (nt:Nat) (hnt:nt<=1000000) (h:Bnd w N0 n ν δ) (gl:List (Nat×Obj)) (hgl: ∀b o,(b,o)∈gl->w.heap[b]? =some o/\(∀i,i<n->ν i≠b)/\ ∀j,δ j≠some b):Ctx:=
 ⟨w,N0,iz n m ν δ,nt,fun b o hn=>⟨(h.n0 b o hn).1,fun hm=>by
  rcases cP.1 hm with hm|hm
  ·obtain ⟨k,hk,e⟩:=ck.1 hm
   exact (h.n0 b o hn).2.1 k (List.mem_range.1 hk) e
  ·obtain ⟨j,_,hj⟩:=List.mem_filterMap.1 hm
   exact (h.n0 b o hn).2.2 j hj⟩,
  fun id=>if 1000000<=id/\id-1000000<n then some (ν (id-1000000)) else none,fun id k h=>(by
  grind),
  gl,fun b o hb=>⟨(hgl b o hb).1,fun hm=>by
  rcases cP.1 hm with hm|hm<;>grind⟩,ο,hoz⟩
structure CtxOf (c:Ctx) (w:World) (N0:az) (n m:Nat) (ν:Nat->Nat) (δ:Nat->Option Nat) (ο:Nat->Array Value):Prop where
 cw:c.w0=w
 cN:c.N0=N0
 bl:c.bl=iz n m ν δ
 fix: ∀i,i<n->c.fix (ci i)=some (ν i)
 other: ∀id k,c.fix id=some k->(∃i,i<n/\id=ci i)\/w.heap.size<=k
 bnd:Bnd w N0 n ν δ
 oo:c.ο=ο
theorem ga {w:World} {N0:az} {n m nt:Nat} {ν:Nat->Nat} {δ:Nat->Option Nat} {ο:Nat->Array Value} {hoz: ∀b,w.heap.size<=b->ο b= #[]} {hnt:nt<=1000000} {h:Bnd w N0 n ν δ} {gl:List (Nat×Obj)} {hgl: ∀b o,(b,o)∈gl->w.heap[b]? =some o/\(∀i,i<n->ν i≠b)/\ ∀j,δ j≠some b}:CtxOf (ee w N0 n m ν δ ο hoz nt hnt h gl hgl) w N0 n m ν δ ο where
 cw:=rfl
 cN:=rfl
 bl:=rfl
 fix i hi:=by
  grind [ee,ci]
 other id k hk:=by
  simp only [ee] at hk
  split at hk
  ·rename_i h1;exact .inl ⟨id-1000000,h1.2,by simp [ci];omega⟩
  grind
 bnd:=h
 oo:=rfl
variable {w:World} {vs:Array Value} {N0:az} {ν:Nat->Nat} {δ:Nat->Option Nat} {ο:Nat->Array Value} {args:List (PV U)} {boxes:List (Box U)}
theorem l6 {i b:Nat} (h:gR args δ i=some b):2000000<=i/\δ (i-2000000)=some b/\(dP args (i-2000000)).isSome=true:=by
 grind [gR,dP]
theorem Im (hg:Given X w vs N0 ν δ ο args boxes) (nt:Nat) (hnt:nt<=1000000): ∀b o,((ee w N0 boxes.length args.length ν δ ο hg.oz nt hnt hg.bnd X.gblk hg.glob).N (dG boxes.length ν args vs) (gR args δ)) b o->(NB N0 boxes.length ν δ) b o:=by
 rintro b o (hn|⟨id,hid⟩|⟨i,hi⟩)
 ·exact .inl hn
 ·simp only [dG] at hid
  split at hid
  ·rename_i h1
   injection hid with hid
   exact .inr (.inl ⟨_,h1.2,hid⟩)
  grind
 ·exact .inr (.inr ⟨_,(l6 hi).2.1⟩)
theorem yU (id:Nat):(eD args boxes).b id=if 1000000<=id then (boxes.map (Box.ren true ci))[id-1000000]? else none:=by
 unfold St.b eD
 simp only
 rw [Jn (boxes:=boxes) _ _ _ _ (by simp)]
 rfl
theorem oD (hg:Given X w vs N0 ν δ ο args boxes) {nt:Nat} (hnt:args.length<=nt) (hnt2:nt<=1000000):
  Sim X (ee w N0 boxes.length args.length ν δ ο hg.oz nt hnt2 hg.bnd X.gblk hg.glob) (vs++Array.replicate (nt-vs.size) undef) w (eD args boxes) (dG boxes.length ν args vs) (gR args δ):=by
 have hsub:=Im hg nt hnt2
 have hμ: ∀i b,(gB U boxes.length ν).μ i=some b->(dG boxes.length ν args vs).μ (ci i)=some b:=by
  grind [gB,dG,ci]
 have hvs: ∀n,n<args.length->(vs++Array.replicate (nt-vs.size) undef).getD n undef=vs.getD n undef:=by
  intro n hn
  have:n<vs.size:=by rw [hg.size];exact hn
  simp_all [Array.getElem?_append]
 have ho: ∀i ob,(eD args boxes).o i=some ob->2000000<=i/\dP args (i-2000000)=some ob:=by
  grind [St.o,eD,yS]
 have hb: ∀id b,(eD args boxes).b id=some b->1000000<=id/\ ∃b0,boxes[id-1000000]? =some b0/\b=b0.ren true ci:=by
  grind [yU]
 refine {nt:=by simp [ee,hg.size];omega,regs:=fun n=> ?_,boxes:=fun id b h=> ?_,dom:=fun id k hk=> ?_,inj:=fun id id' k h1 h2=> ?_,new:=fun id k hk=> ?_,objs:=fun i ob h=> ?_,nobj:=fun i h=> ?_,dinj:=fun i j b h1 h2=> ?_,dnew:=fun i b h=> ?_,dbox:=fun i id b h1 h2=> ?_,ext:=Ext.refl _ _,gl:=rfl,fix:=fun id k hk=> .inl hk}
 ·unfold St.r eD
  simp only [Il,Nat.zero_le,if_true,Nat.sub_zero]
  cases hp:args[n]? with
  |none=>simp only [Option.map_none];exact .undef _
  |some p=>
   simp only [Option.map_some]
   have hn:=(bS.1 hp).1
   rw [hvs n hn]
   have hr:=hg.args n p hp
   by_cases hf:p.notFresh=true
   ·have:=(hr.rep hf).ren (g':=dG boxes.length ν args vs) (N':=(ee w N0 boxes.length args.length ν δ ο hg.oz nt hnt2 hg.bnd X.gblk hg.glob).N (dG boxes.length ν args vs) (gR args δ)) true ci (fun _ _ _ _=>rfl) (fun b o _ h=>hsub b o h) (.inr fun _=>rfl) fun i _ b hb=>hμ i b hb
    cases p<;>first|exact this|cases hf
   ·cases p with
    |fresh e l=>
     obtain ⟨A,n',cp,hval,_⟩:=(show ObOK X w _ _ e l (vs.getD n undef) .wr (δ n) from hr).val
     have hfa:dP args n=some ⟨0,e,l⟩:=by unfold dP;rw [hp]
     refine .own (2000000+n) 0 _ 0 e (vs.getD n undef) ?_ (b7 _) (fun _=>rfl) ⟨A,n',cp,hval⟩
     grind [dG]
    |_=>exact absurd rfl hf
 ·obtain ⟨h1,b0,h2,rfl⟩:=hb id b h
  have hlt:=(bS.1 h2).1
  have hμid:(dG boxes.length ν args vs).μ id=some (ν (id-1000000)):=if_pos ⟨h1,hlt⟩
  refine ⟨ν (id-1000000),hμid, ?_⟩
  exact (hg.boxes _ b0 h2).ren true ci rfl (fun _ _ _ _=>rfl) (fun b o _ h=>hsub b o h) (.inr fun _=>rfl) fun i _ b hb=>hμ i b hb
 ·simp_all [dG,ci,yU]
 ·simp only [dG] at h1 h2
  split at h1
  ·rename_i q1
   split at h2
   ·rename_i q2
    injection h1 with h1
    injection h2 with h2
    have:=hg.bnd.inj _ _ q1.2 q2.2 (h1.trans h2.symm)
    omega
   grind
  grind
 ·simp only [dG] at hk
  split at hk
  ·rename_i h1
   injection hk with hk
   subst hk
   exact ⟨hg.bnd.lt _ h1.2,.inl (cP.2 (.inl (ck.2 ⟨_,List.mem_range.2 h1.2,rfl⟩)))⟩
  grind
 ·obtain ⟨h1,h2⟩:=ho i ob h
  have hp: ∃e l,args[i-2000000]? =some (.fresh e l)/\ob=⟨0,e,l⟩:=by
   grind [dP]
  obtain ⟨e,l,hp,rfl⟩:=hp
  have hO:ObOK X w (NB N0 boxes.length ν δ) (gB U boxes.length ν) e l (vs.getD (i-2000000) undef) .wr (δ (i-2000000)):=hg.args _ _ hp
  refine ⟨vs.getD (i-2000000) undef,by simp_all [dG], ?_⟩
  have hu:(eD args boxes).u i= .wr:=by
   unfold St.u eD
   simp only
   have hlook: ∀ (l:List (Nat×Ob U)) (n:Nat),bw (l.map fun x=>(x.1,Use.wr)) n=(bw l n).map fun _=>Use.wr:=by
    intro l n
    induction l with
    |nil=>rfl
    |cons x l ih=>
     grind [eV]
   rw [hlook]
   have h':bw (eE 0 args) i=some ⟨0,e,l⟩:=h
   grind
  have hD:gR args δ i=δ (i-2000000):=by grind [gR]
  rw [hu,hD]
  exact hO.turn (fun _ _=>rfl) (fun _ _ _ _=>rfl) (fun b o _ h=>hsub b o h)
 ·have hf:2000000<=i->dP args (i-2000000)=none:=by
   intro hi
   have h':bw (eE 0 args) i=none:=h
   grind [yS]
  grind [dG,gR]
 ·obtain ⟨a1,a2,_⟩:=l6 h1
  obtain ⟨b1,b2,_⟩:=l6 h2
  have:=hg.bnd.dinj _ _ _ a2 b2
  omega
 ·obtain ⟨a1,a2,_⟩:=l6 h
  exact ⟨hg.bnd.dlt _ _ a2,.inl (cP.2 (.inr (List.mem_filterMap.2 ⟨_,List.mem_range.2 (hg.dom _ _ a2),a2⟩)))⟩
 ·obtain ⟨a1,a2,_⟩:=l6 h1
  simp only [dG] at h2
  split at h2
  ·rename_i q
   injection h2 with h2
   exact hg.bnd.dν _ _ a2 _ q.2 h2
  grind
end
section
variable {U:Uni} {V:Env U} {P:Program} {X:Link V P} {K:bA U} {c:Ctx} {tm:Array Value} {w:World} {σ:St U} {g:Gh U} {D:Nat->Option Nat}
variable {r:MR U} {τ:St U} {gp:List Loc}
def jT (tmps:Array Value):ResultVar->Sem Value
 | .tmp t=>pure (tmps.getD t undef)
 | .cell a t=>do loadVar t (<-asAddr (tmps.getD a undef))
theorem G6 (fn:Func) (tmps:Array Value):results fn tmps=(do
  let vs<-fn.results.mapM (jT tmps)
  pure (if h:vs.size=1 then vs[0] else .tuple vs)):=by
 rfl
theorem xT (h:Sim X c tm w σ g D): ∀ (res:List ResultVar) {k:List (PV U)->M U} {fp:List Loc},(iL V res k).Rel K σ fp r τ gp->
  ∃ps us fp',(k ps).Rel K σ fp' r τ gp/\us.length=ps.length/\(∀ (j:Nat) p,ps[j]? =some p->Rep X w (c.N g D) g (us.getD j undef) p)/\(res.mapM (jT tm)).run P w= .ok us w:=by
 intro res
 induction res with
 |nil=>intro k fp hr;exact ⟨[],[],fp,hr,rfl,by simp,by simp⟩
 |cons x res ih=>
  intro k fp hr
  have step: ∀ {p:PV U} {v:Value} {fp1:List Loc},(iL V res fun vs=>k (p::vs)).Rel K σ fp1 r τ gp->Rep X w (c.N g D) g v p->(jT tm x).run P w= .ok v w->
    ∃ps us fp',(k ps).Rel K σ fp' r τ gp/\us.length=ps.length/\(∀ (j:Nat) p,ps[j]? =some p->Rep X w (c.N g D) g (us.getD j undef) p)/\((x::res).mapM (jT tm)).run P w= .ok us w:=by
   intro p v fp1 hr1 hp hv
   obtain ⟨ps,us,fp',h1,h2,h3,h4⟩:=ih hr1
   refine ⟨p::ps,v::us,fp',h1,by simp [h2],fun j q hq=> ?_,by simp_all⟩
   grind
  cases x with
  |tmp t=>exact step hr (h.regs t) (by rfl)
  |cell a t=>
   simp only [iL,M.Rel] at hr
   obtain ⟨x,fp',v,h1,h2,h3⟩:=vv (a:=⟨tm,[]⟩) h (h.regs a) hr
   refine step h1 h3 ?_
   have h2':=h2
   unfold Instr.loadAt at h2'
   simp only [jT]
   cases hu:tm.getD a undef with
   |pointer q=>
    rw [hu] at h2'
    cases q<;>simp_all [Instr.sureAddr,asAddr]
   |_=>rw [hu] at h2';simp [Instr.sureAddr] at h2'
theorem nH: ∀ (l:List Nat) {k:List (Nat×Box U)->M U} {fp:List Loc},(ez l k).Rel K σ fp r τ gp-> ∃bs fp',(k bs).Rel K σ fp' r τ gp/\bs.map (·.1)=l/\ ∀x∈bs,σ.b x.1=some x.2:=by
 intro l
 induction l<;>grind [ez,M.Rel]
theorem Dz: ∀ (n:Nat) (todo:List Nat) (acc:List (Nat×Box U)) {k:List (Nat×Box U)->M U} {fp:List Loc},(∀x∈acc,σ.b x.1=some x.2)->(ld n todo acc k).Rel K σ fp r τ gp->
  ∃bs fp',(k (acc++bs)).Rel K σ fp' r τ gp/\ ∀x∈acc++bs,σ.b x.1=some x.2:=by
 intro n
 induction n with
 |zero=>intro todo acc k fp _ hr;exact hr.elim
 |succ n ih=>
  intro todo acc k fp hacc hr
  cases todo with
  |nil=>exact ⟨[],fp,by rw [ei];exact hr,by grind⟩
  |cons id todo=>
   simp only [ld] at hr
   split at hr<;>grind [M.Rel]
theorem RepG.lessN {N N':az} {v:Value} {Do:Option Nat} {p:PV U} (h:RepG X w N g v Do p) (hN: ∀b o,N' b o->N b o):RepG X w N' g v Do p:=by
 by_cases hp:p.notFresh=true
 ·have:=(h.rep hp).mono X (w':=w) (N':=N') (g':=g) (fun _ _ _ _=>rfl) (fun b o _ hn=>hN b o hn) (Gh.le.refl g)
  cases p<;>first|exact this|cases hp
 ·cases p with
  |fresh e l=>exact ObOK.mono h (fun _ _=>rfl) (fun _ _ _ _=>rfl) (fun b o _ hn=>hN b o hn) (Gh.le.refl g)
  |_=>exact absurd rfl hp
theorem pq {w0:World} {N0:az} {n m:Nat} {ν:Nat->Nat} {δ:Nat->Option Nat} {ο:Nat->Array Value} (hc:CtxOf c w0 N0 n m ν δ ο) (hdom: ∀j b,δ j=some b->j<m)
  (h:Sim X c tm w σ g D) {bs:List (Nat×Box U)} {qs:List (PV U)} {vs:Array Value} {ν':Nat->Nat} {δ':Nat->Option Nat} {keep:Bool} {N1:az}
  (hkeys: ∃more,bs.map (·.1)=bz (ci 0) n++more) (hnd:(bs.map (·.1)).Nodup) (hν: ∀ (k:Nat) id,(bs.map (·.1))[k]? =some id->g.μ id=some (ν' k))
  (hδ: ∀j b,δ' j=some b-> ∃i,D i=some b)
  (hg:Given X w vs N1 ν' δ' ο qs (bs.map fun b=>b.2.ren keep (aS (bs.map (·.1)))))
  (hN1:NB N1 bs.length ν' δ'=c.N g D):
  Back X w0 w N0 ν δ ο n m ν' δ' (bs.map fun b=>b.2.ren keep (aS (bs.map (·.1))))/\ ∀b o,(NB N0 bs.length ν' δ') b o->(NB N1 bs.length ν' δ') b o:=by
 obtain ⟨more,hmore⟩:=hkeys
 obtain ⟨c0,cN,cbl,cfix,cother,hb0,coo⟩:=hc
 have hlen:bs.length=n+more.length:=by have:=congrArg dH hmore;grind [nY]
 have hext: ∀i,i<n->(bs.map (·.1))[i]? =some (ci i):=by
  grind [qX,ci]
 have hold: ∀i,i<n->ν' i=ν i:=by
  intro i hi
  have h1:=hν i _ (hext i hi)
  rcases h.fix _ _ h1 with h2|⟨h2,_⟩<;>grind
 have hμν: ∀i,i<n->g.μ (ci i)=some (ν i):=fun i hi=>by grind
 have hget: ∀k,k<bs.length-> ∃id,(bs.map (·.1))[k]? =some id/\g.μ id=some (ν' k):=fun k hk=>⟨_,bP (by grind),hν k _ (bP (by grind))⟩
 have hsub: ∀b o,(NB N0 bs.length ν' δ') b o->(NB N1 bs.length ν' δ') b o:=by
  intro b o hn
  rw [hN1]
  rcases hn with hn|⟨k,hk,rfl⟩|⟨j,hj⟩
  ·exact .inl (by grind)
  ·obtain ⟨id,_,hid⟩:=hget k hk
   exact .inr (.inl ⟨id,hid⟩)
  ·obtain ⟨i,hi⟩:=hδ j b hj
   exact .inr (.inr ⟨i,hi⟩)
 have hnew: ∀i,n<=i->i<bs.length->w0.heap.size<=ν' i:=by
  intro i hi hlt
  obtain ⟨id,h1,h2⟩:=hget i hlt
  rcases h.fix _ _ h2 with h3|⟨_,h3⟩<;>grind [List.getElem?_inj]
 have hdnew: ∀j b,δ' j=some b->w0.heap.size<=b\/ ∃i,δ i=some b:=by
  intro j b hj
  obtain ⟨i,hi⟩:=hδ j b hj
  rcases (h.dnew i b hi).2 with h1|h1
  ·rw [cbl] at h1
   rcases cP.1 h1 with h1|h1
   ·obtain ⟨k,hk,e⟩:=ck.1 h1
    rw [List.mem_range] at hk
    subst e
    exact absurd (hμν k hk) (h.dbox i _ _ hi)
   grind
  grind
 have hl:(bs.map fun b=>b.2.ren keep (aS (bs.map (·.1)))).length=bs.length:=by simp
 have hgb:=hg.bnd
 rw [hl] at hgb
 have hex:Ext (iz n m ν δ) w0 w:=by have:=h.ext;grind
 refine ⟨⟨hex,by omega,hold,by grind,hdnew, ?_,fun k b hb=> ?_⟩,hsub⟩
 ·rw [hl]
  refine ⟨hgb.inj,hgb.lt,hgb.dlt,hgb.dinj,hgb.dν,fun b o hn=>⟨eJ (hb0.n0 b o hn).1 hex.size,fun i hi e=> ?_,fun j hj=> ?_⟩⟩
  ·by_cases hin:i<n
   ·exact (hb0.n0 b o hn).2.1 i hin (by grind)
   ·have:=hnew i (by omega) hi
    have:=(hb0.n0 b o hn).1
    omega
  ·rcases hdnew j b hj with h1|⟨i,h1⟩
   ·have:=(hb0.n0 b o hn).1;omega
   ·exact (hb0.n0 b o hn).2.2 i h1
 ·have:=hg.boxes k b hb
  rw [hl] at this ⊢
  exact this.mono rfl (fun _ _ _ _=>rfl) (fun b o _ hn=>hsub b o hn) (Gh.le.refl _)
end
section
variable {U:Uni} {V:Env U} {P:Program} {X:Link V P}
theorem RepG.ofAny {w:World} {N:az} {g:Gh U} {v:Value} {Do:Option Nat} {p:PV U} (h:Rep X w N g v p):RepG X w N g v Do p:=by
 cases p<;>first|exact h|cases h
theorem RepR.ofG {w:World} {N:az} {g:Gh U} {v:Value} {δ:Nat->Option Nat} {p:PV U} (h:RepG X w N g v (δ 0) p):RepR X w N g v δ p:=by
 cases p with
 |tuple ps=>
  cases (show Rep X w N g v (.tuple ps) from h) with
  |tuple vs _ hl hh=>exact ⟨vs,rfl,hl,fun j p hp=> .ofAny (hh j p hp)⟩
 |_=>exact h
theorem xU {fn:Func} {tmps:Array Value} {us:List Value} {w:World} (h:(fn.results.toList.mapM (jT tmps)).run P w= .ok us w):
  (results fn tmps).run P w= .ok (if h:us.toArray.size=1 then us.toArray[0] else .tuple us.toArray) w:=by
 simp_all [G6,Array.mapM_eq_mapM_toList]
variable {w0:World} {N0:az} {n m:Nat} {ν:Nat->Nat} {δ:Nat->Option Nat} {K:bA U} {c:Ctx}
theorem Ja {w:World} {σ:St U} {g:Gh U} {N:az} {hand:List Bool} {ps:List (PV U)} {us:List Value} {k:List (PV U)->M U} {fp gp:List Loc} {r:MR U} {τ:St U} (hl:us.length=ps.length) (hp: ∀ (j:Nat) p,ps[j]? =some p->Rep X w N g (us.getD j undef) p)
  (hr:(s8 hand ps k).Rel K σ fp r τ gp): ∃qs,(k qs).Rel K σ fp r τ gp/\us.length=qs.length/\ ∀ (j:Nat) p,qs[j]? =some p->Rep X w N g (us.getD j undef) p:=by
 unfold s8 at hr
 cases hb:ac hand.length (ps.length+1) with
 |false=>grind
 |true=>
  rw [hb] at hr
  simp only [cond_true] at hr
  split at hr
  ·rename_i v
   split at hr
   ·rename_i v' hv
    refine ⟨[v'],hr,hl,fun j p hj=> ?_⟩
    cases j with
    |succ j=>simp at hj
    |zero=>
     simp at hj
     subst hj
     have h0:=hp 0 v rfl
     generalize us.getD 0 undef=u at h0
     unfold PV.asFull at hv
     split at hv
     ·injection hv with hv
      subst hv
      cases h0 with
      |sl A n c e l o val h1 h2 h3 h4 h5=>exact .sl A n c _ _ .full val h1 h2 (by omega) h4 h5
     all_goals grind
   ·exact hr.elim
  ·exact hr.elim
theorem G7 {fn:Func} {tm:Array Value} {w:World} {σ:St U} {g:Gh U} {D:Nat->Option Nat} {ο:Nat->Array Value} (hc:CtxOf c w0 N0 n m ν δ ο) (hdom: ∀j b,δ j=some b->j<m) (h:Sim X c tm w σ g D)
  {keep:Bool} {out:Out U} {τ:St U} {fp gp:List Loc} (hr:(rH V keep fn.results.toList n).Rel K σ fp (.out out) τ gp):
  ∃v,(results fn tm).run P w= .ok v w/\Ret X w0 N0 ν δ ο n m out (.returned v) w:=by
 unfold rH at hr
 obtain ⟨ps,us,fp1,hr1,hl1,hp1,hrun⟩:=xT h _ hr
 split at hr1
 case h_2=>exact hr1.elim
 rename_i id
 simp only [M.Rel] at hr1
 split at hr1
 case h_2=>exact hr1.elim
 rename_i cs0 hcs0
 obtain ⟨kb,hkb,cur,et,hblk,htail,hcur⟩:=h.boxes _ _ hcs0
 obtain ⟨qs,σ1,D1,fp2,hr2,hF1,hlen1,hqs,_⟩:=gA cs0 h (fun j=>cur.getD j undef) hcur hr1
 obtain ⟨bs0,fp3,hr3,hk0,hb0'⟩:=nH _ hr2
 obtain ⟨bs2,σ2,D2,fp5,hr5,hF2,hkeys,hb2⟩:=nG _ hF1.sim (fun x hx=>hF1.sim.boxes x.1 x.2 (hb0' x hx)) hr3
 cases hh:eQ qs bs2&&cG id 1000000 with
 |false=>simp only [hh] at hr5;exact hr5.elim
 |true=>
 simp only [hh] at hr5
 simp only [aj] at hh
 obtain ⟨hh,hid⟩:=hh
 have hid:id<1000000:=by
  unfold cG at hid
  exact eI hid
 obtain ⟨e1,_,_⟩:=hr5
 injection e1 with e1
 subst e1
 have h2:=hF2.sim
 have hb3: ∀x∈bs2,e8 X w (c.N g D2) g ο x:=hc.oo▸hb2
 have hkk:bs2.map (·.1)=bz (ci 0) n:=hkeys.trans hk0
 have hlen:bs2.length=n:=by grind [nY]
 have hν: ∀ (k:Nat) id,(bs2.map (·.1))[k]? =some id->g.μ id=some (ν k):=by
  intro k id hid
  obtain ⟨x,hx,rfl⟩:=ck.1 (dk hid)
  obtain ⟨kb,hk,_⟩:=hb3 x hx
  have hkn:k<n:=by grind
  rw [hkk,qX _ _ _ hkn] at hid
  injection hid with hid
  have hfix:c.fix x.1=some (ν k):=by
   rw [<-hid,<-hc.fix k hkn]
   rfl
  rcases h.fix _ _ hk with h2|⟨h2,_⟩<;>grind
 have hsz:(cur.extract 0 qs.length).size=qs.length:=by
  have:=htail.1
  simp only [Array.size_extract]
  omega
 have hgetE: ∀j,j<qs.length->(cur.extract 0 qs.length).getD j undef=cur.getD j undef:=fun j hj=>by
  have h1:=htail.1
  simp only [ct]
  rw [Array.getElem?_extract_of_lt (by omega)]
  simp only [b8]
  have hlt:j<cur.size:=by omega
  simp [hlt]
 obtain ⟨hNB,hg⟩:=nI (G:=[]) (δ:=fun _=>none) h2 true (ο:=ο) (fun b hb=>by rw [<-hc.oo];exact c.oz b (dI h.ext.size hb)) (vs:=cur.extract 0 qs.length) hsz hb3 hh (by simp) (by simp) (fun j q' hq'=>by
  have hj:j<qs.length:=(bS.1 hq').1
  rw [hgetE j hj]
  exact .ofAny (hF2.rep (hqs j q' hq'))) hν (F:=fun b=>b.2.ren keep (aS (bs2.map (·.1)))) fun x hx g' t k hμ hbx=>hbx.ren keep _ rfl (fun _ _ _ _=>rfl) (fun _ _ _ h=>h) (.inl hx) hμ
 obtain ⟨hback,hsub⟩:=pq hc hdom h2 ⟨[],by grind⟩ (js hh).2.2.1 hν (by simp) hg hNB
 have hnew:w0.heap.size<=kb:=by
  rcases h.fix _ _ hkb with h3|⟨_,h3⟩
  ·have:=(c.low _ _ h3).1;omega
  ·rw [hc.cw] at h3;exact h3
 refine ⟨_,xU hrun,ν,fun _=>none,hback, ?_⟩
 have hu:us=[.pointer (some ⟨kb,0,none⟩)]:=by
  have h0:=hp1 0 _ rfl
  match us,hl1 with
  |[u],_=>
   simp at h0
   cases h0 with
   |ptr _ _ b hb=>rw [hb] at hkb;injection hkb with hkb;subst hkb;rfl
 subst hu
 have hbl:(bs2.map fun b=>b.2.ren keep (aS (bs2.map (·.1)))).length=bs2.length:=by simp
 have hrep:Rep X w (NB N0 bs2.length ν fun _=>none) (gB U bs2.length ν) (.pointer (some ((⟨kb,0,none⟩:Addr).add 0))) (.pptr (PV.renL true (aS (bs2.map (·.1))) qs) 0):=by
  have hno: ∀o,¬ (NB N0 bs2.length ν fun _=>none) kb o:=by
   rintro o (h3|⟨k,hk,h3⟩|⟨j,h3⟩)
   ·have:=(hc.bnd.n0 _ _ h3).1;omega
   ·have:=hc.bnd.lt k (by omega);omega
   ·cases h3
  refine .pptr _ 0 ⟨kb,0,none⟩ (fun j=>cur.getD j undef) (fun k p hp=>⟨?_,hno _⟩) fun k p hp=> ?_
  ·have hk:k<cur.size:=by
    have h1:=(bS.1 hp).1
    rw [cq,e_] at h1
    have:=htail.1
    omega
   rw [Addr.add_lit',b8]
   simp [World.cell?,hblk,ct,hk]
  ·have hk:k<qs.length:=by
    have h1:=(bS.1 hp).1
    rwa [cq,e_] at h1
   have:=hg.args k p hp
   rw [hbl,hgetE k hk] at this
   have:=this.lessN hsub
   refine RepG.rep this ?_
   rw [cq,ej,fL] at hp
   obtain ⟨q,hq,rfl⟩:=hp
   rw [lX]
   have hq1:=hqs k q hq
   generalize cur.getD k undef=u at hq1
   cases q<;>first|rfl|cases hq1
 rw [hbl]
 exact .ofG (RepG.ofAny hrep)
theorem jU {fn:Func} {tm:Array Value} {w:World} {σ:St U} {g:Gh U} {D:Nat->Option Nat} {ο:Nat->Array Value} (hc:CtxOf c w0 N0 n m ν δ ο) (hdom: ∀j b,δ j=some b->j<m) (h:Sim X c tm w σ g D)
  {keep:Bool} {hand:List Bool} {out:Out U} {τ:St U} {fp gp:List Loc} (hr:(fG V keep hand fn.results.toList n).Rel K σ fp (.out out) τ gp):
  ∃v,(results fn tm).run P w= .ok v w/\Ret X w0 N0 ν δ ο n m out (.returned v) w:=by
 unfold fG at hr
 cases hz:ac hand.length 9 with
 |true=>rw [hz] at hr;exact G7 hc hdom h hr
 |false=>
 rw [hz] at hr
 simp only [cond_false] at hr
 obtain ⟨ps,us,fp1,hr1,hl1,hp1,hrun⟩:=xT h _ hr
 obtain ⟨ps,hr1,hl1,hp1⟩:=Ja hl1 hp1 hr1
 obtain ⟨q1,σ1,D1,fp2,hr2,hF1,hl2,hq1⟩:=uS hand ps h (fun j=>us.getD j undef) hp1 hr1
 obtain ⟨bs0,fp3,hr3,hk0,hb0'⟩:=nH _ hr2
 obtain ⟨bs1,fp4,hr4,hb1⟩:=Dz 100 _ bs0 hb0' hr3
 obtain ⟨bs2,σ2,D2,fp5,hr5,hF2,hkeys,hb2⟩:=nG _ hF1.sim (fun x hx=>hF1.sim.boxes x.1 x.2 (hb1 x hx)) hr4
 have h2:=hF2.sim
 obtain ⟨qs,σ3,fp6,G,δ',hr6,hl6,hSp,_,hδ,hδi,hqs⟩:=uW h2 hand q1 (fun j=>us.getD j undef) (.refl σ2) (fun j p hp=>hF2.rep (hq1 j p hp)) hr5
 cases hh:eQ qs bs2 with
 |false=>rw [hh] at hr6;exact hr6.elim
 |true=>
 rw [hh] at hr6
 obtain ⟨e1,_,_⟩:=hr6
 injection e1 with e1
 subst e1
 have hb2: ∀x∈bs2,e8 X w (c.N g D2) g ο x:=hc.oo▸hb2
 obtain ⟨ν',hν⟩:=wq hb2
 have hgd: ∀j,us.toArray.getD j undef=us.getD j undef:=fun j=>uV j (by simp)
 obtain ⟨hNB,hg⟩:=nI h2 keep (ο:=ο) (fun b hb=>by rw [<-hc.oo];exact c.oz b (dI h2.ext.size hb)) (vs:=us.toArray) (by grind) hb2 hh (fun j b hj=>by rw [hl6];exact hδ j b hj) hδi (fun j q hq=>by grind) hν (F:=fun b=>b.2.ren keep (aS (bs2.map (·.1)))) fun x hx g' t k hμ hbx=>hbx.ren keep _ rfl (fun _ _ _ _=>rfl) (fun _ _ _ h=>h) (.inl hx) hμ
 have hnd:=(js hh).2.2.1
 obtain ⟨hback,hsub⟩:=pq hc hdom h2 ⟨bs1.map (·.1),by grind⟩ hnd hν (fun j b hj=>by grind) hg hNB
 suffices hR:RepR X w (NB N0 bs2.length ν' δ') (gB U bs2.length ν') (if h:us.toArray.size=1 then us.toArray[0] else .tuple us.toArray) δ' (gI (PV.renL keep (aS (bs2.map (·.1))) qs)) by
  have hrr:=xU hrun
  grind [Ret]
 have hbl:(bs2.map fun b=>b.2.ren keep (aS (bs2.map (·.1)))).length=bs2.length:=by simp
 have hargs: ∀ (j:Nat) p,(PV.renL keep (aS (bs2.map (·.1))) qs)[j]? =some p->RepG X w (NB N0 bs2.length ν' δ') (gB U bs2.length ν') (us.toArray.getD j undef) (δ' j) p:=fun j p hp=>by
  have:=hg.args j p hp
  rw [hbl] at this
  exact this.lessN hsub
 have hlr:(PV.renL keep (aS (bs2.map (·.1))) qs).length=us.length:=by grind [cq]
 generalize PV.renL keep (aS (bs2.map (·.1))) qs=rs at hargs hlr
 by_cases h1:us.toArray.size=1
 ·rw [dif_pos h1]
  have hu1:us.length=1:=by omega
  obtain ⟨p,rfl⟩: ∃p,rs=[p]:=by
   match rs,hlr with
   |[p],_=>simp
   |[],h=>grind
   |_::_::_,h=>grind
  have:=hargs 0 p rfl
  have hu:us.toArray.getD 0 undef=us.toArray[0]:=by grind
  rw [hu] at this
  exact .ofG this
 ·rw [dif_neg h1]
  have hone:gI rs= .tuple rs:=by
   match rs,hlr with
   |[],_=>rfl
   |[p],h=>grind
   |_::_::_,_=>rfl
  rw [hone]
  exact ⟨us.toArray,rfl,by grind,hargs⟩
theorem ra {tm:Array Value} {w:World} {σ:St U} {g:Gh U} {D:Nat->Option Nat} {ο:Nat->Array Value} (hc:CtxOf c w0 N0 n m ν δ ο) (hdom: ∀j b,δ j=some b->j<m) (h:Sim X c tm w σ g D)
  {v:PV U} {val:Value} (hv:Rep X w (c.N g D) g val v) {out:Out U} {τ:St U} {fp gp:List Loc} (hr:(q_ v n).Rel K σ fp (.out out) τ gp):
  Ret X w0 N0 ν δ ο n m out (.panicked [{v:=val,recovered:=false}]) w:=by
 unfold q_ at hr
 obtain ⟨bs0,fp3,hr3,hk0,hb0'⟩:=nH _ hr
 obtain ⟨bs2,σ2,D2,fp5,hr5,hF2,hkeys,hb2⟩:=nG _ h (fun x hx=>h.boxes x.1 x.2 (hb0' x hx)) hr3
 obtain ⟨q,σ3,D3,fp6,hr6,hF3,hq,_⟩:=gC v hF2.sim (hF2.rep hv) hr5
 cases hh:eQ [q] bs2 with
 |false=>simp only [hh] at hr6;exact hr6.elim
 |true=>
 simp only [hh] at hr6
 obtain ⟨e1,_,_⟩:=hr6
 injection e1 with e1
 subst e1
 have hb3: ∀x∈bs2,e8 X w (c.N g D3) g ο x:=fun x hx=>by
  obtain ⟨k,hk,hbx⟩:=hb2 x hx
  rw [hc.oo] at hbx
  exact ⟨k,hk,hbx.mono rfl (fun _ _ _ _=>rfl) (fun b o _ hn=>by
   rcases hn with hn|hn|⟨i,hi⟩
   ·exact .inl hn
   ·exact .inr (.inl hn)
   ·exact .inr (.inr ⟨i,hF3.D i b hi⟩)) (Gh.le.refl g)⟩
 have hkk:bs2.map (·.1)=bz (ci 0) n:=hkeys.trans hk0
 have hlen:bs2.length=n:=by grind [nY]
 have hν: ∀ (k:Nat) id,(bs2.map (·.1))[k]? =some id->g.μ id=some (ν k):=by
  intro k id hid
  obtain ⟨x,hx,rfl⟩:=ck.1 (dk hid)
  obtain ⟨kb,hk,_⟩:=hb3 x hx
  have hkn:k<n:=by grind
  rw [hkk,qX _ _ _ hkn] at hid
  injection hid with hid
  have hfix:c.fix x.1=some (ν k):=by
   rw [<-hid,<-hc.fix k hkn]
   rfl
  rcases h.fix _ _ hk with h2|⟨h2,_⟩<;>grind
 obtain ⟨hNB,hg⟩:=nI (G:=[]) (δ:=fun _=>none) hF3.sim false (ο:=ο) (fun b hb=>by rw [<-hc.oo];exact c.oz b (dI h.ext.size hb)) (vs:= #[val]) (by simp) hb3 hh (by simp) (by simp) (fun j q' hq'=>by
  cases j with
  |zero=>simp at hq';subst hq';exact .of hq
  |succ j=>simp_all) hν (F:=fun b=>b.2.ren false (aS (bs2.map (·.1)))) fun x hx g' t k hμ hbx=>hbx.ren false _ rfl (fun _ _ _ _=>rfl) (fun _ _ _ h=>h) (.inl hx) hμ
 obtain ⟨hback,hsub⟩:=pq hc hdom hF3.sim ⟨[],by grind⟩ (js hh).2.2.1 hν (by simp) hg hNB
 refine ⟨by grind,val,rfl,hback, ?_⟩
 have hbl:(bs2.map fun b=>b.2.ren false (aS (bs2.map (·.1)))).length=bs2.length:=by simp
 have:=hg.args 0 _ rfl
 rw [hbl] at this
 have:=this.lessN hsub
 rw [hlen] at this
 have hf:(q.ren false (aS (bs2.map (·.1)))).notFresh=true:=by
  rw [lX]
  cases q<;>first|rfl|cases hq
 exact this.rep hf
theorem rN (hm:P.follows .mixedOrders=true) (hI:gh X) {S:Side U} (hS:S.rcv=none) (hpin:S.pin=fun _=>false) {R:Type} {C:Oracle U R} (hC:C.Tells (bL X)) {f:FuncId} {fn:Func} (hf:P.funcs[f]? =some fn)
  (hname:(fn.name== "runtime.NumGoroutine")=false) (hbody:fn.body.isNone=false) (hnt:fn.ntmps=S.nt) (hlow:S.nt<=1000000) {args:List (PV U)} {boxes:List (Box U)} (hargs:args.length<=S.nt)
  {ann:Nat->Option Ann} {fuel:Nat} {keep:Bool} {hand:List Bool} {κ:Out U->Option R} {x:R} (h:jW V S C ann fuel keep hand fn args boxes κ=some x): ∃out,κ out=some x/\bL X f args boxes out:=by
 obtain ⟨code,hcode⟩: ∃code,fn.body=some code:=by
  cases hb:fn.body<;>grind
 unfold jW er at h
 rw [hcode] at h
 obtain ⟨e,τ,hbig,hk⟩:=oB (bL X) V S ann hC fuel code h
 have key: ∀ {M:M U} {out:Out U} {τ0:St U} {gp:List Loc},M.Rel (bL X) τ [] (.out out) τ0 gp->(∀ (w:World) (vs:Array Value) (N0:az) (ν:Nat->Nat) (δ:Nat->Option Nat) (ο:Nat->Array Value) (hg:Given X w vs N0 ν δ ο args boxes),
   Lands X (ee w N0 boxes.length args.length ν δ ο hg.oz S.nt hlow hg.bnd X.gblk hg.glob) [] e τ (bodyPost P fn (Ret X w N0 ν δ ο boxes.length args.length out)))->bL X f args boxes out:=by
  intro M out τ0 gp _ hl
  refine ⟨⟨fn,hf,hname,hbody⟩,fun w vs N0 ν δ ο hg=> ?_⟩
  suffices hgoal:Calls P f vs w (Ret X w N0 ν δ ο boxes.length args.length out) from hgoal.mono fun e w h=>Ret.full h
  refine calls_of_wp hf hcode ?_
  have hs:=oD hg hargs hlow
  rw [hnt]
  exact ja hm (iD hI hS fun d hd=>by grind) rfl hbig _ w _ _ _ hs (hl w vs N0 ν δ ο hg)
 cases e with
 |exit id=>cases hk
 |normal=>
  obtain ⟨r,τ0,τ1,gp,hr,ht,hfin⟩:=d4 hC _ hk (St.eqv.refl τ)
  cases r with
  |out o=>
   refine ⟨o,hfin,key hr fun w vs N0 ν δ ο hg a' w' g' D' hd hs=> ?_⟩
   obtain ⟨v,h1,h2⟩:=jU ga hg.dom hs hr
   exact ⟨hd,v,h1,h2⟩
  |_=>cases hfin
 |ret=>
  obtain ⟨r,τ0,τ1,gp,hr,ht,hfin⟩:=d4 hC _ hk (St.eqv.refl τ)
  cases r with
  |out o=>
   refine ⟨o,hfin,key hr fun w vs N0 ν δ ο hg a' w' g' D' hd hs=> ?_⟩
   obtain ⟨v,h1,h2⟩:=jU ga hg.dom hs hr
   exact ⟨hd,v,h1,h2⟩
  |_=>cases hfin
 |panic v=>
  obtain ⟨r,τ0,τ1,gp,hr,ht,hfin⟩:=d4 hC _ hk (St.eqv.refl τ)
  cases r with
  |out o=>
   refine ⟨o,hfin,key hr fun w vs N0 ν δ ο hg a' w' g' D' hd hs val hval=> ?_⟩
   exact ⟨hd,ra ga hg.dom hs hval hr⟩
  |_=>cases hfin
end
section
variable {U:Uni} {R:Type} (V:Env U) (S:Side U) (C:Oracle U R) (ann:Nat->Option Ann) (fuel:Nat)
def xQ (o:Oper):Option Tmp:=
 match o.dst,o.op,o.guard with
 |some d,.call c,.none=>match c.callee with
  | .builtin .recover=>some d
  |_=> .none
 |_,_,_=> .none
def yb (v:PV U):Code->St U->(Ex U->St U->Option R)->Option R
 | .seq (.region _ ops draw) b,σ,κ=>match ops.toList with
  |o::more=>match xQ o with
   |some d=>bif !draw&&(cG d S.nt&&more.all (aW S.nt)) then jX V S C ops.toList more [] (σ.setR d v) fun
     | .normal,σ',_=>run V S C ann fuel b σ' κ
     |_,_,_=> .none
    else .none
   | .none=> .none
  |[]=> .none
 |_,_,_=> .none
def rO (keep:Bool) (hand:List Bool) (fn:Func) (v:PV U) (args:List (PV U)) (boxes:List (Box U)) (κ:Out U->Option R):Option R:=
 yb V S C ann fuel v (er fn) (eD args boxes) (kF V C keep hand fn boxes.length κ)
def pW:List Oper->Option (Oper×Tmp)
 |[o,q]=>match o.dst,o.guard,q.dst,q.op,q.guard with
  |some m,.none,.none,.defer c,.none=>match c.callee with
   | .value (.tmp n)=>bif ac m n&&c.args.isEmpty then some (o,n) else .none
   |_=> .none
  |_,_,_,_,_=> .none
 |_=> .none
def PV.pinned:PV U->Bool
 | .ptr id _=>a7 1000000 id
 |_=>false
def iO:Code->St U->(Ex U->St U->Option R)->(FuncId->List (PV U)->Ex U->St U->Option R)->Option R
 | .seq a b,σ,κ0,κ1=>match a with
  | .region id ops draw=>match pW ops.toList with
   |some (o,n)=>bif !draw&&aW S.nt o then (bh V S o).cps C σ [] fun
     | .done,σ',_=>match σ'.r n with
      | .func h [] caps=>bif caps.all PV.pinned then run V {S with pin:=fun _=>false} C ann fuel b σ' (κ1 h caps) else .none
      |_=> .none
     |_,_,_=> .none
    else .none
   | .none=>run V S C ann fuel (.region id ops draw) σ fun
    | .normal,σ'=>iO b σ' κ0 κ1
    |e,σ'=>κ0 e σ'
  |a=>run V S C ann fuel a σ fun
   | .normal,σ'=>iO b σ' κ0 κ1
   |e,σ'=>κ0 e σ'
 |_,_,_,_=> .none
def kD (Cd:PV U->Oracle U R) (keep:Bool) (hand:List Bool) (fn:Func) (nb:Nat) (κ:Out U->Option R) (h:FuncId) (caps:List (PV U)):Ex U->St U->Option R
 | .normal,σ=>(ez (PV.idsL caps) fun _=>eM (fun _=>0) (fun _=>[]) [] .none (.func h [] caps) []).cps (Cd .nilIface) σ [] fun
  | .done,σ',_=>(fG V keep hand fn.results.toList nb).cps C σ' [] (fin κ)
  |_,_,_=> .none
 | .ret,σ=>(ez (PV.idsL caps) fun _=>eM (fun _=>0) (fun _=>[]) [] .none (.func h [] caps) []).cps (Cd .nilIface) σ [] fun
  | .done,σ',_=>(fG V keep hand fn.results.toList nb).cps C σ' [] (fin κ)
  |_,_,_=> .none
 | .panic v,σ=>match v with
  | .iface t (.int k n)=>(ez (PV.idsL caps) fun _=>eM (fun _=>0) (fun _=>[]) [] .none (.func h [] caps) []).cps (Cd (.iface t (.int k n))) σ [] fun
   | .done,σ',_=>(fG V keep hand fn.results.toList nb).cps C σ' [] (fin κ)
   |_,_,_=> .none
  |_=> .none
 | .exit _,_=> .none
def vm:Code->List Bool->List (St U->Option R)->(Nat->Option Ann)->(Ex U->St U->Option R)->(FuncId->List (PV U)->Ex U->St U->Option R)->Ex U->St U->Option R
 | .seq a b,false::p,rs,an,κ0,κ1=>fS V S C ann fuel a p rs an fun
  | .normal,σ'=>iO V S C ann fuel b σ' κ0 κ1
  |e,σ'=>κ0 e σ'
 | .seq _ b,true::p,rs,an,κ0,κ1=>vm b p rs an κ0 κ1
 |_,_,_,_,κ0,_=>κ0
def rM (Cd:PV U->Oracle U R) (keep:Bool) (hand:List Bool) (fn:Func) (args:List (PV U)) (boxes:List (Box U)) (κ:Out U->Option R):Option R:=
 iO V S C ann fuel (er fn) (eD args boxes) (kF V C keep hand fn boxes.length κ) (kD V C Cd keep hand fn boxes.length κ)
end
section
variable {U:Uni} {V:Env U} {P:Program} {X:Link V P}
inductive RcvOK:PV U->FrameMode->FrameMode->Prop
 |nil:RcvOK .nilIface .returning .returning
 |err (t:TypeId) (k:IntKind) (n:Int):RcvOK (.iface t (.int k n)) (.panicking [{v:= .iface t (.int k n),recovered:=false}]) (.panicking [{v:= .iface t (.int k n),recovered:=true}])
def e9 (P:Program) (u u':FrameMode):FuncId->Array Value->World->(Ending->World->Prop)->Prop:=fun f vs w R=>CallsD P f vs u w fun e u2 w'=>u2=u'/\R e w'
theorem Jg {ops:Array Oper} {cs:List Frame} {Q:Exit->Act->List Frame->World->Prop} (hQ: ¬LetsOut (fun e a' w'=>Q e a' cs w')): ∀ (l:List Nat) (a:Act) (w:World),wpOps P ops (fun e a' w'=>Q e a' cs w') l a w->wpOpsS P ops Q l a cs w:=by
 intro l
 induction l with
 |nil=>intro a w h;exact h
 |cons i l ih=>
  intro a w h
  simp only [wpOps,wpOpsS] at h ⊢
  cases ho:ops[i]? with
  |none=>grind
  |some o=>
   rw [ho] at h
   simp only at h ⊢
   split
   ·rename_i hw
    rw [if_pos hw] at h
    have h:=h.resolve_right fun h=>hQ h.2
    have h:=Oper.wp_mono ih h
    unfold Oper.wp at h
    split
    ·rename_i w' hrun
     rw [hrun] at h
     exact h.elim
    simp_all
   grind
theorem Hg (hm:P.follows .mixedOrders=true) (hI:gh X) {S:Side U} (hS:S.rcv=none) (hpin:S.pin=fun _=>false) {R:Type} {C:Oracle U R} (hC:C.Tells (bL X)) {f:FuncId} {fn:Func} (hf:P.funcs[f]? =some fn)
  (hname:(fn.name== "runtime.NumGoroutine")=false) (hbody:fn.body.isNone=false) (hnt:fn.ntmps=S.nt) (hlow:S.nt<=1000000) {v:PV U} {u u':FrameMode} (hv:RcvOK v u u') {args:List (PV U)} {boxes:List (Box U)} (hargs:args.length<=S.nt)
  {ann:Nat->Option Ann} {fuel:Nat} {keep:Bool} {hand:List Bool} {κ:Out U->Option R} {x:R} (h:rO V S C ann fuel keep hand fn v args boxes κ=some x): ∃out,κ out=some x/\eG X (e9 P u u') f args boxes out:=by
 obtain ⟨code,hcode⟩: ∃code,fn.body=some code:=by
  cases hb:fn.body<;>grind
 unfold rO er at h
 rw [hcode] at h
 simp only at h
 unfold yb at h
 split at h
 case h_2=>cases h
 rename_i id ops draw b
 split at h
 case h_2=>cases h
 rename_i o more hops
 split at h
 case h_2=>cases h
 rename_i d hrec
 cases hc:(!draw&&(cG d S.nt&&more.all (aW S.nt))) with
 |false=>grind
 |true=>
 rw [hc] at h
 simp only [cond_true] at h
 simp only [aj,Bool.not_eq_true'] at hc
 obtain ⟨hdraw,hd,hall⟩:=hc
 subst hdraw
 have hd:d<S.nt:=by simp_all
 unfold xQ at hrec
 obtain ⟨dst,op,ty,pos,after,gd⟩:=o
 simp only at hrec
 split at hrec
 case h_2=>simp_all
 rename_i d0 cl
 split at hrec
 case h_2=>simp_all
 rename_i hcl
 injection hrec with hrec
 subst hrec
 obtain ⟨e1,fps,τ0,τ1,hops1,ht1,hk1⟩:=ya (bL X) V S hC ops.toList more h (St.eqv.refl _)
 cases e1 with
 |exit id=>cases hk1
 |ret=>cases hk1
 |panic v=>cases hk1
 |normal=>
 simp only at hk1
 obtain ⟨e,τ,hbig,hk⟩:=oB (bL X) V S ann hC fuel b hk1
 have hsz:ops.size=more.length+1:=by have:=congrArg dH hops;omega
 have key: ∀ {out:Out U},(∀ (w:World) (vs:Array Value) (N0:az) (ν:Nat->Nat) (δ:Nat->Option Nat) (ο:Nat->Array Value) (hg:Given X w vs N0 ν δ ο args boxes),
   Lands X (ee w N0 boxes.length args.length ν δ ο hg.oz S.nt hlow hg.bnd X.gblk hg.glob) [] e τ (bodyPost P fn (Ret X w N0 ν δ ο boxes.length args.length out)))->eG X (e9 P u u') f args boxes out:=by
  intro out hl
  refine ⟨⟨fn,hf,hname,hbody⟩,fun w vs N0 ν δ ο hg=> ?_⟩
  suffices hgoal:e9 P u u' f vs w (Ret X w N0 ν δ ο boxes.length args.length out) from CallsD.mono hgoal fun e u2 w2 h=>⟨h.1,Ret.full h.2⟩
  refine callsD_of_wpS hf hcode fun c₀ cs hu=> ?_
  have hs:=oD hg hargs hlow
  rw [hnt]
  have hl:=hl w vs N0 ν δ ο hg
  generalize hcx:ee w N0 boxes.length args.length ν δ ο hg.oz S.nt hlow hg.bnd X.gblk hg.glob=c at hs hl
  have hcnt:c.nt=S.nt:=by rw [<-hcx];rfl
  have hOS:gZ X (bL X) S c:=iD hI hS fun d hd=>by grind
  obtain ⟨val,cs2,hrv,hrep⟩: ∃val cs2,(match recoverD (c₀::cs) with|some (v,cs')=>v=val/\cs'=cs2|none=>val= .nilIface/\cs2=c₀::cs)/\(∃c1:Frame,cs2={c₀ with mode:=u'}::cs)/\ ∀ (w:World) (N:az) (g:Gh U),Rep X w N g val v:=by
   cases hv with
   |nil=>
    refine ⟨.nilIface,c₀::cs, ?_,⟨c₀, ?_⟩,fun _ _ _=> .nilIface⟩
    ·simp [recoverD,hu]
    ·rw [<-hu]
   |err t k n=>
    refine ⟨.iface t (.int k n),_, ?_,⟨c₀,rfl⟩,fun _ _ _=> .iface _ _ _ (.int _ _)⟩
    simp [recoverD,hu]
  obtain ⟨⟨_,hcs2⟩,hrep⟩:=hrep
  refine wpS_seq (wpS_region ?_)
  rw [hsz,List.range_eq_range',List.range'_succ]
  have h0:ops[0]? =some ⟨some d0,.call cl,ty,pos,after,none⟩:=by rw [<-Array.getElem?_toList,hops];rfl
  simp only [wpOpsS,h0]
  have hrun:(execOp (Act.eval ⟨vs++Array.replicate (S.nt-vs.size) undef,[]⟩) ⟨some d0,.call cl,ty,pos,after,none⟩).run P w= .ok .recover w:=by
   simp_all [yd,builtin]
  rw [if_pos (by rfl),hrun]
  simp only
  have hnext:wpOpsS P ops (Exit.thenS (b.wpS P (bodyPostS P fn c₀ cs fun e u2 w'=>u2=u'/\Ret X w N0 ν δ ο boxes.length args.length out e w')) (bodyPostS P fn c₀ cs fun e u2 w'=>u2=u'/\Ret X w N0 ν δ ο boxes.length args.length out e w')) (List.range' (0+1) more.length)
    (Act.put ⟨vs++Array.replicate (S.nt-vs.size) undef,[]⟩ (some d0) val) cs2 w:=by
   have hs1:=hs.put (d:=d0) (by grind) (hrep w _ _)
   have hLO: ∀ {next:Act->List Frame->World->Prop},¬LetsOut (fun e a' w'=>Exit.thenS next (bodyPostS P fn c₀ cs fun e u2 w'=>u2=u'/\Ret X w N0 ν δ ο boxes.length args.length out e w') e a' cs2 w'):=by
    rintro next ⟨a',w',u2,_,hq⟩
    exact hq
   refine Jg hLO _ _ _ ?_
   refine zk hOS more 1 _ w _ _ _ fps (by grind) (by grind) hs1 hops1 ?_
   intro a2 w2 g2 D2 hd2 hs2
   simp only [Exit.thenS]
   refine wpS_of_wp (ja hm hOS hcnt hbig a2 w2 g2 D2 _ (hs2.eqv ht1) ?_)
   intro a3 w3 g3 D3 hd3 hs3
   have hd0:a3.defers=[]:=hd3.trans hd2
   have hb:=hl a3 w3 g3 D3 hd0 hs3
   rw [hcs2]
   cases e with
   |normal=>obtain ⟨q1,v1,q2,q3⟩:=hb;exact ⟨q1,u',rfl,v1,q2,rfl,q3⟩
   |ret=>obtain ⟨q1,v1,q2,q3⟩:=hb;exact ⟨q1,u',rfl,v1,q2,rfl,q3⟩
   |exit id=>exact hb.elim
   |panic pv=>intro val' hval';obtain ⟨q1,q3⟩:=hb val' hval';exact ⟨q1,u',rfl,rfl,q3⟩
  grind
 cases e with
 |exit id=>cases hk
 |normal=>
  obtain ⟨r,τ0,τ1,gp,hr,ht,hfin⟩:=d4 hC _ hk (St.eqv.refl τ)
  cases r with
  |out o=>
   refine ⟨o,hfin,key fun w vs N0 ν δ ο hg a' w' g' D' hd hs=> ?_⟩
   obtain ⟨v,h1,h2⟩:=jU ga hg.dom hs hr
   exact ⟨hd,v,h1,h2⟩
  |_=>cases hfin
 |ret=>
  obtain ⟨r,τ0,τ1,gp,hr,ht,hfin⟩:=d4 hC _ hk (St.eqv.refl τ)
  cases r with
  |out o=>
   refine ⟨o,hfin,key fun w vs N0 ν δ ο hg a' w' g' D' hd hs=> ?_⟩
   obtain ⟨v,h1,h2⟩:=jU ga hg.dom hs hr
   exact ⟨hd,v,h1,h2⟩
  |_=>cases hfin
 |panic v=>
  obtain ⟨r,τ0,τ1,gp,hr,ht,hfin⟩:=d4 hC _ hk (St.eqv.refl τ)
  cases r with
  |out o=>
   refine ⟨o,hfin,key fun w vs N0 ν δ ο hg a' w' g' D' hd hs val hval=> ?_⟩
   exact ⟨hd,ra ga hg.dom hs hval hr⟩
  |_=>cases hfin
end
section
variable {U:Uni} {V:Env U} {P:Program} {X:Link V P}
def Ctx.refix (c:Ctx) (μ:Nat->Option Nat) (L:List Nat) (hnt:c.nt<=1000000) (hL: ∀id∈L,1000000<=id):Ctx:=
 {c with
  fix:=fun id=>if id∈L then μ id else c.fix id
  low:=fun id k h=>by
   split at h
   ·grind
   ·exact c.low id k h}
theorem Sim.refix {c:Ctx} {tm:Array Value} {w:World} {σ:St U} {g:Gh U} {D:Nat->Option Nat} (h:Sim X c tm w σ g D) {L:List Nat} {hnt:c.nt<=1000000} {hL: ∀id∈L,1000000<=id}:
  Sim X (c.refix g.μ L hnt hL) tm w σ g D where
 nt:=h.nt
 regs:=h.regs
 boxes:=h.boxes
 dom:=h.dom
 inj:=h.inj
 new:=h.new
 objs:=h.objs
 nobj:=h.nobj
 dinj:=h.dinj
 dnew:=h.dnew
 dbox:=h.dbox
 ext:=h.ext
 gl:=h.gl
 fix:=fun id k hk=>by
  simp only [Ctx.refix]
  by_cases hin:id∈L
  ·grind
  ·rw [if_neg hin];exact h.fix id k hk
theorem CtxOf.refix {c:Ctx} {tm:Array Value} {w:World} {σ:St U} {g:Gh U} {D:Nat->Option Nat} (h:Sim X c tm w σ g D) {L:List Nat} {hnt:c.nt<=1000000} {hL: ∀id∈L,1000000<=id} (hLμ: ∀id∈L,∃b,g.μ id=some b)
  {w0:World} {N0:az} {n m:Nat} {ν:Nat->Nat} {δ:Nat->Option Nat} {ο:Nat->Array Value} (hc:CtxOf c w0 N0 n m ν δ ο):CtxOf (c.refix g.μ L hnt hL) w0 N0 n m ν δ ο where
 cw:=hc.cw
 cN:=hc.cN
 bl:=hc.bl
 fix i hi:=by
  simp only [Ctx.refix]
  by_cases hin:ci i∈L
  ·rw [if_pos hin]
   obtain ⟨b,hb⟩:=hLμ _ hin
   rcases h.fix _ _ hb with h1|⟨h1,_⟩
   ·rw [hb,<-h1];exact hc.fix i hi
   ·rw [hc.fix i hi] at h1;cases h1
  ·rw [if_neg hin];exact hc.fix i hi
 other id k hk:=by
  simp only [Ctx.refix] at hk
  by_cases hin:id∈L
  ·rw [if_pos hin] at hk
   rcases h.fix _ _ hk with h1|⟨_,h1⟩
   ·exact hc.other id k h1
   ·rw [hc.cw] at h1;omega
  ·rw [if_neg hin] at hk;exact hc.other id k hk
 bnd:=hc.bnd
 oo:=hc.oo
def oJ (c':Ctx) (caps:List (PV U)) (us:Array Value):Prop:=us.size=caps.length/\ ∀ (j:Nat) p,caps[j]? =some p-> ∃id off b,p= .ptr id off/\c'.fix id=some b/\us.getD j undef= .pointer (some ⟨b,off,none⟩)
def oL (X:Link V P) (S:Side U) (code:Code) (σ:St U) (h:FuncId) (caps:List (PV U)) (e:Ex U) (τ:St U):Prop:=
 ∀ (c:Ctx),PinOK S c->c.nt=S.nt-> ∀ (a:Act) (w:World) (g:Gh U) (D:Nat->Option Nat) (Q:Exit->Act->World->Prop),Sim X c a.tmps w σ g D->a.defers=[]->
  (∀ (us:Array Value) (c':Ctx),(∀w0 N0 n m ν δ ο,CtxOf c w0 N0 n m ν δ ο->CtxOf c' w0 N0 n m ν δ ο)->c'.nt=c.nt->oJ c' caps us->Lands X c' [{target:= .fn (.func h) us,args:= #[]}] e τ Q)->code.wp P Q a w
theorem BY {l:List Oper} {o:Oper} {n:Tmp} (h:pW l=some (o,n)): ∃q cl,l=[o,q]/\o.dst=some n/\o.guard=none/\q.dst=none/\q.op= .defer cl/\q.guard=none/\cl.callee= .value (.tmp n)/\cl.args= #[]:=by
 unfold pW at h
 split at h
 case h_2=>cases h
 rename_i o' q
 split at h
 case h_2=>cases h
 rename_i m cl h1 h2 h3 h4 h5
 split at h
 case h_2=>cases h
 rename_i n' hcl
 cases hb:(ac m n'&&cl.args.isEmpty)<;>simp_all
theorem Hf (hm:P.follows .mixedOrders=true) (hI:gh X) {S:Side U} (hS:S.rcv=none) (hlow:S.nt<=1000000) {R:Type} {C:Oracle U R} (hC:C.Tells (bL X)) {ann:Nat->Option Ann} {fuel:Nat}:
  ∀ (code:Code) {σ:St U} {κ0:Ex U->St U->Option R} {κ1:FuncId->List (PV U)->Ex U->St U->Option R} {x:R},iO V S C ann fuel code σ κ0 κ1=some x->
   (∃e τ,e≠ .normal/\κ0 e τ=some x/\ ∀c,PinOK S c->c.nt=S.nt->ma X c none code σ e τ)\/
   (∃h caps e τ,κ1 h caps e τ=some x/\oL X S code σ h caps e τ):=by
 intro code
 induction code with
 |seq a b iha ihb=>
  intro σ κ0 κ1 x h
  have step:run V S C ann fuel a σ (fun| .normal,σ'=>iO V S C ann fuel b σ' κ0 κ1|e,σ'=>κ0 e σ')=some x->
    (∃e τ,e≠ .normal/\κ0 e τ=some x/\ ∀c,PinOK S c->c.nt=S.nt->ma X c none (.seq a b) σ e τ)\/
    (∃h caps e τ,κ1 h caps e τ=some x/\oL X S (.seq a b) σ h caps e τ):=by
   intro h
   obtain ⟨e,τ,hbig,hk⟩:=oB (bL X) V S ann hC fuel a h
   have early:e≠ .normal->κ0 e τ=some x->_:=fun he hk=>(.inl ⟨e,τ,he,hk,fun c hP hnt=>ja hm (iD hI hS hP) hnt (.seqE a b _ _ _ hbig he)⟩:
    (∃e τ,e≠ .normal/\κ0 e τ=some x/\ ∀c,PinOK S c->c.nt=S.nt->ma X c none (.seq a b) σ e τ)\/(∃h caps e τ,κ1 h caps e τ=some x/\oL X S (.seq a b) σ h caps e τ))
   cases e with
   |normal=>
    rcases ihb hk with ⟨e',τ',he',hk',hB⟩|⟨hh,caps,e',τ',hk',hB⟩
    ·exact .inl ⟨e',τ',he',hk',fun c hP hnt a' w g D Q hs hl=>wp_seq (ja hm (iD hI hS hP) hnt hbig a' w g D _ hs fun a2 w2 g2 D2 hd2 hs2=>hB c hP hnt a2 w2 g2 D2 Q hs2 (by grind))⟩
    ·exact .inr ⟨hh,caps,e',τ',hk',fun c hP hnt a' w g D Q hs hd hl=>wp_seq (ja hm (iD hI hS hP) hnt hbig a' w g D _ hs fun a2 w2 g2 D2 hd2 hs2=>hB c hP hnt a2 w2 g2 D2 Q hs2 (hd2.trans hd) hl)⟩
   |exit id=>grind
   |ret=>grind
   |panic v=>grind
  clear iha
  unfold iO at h
  split at h
  case h_2=>grind
  rename_i id ops draw
  split at h
  case h_2=>grind
  rename_i o n hdfr
  obtain ⟨q,cl,hops,ho1,ho2,hq1,hq2,hq3,hcl,hargs⟩:=BY hdfr
  cases hc:(!draw&&aW S.nt o) with
  |false=>grind
  |true=>
  rw [hc] at h
  simp only [cond_true] at h
  simp only [aj,Bool.not_eq_true'] at hc
  obtain ⟨hdraw,hdo⟩:=hc
  subst hdraw
  obtain ⟨r,τ0,τ,gp,hrel,ht,hk⟩:=d4 hC _ h (St.eqv.refl σ)
  cases r with
  |raise v=>cases hk
  |out o=>cases hk
  |done=>
  simp only at hk
  split at hk
  case h_2=>cases hk
  rename_i hh caps hfun
  cases hp:caps.all PV.pinned with
  |false=>grind
  |true=>
  rw [hp] at hk
  simp only [cond_true] at hk
  obtain ⟨e,τ2,hbig,hk2⟩:=oB (bL X) V {S with pin:=fun _=>false} ann hC fuel b hk
  refine .inr ⟨hh,caps,e,τ2,hk2,fun c hP hnt a w g D Q hs hdef hl=>wp_seq (wp_region ?_)⟩
  have hsz:ops.size=2:=by have:=congrArg dH hops;omega
  have h0:ops[0]? =some o:=by rw [<-Array.getElem?_toList,hops];rfl
  have h1:ops[1]? =some q:=by rw [<-Array.getElem?_toList,hops];rfl
  rw [hsz,show List.range 2=[0,1] from rfl]
  simp only [wpOps,h0,h1]
  rw [if_pos (by simp [Region.wanted,ho2])]
  refine .inl (iD hI hS hP o a w σ g D .done τ0 [] gp _ _ (by grind) hs hrel ⟨fun _ a2 w2 g2 D2 hd2 hs2=> ?_,fun v hv=>by cases hv⟩)
  rw [if_pos (by simp [Region.wanted,hq3])]
  refine .inl ?_
  have hs3:=hs2.eqv ht
  have hR:=hs3.regs n
  rw [hfun] at hR
  generalize hev:a2.tmps.getD n undef=ev at hR
  cases hR with
  |func _ _ _ vs us hvs hus hf1 hf2=>
  have hvs0:vs= #[]:=by
   grind
  subst hvs0
  obtain ⟨qd,qo,qt,qp,qa,qg⟩:=q
  simp only at hq1 hq2 hq3
  subst hq1;subst hq2;subst hq3
  have hrun:(execOp a2.eval ⟨none,.defer cl,qt,qp,qa,none⟩).run P w2= .ok (.defer {target:= .fn (.func hh) us,args:= #[]}) w2:=by
   have hev':a2.eval (.tmp n)= .func (.func hh) #[] us:=hev
   simp_all [execOp,resolve,Deferred.ofValue]
  unfold Oper.wp
  rw [hrun,Oper.upon_defer]
  have hids: ∀id∈PV.idsL caps,1000000<=id/\ ∃b,g2.μ id=some b:=by
   intro id hid
   obtain ⟨p,hpm,hpi⟩: ∃p∈caps,id∈p.ids:=by
    clear hl hk2 hbig hk hf1 hf2 hus hfun hp h step
    induction caps<;>grind [PV.idsL]
   have hpp:=bW.1 hp p hpm
   obtain ⟨j,hj⟩:=List.mem_iff_getElem?.1 hpm
   have hr:=hf2 j p hj
   cases p with
   |ptr id' off=>
    simp only [PV.ids,List.mem_singleton] at hpi
    subst hpi
    refine ⟨by simp_all [PV.pinned], ?_⟩
    generalize us.getD j undef=uv at hr
    cases hr<;>grind
   |_=>cases hpp
  have hcnt:c.nt<=1000000:=by omega
  refine ja (S:={S with pin:=fun _=>false}) hm (iD hI hS fun d hd=>by cases hd) (c:=c.refix g2.μ (PV.idsL caps) hcnt fun id hid=>(hids id hid).1) hnt hbig _ w2 g2 D2 Q hs3.refix ?_
  have hld:=hl us (c.refix g2.μ (PV.idsL caps) hcnt fun id hid=>(hids id hid).1) (fun w0 N0 n m ν δ ο hc=>CtxOf.refix hs3 (fun id hid=>(hids id hid).2) hc) rfl ⟨hus,fun j p hj=> ?_⟩
  ·grind [Act.put]
  ·have hpp:=bW.1 hp p (dk hj)
   have hr:=hf2 j p hj
   cases p with
   |ptr id off=>
    have hin:id∈PV.idsL caps:=cS hj id (by simp [PV.ids])
    generalize us.getD j undef=uv at hr
    cases hr<;>grind [Ctx.refix]
   |_=>cases hpp
 |_=>intro σ κ0 κ1 x h;cases h
end
section
variable {U:Uni} {V:Env U} {P:Program} {X:Link V P}
theorem qC {fn:Func} {w0:World} {N0:az} {n m:Nat} {ν:Nat->Nat} {δ:Nat->Option Nat} {c':Ctx} {ο:Nat->Array Value} (hc:CtxOf c' w0 N0 n m ν δ ο) (hdom: ∀j b,δ j=some b->j<m) {v:PV U} {u u':FrameMode} (hv:RcvOK v u u')
  {hh:FuncId} {caps:List (PV U)} {us:Array Value} (hct:oJ c' caps us) {τ τ1:St U} {r:MR U} {τ0:St U} {gp gp':List Loc} {K:bA U} {keep:Bool} {hand:List Bool} {out:Out U} {τ2:St U}
  (hrel:(ez (PV.idsL caps) fun _=>eM (fun _=>0) (fun _=>[]) [] none (.func hh [] caps) []).Rel (eG X (e9 P u u')) τ [] r τ0 gp) (hr:r= .done) (ht:τ0.eqv τ1) (hret:(fG V keep hand fn.results.toList n).Rel K τ1 [] (.out out) τ2 gp')
  {a:Act} {w:World} {g:Gh U} {D:Nat->Option Nat} (hs:Sim X c' a.tmps w τ g D):
  Leaves P fn a.tmps (Ret X w0 N0 ν δ ο n m out) [{target:= .fn (.func hh) us,args:= #[]}] u w:=by
 obtain ⟨bs,fp1,hrel1,hkeys,hbs⟩:=nH _ hrel
 have hR:Rep X w (c'.N g D) g (.func (.func hh) #[] us) (.func hh [] caps):=by
  refine .func hh [] caps #[] us rfl hct.1 (by simp) fun j p hp=> ?_
  obtain ⟨id,off,b,rfl,hfix,hus⟩:=hct.2 j p hp
  rw [hus]
  refine .ptr id off b ?_
  have hin:id∈PV.idsL caps:=cS hp id (by simp [PV.ids])
  rw [<-hkeys] at hin
  obtain ⟨x,hx,rfl⟩:=ck.1 hin
  obtain ⟨k,hk,_⟩:=hs.boxes x.1 x.2 (hbs x hx)
  rcases hs.fix _ _ hk with h1|⟨h1,_⟩
  ·rw [hfix] at h1;injection h1 with h1;rw [h1];exact hk
  ·rw [hfix] at h1;cases h1
 obtain ⟨f,a0s,bs',hfv,⟨fnh,hfh,hnameh,hbodyh⟩,hcall⟩:=tK (X:=X) (c:=c') (a:=a) (dst:=none) (o:=⟨none,.move (.const undef),0, "",#[],none⟩) (CP:=e9 P u u') (xs:= #[])
  (next:=fun a2 w2=>Leaves P fn a2.tmps (Ret X w0 N0 ν δ ο n m out) [] .returning w2) (Q:=fun _ _ _=>False)
  (fun {f vs w R R'} h hm=>CallsD.mono h fun e u2 w2 ⟨h1,h2⟩=>⟨h1,hm e w2 h2⟩) hs hR rfl (by simp) rfl rfl hrel1
  ⟨fun _ a2 w2 g2 D2 _ hs2=>by
   obtain ⟨v,h1,h2⟩:=jU hc hdom (hs2.eqv ht) hret
   exact ⟨v,h1,h2⟩,fun v hv=>by rw [hr] at hv;cases hv⟩
 injection hfv with e1 e2 e3
 injection e1 with e1
 subst e1;subst e2;subst e3
 have hun:u≠ .run:=by cases hv<;>simp
 refine leaves_cons hun (f:=hh) (args:= #[]++us) (by simp only [invoke];exact rQ hfh hnameh hbodyh _ w) ?_
 have hcall2:CallsD P hh (#[]++us) u w fun e u2 w'=>u2=u'/\(match e,w' with
    | .returned v,w''=>Leaves P fn (a.put none v).tmps (Ret X w0 N0 ν δ ο n m out) [] .returning w''
    | .panicked chain,w''=>False
    | .outgrown,_=>LetsOut (fun _ _ _=>False)):=by
  have:=hcall
  simp only [Array.append_empty] at this
  exact this.mono fun e u2 w2 ⟨h1,h2⟩=>⟨h1,by cases e<;>exact h2⟩
 refine hcall2.mono fun e u2 w2 ⟨h1,h2⟩=> ?_
 subst h1
 cases e with
 |returned rv=>
  simp only [Act.put] at h2
  have hset:settle u2= .returning:=by cases hv<;>rfl
  simp only [hset]
  exact h2
 |panicked chain=>exact h2.elim
 |outgrown=>obtain ⟨_,_,h⟩:=h2;exact h.elim
theorem x_ (hm:P.follows .mixedOrders=true) (hI:gh X) {S:Side U} (hS:S.rcv=none) {R:Type} {C:Oracle U R} (hC:C.Tells (bL X)) {Cd:PV U->Oracle U R} (hCd: ∀v u u',RcvOK v u u'->(Cd v).Tells (eG X (e9 P u u')))
  {f:FuncId} {fn:Func} (hf:P.funcs[f]? =some fn)
  (hname:(fn.name== "runtime.NumGoroutine")=false) (hbody:fn.body.isNone=false) (hnt:fn.ntmps=S.nt) (hlow:S.nt<=1000000) {args:List (PV U)} {boxes:List (Box U)} (hargs:args.length<=S.nt) (hboxes:boxes.length<=1000000)
  {ann:Nat->Option Ann} {fuel:Nat} {keep:Bool} {hand:List Bool} {κ:Out U->Option R} {x:R} (h:rM V S C ann fuel Cd keep hand fn args boxes κ=some x): ∃out,κ out=some x/\bL X f args boxes out:=by
 obtain ⟨code,hcode⟩: ∃code,fn.body=some code:=by
  cases hb:fn.body with
  |none=>rw [hb] at hbody;cases hbody
  |some code=>exact ⟨code,rfl⟩
 unfold rM er at h
 rw [hcode] at h
 have hpin: ∀ {w:World} {vs:Array Value} {N0:az} {ν:Nat->Nat} {δ:Nat->Option Nat} {ο:Nat->Array Value} (hg:Given X w vs N0 ν δ ο args boxes),PinOK S (ee w N0 boxes.length args.length ν δ ο hg.oz S.nt hlow hg.bnd X.gblk hg.glob):=by
  intro w vs N0 ν δ ο hg d _
  simp only [ee]
  rw [if_neg (by omega)]
 rcases Hf (X:=X) hm hI hS hlow hC code h with ⟨e,τ,he,hk,hB⟩|⟨hh,caps,e,τ,hk,hB⟩
 ·have key: ∀ {out:Out U},(∀ (w:World) (vs:Array Value) (N0:az) (ν:Nat->Nat) (δ:Nat->Option Nat) (ο:Nat->Array Value) (hg:Given X w vs N0 ν δ ο args boxes),
    Lands X (ee w N0 boxes.length args.length ν δ ο hg.oz S.nt hlow hg.bnd X.gblk hg.glob) [] e τ (bodyPost P fn (Ret X w N0 ν δ ο boxes.length args.length out)))->bL X f args boxes out:=by
   intro out hl
   refine ⟨⟨fn,hf,hname,hbody⟩,fun w vs N0 ν δ ο hg=>Calls.mono (calls_of_wp (R:=Ret X w N0 ν δ ο boxes.length args.length out) hf hcode ?_) fun e w h=>Ret.full h⟩
   have hs:=oD hg hargs hlow
   rw [hnt]
   exact hB _ (hpin hg) rfl _ w _ _ _ hs (hl w vs N0 ν δ ο hg)
  cases e with
  |exit id=>cases hk
  |normal=>exact absurd rfl he
  |ret=>
   obtain ⟨r,τ0,τ1,gp,hr,ht,hfin⟩:=d4 hC _ hk (St.eqv.refl τ)
   cases r with
   |out o=>
    refine ⟨o,hfin,key fun w vs N0 ν δ ο hg a' w' g' D' hd hs=> ?_⟩
    obtain ⟨v,h1,h2⟩:=jU ga hg.dom hs hr
    exact ⟨hd,v,h1,h2⟩
   |_=>cases hfin
  |panic v=>
   obtain ⟨r,τ0,τ1,gp,hr,ht,hfin⟩:=d4 hC _ hk (St.eqv.refl τ)
   cases r with
   |out o=>
    refine ⟨o,hfin,key fun w vs N0 ν δ ο hg a' w' g' D' hd hs val hval=> ?_⟩
    exact ⟨hd,ra ga hg.dom hs hval hr⟩
   |_=>cases hfin
 ·have key: ∀ {out:Out U},(∀ (w:World) (vs:Array Value) (N0:az) (ν:Nat->Nat) (δ:Nat->Option Nat) (ο:Nat->Array Value) (hg:Given X w vs N0 ν δ ο args boxes) (us:Array Value) (c':Ctx),CtxOf c' w N0 boxes.length args.length ν δ ο->oJ c' caps us->
    Lands X c' [{target:= .fn (.func hh) us,args:= #[]}] e τ (bodyPostD P fn (Ret X w N0 ν δ ο boxes.length args.length out)))->bL X f args boxes out:=by
   intro out hl
   refine ⟨⟨fn,hf,hname,hbody⟩,fun w vs N0 ν δ ο hg=>Calls.mono (calls_of_wp_defers (R:=Ret X w N0 ν δ ο boxes.length args.length out) hf hcode ?_) fun e w h=>Ret.full h⟩
   have hs:=oD hg hargs hlow
   rw [hnt]
   exact hB _ (hpin hg) rfl _ w _ _ _ hs rfl fun us c' hcx _ hct=>hl w vs N0 ν δ ο hg us c' (hcx _ _ _ _ _ _ _ ga) hct
  have fin: ∀ {v:PV U} {u u':FrameMode},RcvOK v u u'->(ez (PV.idsL caps) fun _=>eM (fun _=>0) (fun _=>[]) [] none (.func hh [] caps) []).cps (Cd v) τ [] (fun| .done,σ',_=>(fG V keep hand fn.results.toList boxes.length).cps C σ' [] (Go.Proofs.YtlidjlacmpaefaaGreatDoor.PI.fin κ)|_,_,_=>none)=some x->
    ∃ (out:Out U) (r:MR U) (τ0 τ1 τ2:St U) (gp gp':List Loc),κ out=some x/\(ez (PV.idsL caps) fun _=>eM (fun _=>0) (fun _=>[]) [] none (.func hh [] caps) []).Rel (eG X (e9 P u u')) τ [] r τ0 gp/\r= .done/\τ0.eqv τ1/\(fG V keep hand fn.results.toList boxes.length).Rel (bL X) τ1 [] (.out out) τ2 gp':=by
   intro v u u' hv hk
   obtain ⟨r,τ0,τ1,gp,hr,ht,hk1⟩:=d4 (hCd v u u' hv) _ hk (St.eqv.refl τ)
   cases r with
   |raise v=>cases hk1
   |out o=>cases hk1
   |done=>
    obtain ⟨r',τ2,τ3,gp',hr',ht',hk2⟩:=d4 hC _ hk1 (St.eqv.refl τ1)
    cases r' with
    |out o=>exact ⟨o,.done,τ0,τ1,τ2,gp,gp',hk2,hr,rfl,ht,hr'⟩
    |_=>cases hk2
  cases e with
  |exit id=>cases hk
  |normal=>
   obtain ⟨out,r,τ0,τ1,τ2,gp,gp',h1,h2,h3,h4,h5⟩:=fin .nil hk
   refine ⟨out,h1,key fun w vs N0 ν δ ο hg us c' hcx hct a' w' g' D' hd hs=> ?_⟩
   simp only [bodyPostD,hd]
   exact qC hcx hg.dom .nil hct h2 h3 h4 h5 hs
  |ret=>
   obtain ⟨out,r,τ0,τ1,τ2,gp,gp',h1,h2,h3,h4,h5⟩:=fin .nil hk
   refine ⟨out,h1,key fun w vs N0 ν δ ο hg us c' hcx hct a' w' g' D' hd hs=> ?_⟩
   simp only [bodyPostD,hd]
   exact qC hcx hg.dom .nil hct h2 h3 h4 h5 hs
  |panic v=>
   simp only [kD] at hk
   split at hk
   case h_2=>cases hk
   rename_i t k n'
   obtain ⟨out,r,τ0,τ1,τ2,gp,gp',h1,h2,h3,h4,h5⟩:=fin (.err t k n') hk
   refine ⟨out,h1,key fun w vs N0 ν δ ο hg us c' hcx hct a' w' g' D' hd hs val hval=> ?_⟩
   simp only [bodyPostD,hd]
   cases hval with
   |iface _ u _ hu=>cases hu;exact qC hcx hg.dom (.err t k n') hct h2 h3 h4 h5 hs
end
end Go.Proofs.YtlidjlacmpaefaaGreatDoor.PI
namespace Go.Proofs.YtlidjlacmpaefaaGreatDoor
open Go PI
set_option maxRecDepth 100000
noncomputable section
noncomputable def la:ET->TypeId
 | .C=>86
 | .T=>27
 | .B=>61
 | .I=>3
 | .F=>23
 | .D=>46
 | .G=>43
 | .K=>74
 | .R=>116
noncomputable def jm:ET->Nat
 | .C=>2
 | .T=>6
 | .B=>2
 | .I=>1
 | .F=>1
 | .D=>7
 | .G=>7
 | .K=>7
 | .R=>1
noncomputable def nr:ET->Nat
 | .C=>8
 | .T=>104
 | .B=>48
 | .I=>8
 | .F=>24
 | .D=>120
 | .G=>120
 | .K=>112
 | .R=>16
noncomputable def nC (e:ET):Value:=((Tryz.prog.info? (la e)).bind (·.zero)).getD undef
noncomputable def p6 (e:ET):Bool:=match Tryz.prog.info? (la e) with
 |some i=>i.zero.isSome&&(ac i.size (jm e)&&ac i.bytes (nr e))&&ac (nC e).cells.size (jm e)
 | .none=>false
theorem uJ (e:ET):p6 e=true:=by cases e<;>kernel_rfl
theorem y7: ∀t r,l9 t=some r->sX Tryz.prog la t r=true:=by
 intro t r h
 unfold l9 at h
 split at h<;>first|(injection h with h;subst h;kernel_rfl)|cases h
theorem Ek: ∀t r e,l9 t=some r->r.keys=some e->e= .C:=by
 intro t r e h hk
 unfold l9 at h
 split at h<;>first|(injection h with h;subst h;cases hk;done)|(injection h with h;subst h;injection hk with hk;exact hk.symm)|cases h
theorem IY: ∀e cs y,yZ e cs=some y->cs.length=jm e/\cs.all PV.isCell=true/\ ∀ (k:Nat) p,cs[k]? =some p-> ∃q,(dh e y)[k]? =some q/\p.less q:=by
 have hC: ∀ {p:PU} {l},g8 p=some l-> ∃o,p= .sl (U:=UU) ET.C l o:=by
  intro p l h;unfold g8 at h;split at h<;>first|(injection h with h;subst h;exact ⟨_,rfl⟩)|cases h
 have hT: ∀ {p:PU} {l},i9 p=some l-> ∃o,p= .sl (U:=UU) ET.T l o:=by
  intro p l h;unfold i9 at h;split at h<;>first|(injection h with h;subst h;exact ⟨_,rfl⟩)|cases h
 have hB: ∀ {p:PU} {l},ke p=some l-> ∃o,p= .sl (U:=UU) ET.B l o:=by
  intro p l h;unfold ke at h;split at h<;>first|(injection h with h;subst h;exact ⟨_,rfl⟩)|cases h
 intro e cs y h
 cases e
 ·have h:sR cs=some y:=h
  unfold sR at h
  split at h
  case h_2=>cases h
  injection h with h;subst h
  refine ⟨rfl,rfl,fun k p hp=> ?_⟩
  match k,hp with
  |0,hp=>exact ⟨_,rfl,.inl (Option.some.inj hp).symm⟩
  |1,hp=>exact ⟨_,rfl,.inl (Option.some.inj hp).symm⟩
  |k+2,hp=>simp at hp
 ·have h:sW cs=some y:=h
  unfold sW at h
  split at h
  case h_2=>cases h
  split at h
  case h_2=>cases h
  rename_i h1 h2 h3
  injection h with h;subst h
  obtain ⟨o1,rfl⟩:=hC h1;obtain ⟨o2,rfl⟩:=hT h2;obtain ⟨o3,rfl⟩:=hB h3
  refine ⟨rfl,rfl,fun k p hp=> ?_⟩
  match k,hp with
  |0,hp=>exact ⟨_,rfl,.inl (Option.some.inj hp).symm⟩
  |1,hp=>exact ⟨_,rfl,.inl (Option.some.inj hp).symm⟩
  |2,hp=>exact ⟨_,rfl,.inl (Option.some.inj hp).symm⟩
  |3,hp=>exact ⟨_,rfl,.inr (.inr ⟨_,_,_,(Option.some.inj hp).symm,rfl⟩)⟩
  |4,hp=>exact ⟨_,rfl,.inr (.inr ⟨_,_,_,(Option.some.inj hp).symm,rfl⟩)⟩
  |5,hp=>exact ⟨_,rfl,.inr (.inr ⟨_,_,_,(Option.some.inj hp).symm,rfl⟩)⟩
  |k+6,hp=>simp at hp
 ·have h:sQ cs=some y:=h
  unfold sQ at h
  split at h
  case h_2=>cases h
  split at h
  case h_2=>cases h
  rename_i h1 h2
  injection h with h;subst h
  obtain ⟨o1,rfl⟩:=hC h1;obtain ⟨o2,rfl⟩:=hT h2
  refine ⟨rfl,rfl,fun k p hp=> ?_⟩
  match k,hp with
  |0,hp=>exact ⟨_,rfl,.inr (.inr ⟨_,_,_,(Option.some.inj hp).symm,rfl⟩)⟩
  |1,hp=>exact ⟨_,rfl,.inr (.inr ⟨_,_,_,(Option.some.inj hp).symm,rfl⟩)⟩
  |k+2,hp=>simp at hp
 ·have h:sU cs=some y:=h
  unfold sU at h
  split at h
  case h_2=>cases h
  injection h with h;subst h
  refine ⟨rfl,rfl,fun k p hp=> ?_⟩
  match k,hp with
  |0,hp=>exact ⟨_,rfl,.inl (Option.some.inj hp).symm⟩
  |k+1,hp=>simp at hp
 ·have h:sS cs=some y:=h
  unfold sS at h
  split at h
  case h_2=>cases h
  obtain ⟨o1,rfl⟩:=hC h
  refine ⟨rfl,rfl,fun k p hp=> ?_⟩
  match k,hp with
  |0,hp=>exact ⟨_,rfl,.inr (.inr ⟨_,_,_,(Option.some.inj hp).symm,rfl⟩)⟩
  |k+1,hp=>simp at hp
 ·have h:j1 cs=some y:=h
  unfold j1 at h
  split at h
  case h_2=>cases h
  split at h
  case h_2=>cases h
  rename_i h1 h2 h3
  injection h with h;subst h
  obtain ⟨o1,rfl⟩:=hC h1;obtain ⟨o2,rfl⟩:=hT h2;obtain ⟨o3,rfl⟩:=hB h3
  refine ⟨rfl,rfl,fun k p hp=> ?_⟩
  match k,hp with
  |0,hp=>exact ⟨_,rfl,.inl (Option.some.inj hp).symm⟩
  |1,hp=>exact ⟨_,rfl,.inl (Option.some.inj hp).symm⟩
  |2,hp=>exact ⟨_,rfl,.inl (Option.some.inj hp).symm⟩
  |3,hp=>exact ⟨_,rfl,.inl (Option.some.inj hp).symm⟩
  |4,hp=>exact ⟨_,rfl,.inr (.inr ⟨_,_,_,(Option.some.inj hp).symm,rfl⟩)⟩
  |5,hp=>exact ⟨_,rfl,.inr (.inr ⟨_,_,_,(Option.some.inj hp).symm,rfl⟩)⟩
  |6,hp=>exact ⟨_,rfl,.inr (.inr ⟨_,_,_,(Option.some.inj hp).symm,rfl⟩)⟩
  |k+7,hp=>simp at hp
 ·have h:j1 cs=some y:=h
  unfold j1 at h
  split at h
  case h_2=>cases h
  split at h
  case h_2=>cases h
  rename_i h1 h2 h3
  injection h with h;subst h
  obtain ⟨o1,rfl⟩:=hC h1;obtain ⟨o2,rfl⟩:=hT h2;obtain ⟨o3,rfl⟩:=hB h3
  refine ⟨rfl,rfl,fun k p hp=> ?_⟩
  match k,hp with
  |0,hp=>exact ⟨_,rfl,.inl (Option.some.inj hp).symm⟩
  |1,hp=>exact ⟨_,rfl,.inl (Option.some.inj hp).symm⟩
  |2,hp=>exact ⟨_,rfl,.inl (Option.some.inj hp).symm⟩
  |3,hp=>exact ⟨_,rfl,.inl (Option.some.inj hp).symm⟩
  |4,hp=>exact ⟨_,rfl,.inr (.inr ⟨_,_,_,(Option.some.inj hp).symm,rfl⟩)⟩
  |5,hp=>exact ⟨_,rfl,.inr (.inr ⟨_,_,_,(Option.some.inj hp).symm,rfl⟩)⟩
  |6,hp=>exact ⟨_,rfl,.inr (.inr ⟨_,_,_,(Option.some.inj hp).symm,rfl⟩)⟩
  |k+7,hp=>simp at hp
 ·have h:sV cs=some y:=h
  unfold sV at h
  split at h
  case h_2=>cases h
  rename_i q _
  cases hq:PV.isCell q with
  |false=>rw [hq] at h;cases h
  |true=>
  rw [hq] at h
  simp only [cond_true] at h
  split at h
  case h_2=>cases h
  rename_i h1 h2 h3
  injection h with h;subst h
  obtain ⟨o1,rfl⟩:=hC h1;obtain ⟨o2,rfl⟩:=hT h2;obtain ⟨o3,rfl⟩:=hB h3
  refine ⟨rfl, ?_,fun k p hp=> ?_⟩
  ·show (true&&(true&&(true&&(true&&(true&&(true&&(PV.isCell q&&true)))))))=true
   rw [hq];rfl
  match k,hp with
  |0,hp=>exact ⟨_,rfl,.inl (Option.some.inj hp).symm⟩
  |1,hp=>exact ⟨_,rfl,.inl (Option.some.inj hp).symm⟩
  |2,hp=>exact ⟨_,rfl,.inl (Option.some.inj hp).symm⟩
  |3,hp=>exact ⟨_,rfl,.inr (.inr ⟨_,_,_,(Option.some.inj hp).symm,rfl⟩)⟩
  |4,hp=>exact ⟨_,rfl,.inr (.inr ⟨_,_,_,(Option.some.inj hp).symm,rfl⟩)⟩
  |5,hp=>exact ⟨_,rfl,.inr (.inr ⟨_,_,_,(Option.some.inj hp).symm,rfl⟩)⟩
  |6,hp=>exact ⟨_,rfl,.inr (.inl ⟨rfl,by rw [<-Option.some.inj hp];exact hq⟩)⟩
  |k+7,hp=>simp at hp
 ·have h:(dl:Option Unit)=some y:=h
  cases h
theorem C7 (e:ET): ∃i,Tryz.prog.info? (la e)=some i/\i.zero=some (nC e)/\i.size=jm e/\i.bytes=nr e:=by
 have h:=uJ e
 unfold p6 at h
 split at h
 ·rename_i i hi
  simp only [aj] at h
  obtain ⟨⟨h1,h2,h3⟩,h4⟩:=h
  refine ⟨i,hi, ?_,by simpa using h2,by simpa using h3⟩
  unfold nC
  rw [hi]
  obtain ⟨z,hz⟩:=Option.isSome_iff_exists.1 h1
  simp [hz]
 ·cases h
theorem DR: ∀t f,qk t=some f->qS Tryz.prog t "hypercube/mach.apply" f=true:=by
 intro t f h
 unfold qk at h
 split at h<;>first|(injection h with h;subst h;kernel_rfl)|cases h
theorem DS: ∀t nm f,ql t nm=some f-> ∀v w,(method (Tryz.prog.types.size+Made.depth) t v nm).run Tryz.prog w= .ok (f,v) w:=by
 intro t nm f h v w
 unfold ql at h
 cases hn:nm== "hypercube/mach.apply" with
 |false=>rw [hn] at h;cases h
 |true=>
 rw [hn] at h
 have hn:=eq_of_beq hn
 subst hn
 exact FG (DR t f h) v w
noncomputable def LL (o:Obj):Link VV Tryz.prog where
 gblk:=[(0,o)]
 etid:=la
 esize:=jm
 ebytes:=nr
 ezero:=nC
 einfo:=C7
 zsize:=fun e=>by
  have h:=uJ e
  unfold p6 at h
  split at h
  ·simp only [aj] at h
   exact by simpa using h.2
  ·cases h
 epos:=fun e=>by cases e<;>decide
 esz:=fun e=>by cases e<;>rfl
 inv:=DS
 broom:=fun e n h=>by
  have h':n<=1099511627776:=h
  cases e<;>simp only [nr,maxLen]<;>omega
 len:=fun e x=>by cases e<;>rfl
 small:=fun e=>by cases e<;>decide
 ecell':=fun e x=>by cases e<;>rfl
 toEl:=IY
 ty:=fun t r h=>y6 (y7 t r h)
 keyT:=fun t r e h hk=>by
  have he:=Ek t r e h hk
  subst he
  obtain ⟨fs,h1,h2,_,h4,h5⟩:=(y6 (y7 86 _ rfl)).isInts rfl
  exact ⟨⟨fs,h1,h2,h4,h5⟩,fun x y=>⟨_,by simp only [VV,dh,PV.eqvI];rfl⟩⟩
theorem jM:Tryz.prog.follows .mixedOrders=true:=by kernel_rfl
theorem sw {A B:Out UU->Prop} (h: ∃out,A out/\B out): ∃out,B out/\A out:=by obtain ⟨o,a,b⟩:=h;exact ⟨o,b,a⟩
end
end Go.Proofs.YtlidjlacmpaefaaGreatDoor
namespace Go.Proofs.YtlidjlacmpaefaaGreatDoor
open Go PI
def U32 (s:Int):Prop:=0<=s/\s<4294967296
theorem U32.nat {s:Int} (h:U32 s): ∃n:Nat,n<4294967296/\s=n:=⟨s.toNat,by have:=h.1;have:=h.2;omega,by have:=h.1;omega⟩
theorem jb {n:Nat} (h:n<4294967296):(BitVec.ofInt 32 (n:Int)).toNat=n:=by
 grind
theorem l_ (n:Nat) (h:n<4294967296):ay .u32 (n:Int)=n:=by
 grind [ay,IntKind.bits,IntKind.signed]
theorem tc (n:Nat) (h:n<18446744073709551616):ay .u64 (n:Int)=n:=by
 grind [ay,IntKind.bits,IntKind.signed]
theorem s_ {n:Int} (h1: -9223372036854775808<=n) (h2:n<9223372036854775808):ay .i64 n=n:=by
 grind [ay,IntKind.bits,IntKind.signed]
theorem mf {a b n:Nat} (h:a<2^n):a&&&b<2^n:=Nat.lt_of_le_of_lt Nat.and_le_left h
theorem pj {a b:Nat} (ha:a<4294967296) (hb:b<4294967296):bJ .and .u32 (a:Int) (b:Int)=((a&&&b:Nat):Int):=by
 have h1:=jb ha;have h2:=jb hb
 simp only [bJ]
 show ay .u32 (((BitVec.ofInt 32 (a:Int))&&&(BitVec.ofInt 32 (b:Int))).toNat:Int)=_
 rw [BitVec.toNat_and,h1,h2]
 exact l_ _ (mf (n:=32) ha)
theorem tA {a b:Nat} (ha:a<4294967296) (hb:b<4294967296):bJ .or .u32 (a:Int) (b:Int)=((a|||b:Nat):Int):=by
 have h1:=jb ha;have h2:=jb hb
 simp only [bJ]
 show ay .u32 (((BitVec.ofInt 32 (a:Int))|||(BitVec.ofInt 32 (b:Int))).toNat:Int)=_
 rw [BitVec.toNat_or,h1,h2]
 exact l_ _ (Nat.or_lt_two_pow (n:=32) ha hb)
def fX (a b:Nat):Nat:=a^^^(a&&&b)
theorem nW (a b i:Nat):(fX a b).testBit i=(a.testBit i&& !b.testBit i):=by
 grind [fX]
theorem FL {a b n:Nat} (h:a<2^n):fX a b<2^n:=Nat.xor_lt_two_pow h (mf h)
theorem tz {a b:Nat} (ha:a<4294967296) (hb:b<4294967296):bJ .andNot .u32 (a:Int) (b:Int)=((fX a b:Nat):Int):=by
 have h1:=jb ha;have h2:=jb hb
 simp only [bJ]
 show ay .u32 (((BitVec.ofInt 32 (a:Int))&&& ~~~(BitVec.ofInt 32 (b:Int))).toNat:Int)=_
 have e:((BitVec.ofInt 32 (a:Int))&&& ~~~(BitVec.ofInt 32 (b:Int))).toNat=fX a b:=by
  apply Nat.eq_of_testBit_eq
  intro i
  rw [nW,BitVec.toNat_and,Nat.testBit_and,h1]
  by_cases hi:i<32
  ·grind
  ·have:a.testBit i=false:=Nat.testBit_lt_two_pow (eJ ha (by exact Nat.pow_le_pow_right (n:=2) (by decide) (show 32<=i by omega)))
   grind
 rw [e]
 exact l_ _ (FL (n:=32) ha)
theorem eC {α:Type} (p:Prop) [Decidable p] (x y:α):aa (decide p) x y=if p then x else y:=by
 grind [aH,ax]
theorem f0 {α:Type} (c:Bool) (x y:α):aa c x y=if c=true then x else y:=by
 grind [ax,aH]
abbrev Fu (k:Nat):Prop:=4294967296<=k
theorem aJ {R S:Type} {k:Nat} (h:Fu k) (f:(R->OS S)->OS S) (g:R->OS S):ab k f g=f g:=tM (by omega) f g
theorem gN {S:Type} {n m:Nat} (h:n+m<=1099511627776) (f:Unit->OS S):aN (cx 1099511627776 n m) f=f ():=by
 grind [cx]
theorem bK {α:Type} {l p r:List α} {x:α} (h:l=p++x::r) (hl:l.length<4611686018427387904):
  decide ((p.length:Int)<(l.length:Int))=true/\aM l (p.length:Int)=some x/\ay .i64 ((p.length:Int)+1)=((p++[x]).length:Int)/\l=(p++[x])++r:=by
 subst h
 rw [List.length_append,List.length_cons] at hl
 refine ⟨decide_eq_true (by grind), ?_, ?_,by simp⟩
 all_goals grind [aM,ay,IntKind.bits]
theorem lx {α:Type} {l p:List α} (h:l=p++[]):decide ((p.length:Int)<(l.length:Int))=false:=by
 grind
theorem aK {n m:Nat} (h:n<m): ∃q,m=q+1/\n<=q:=⟨m-1,by omega,by omega⟩
theorem px {S:Type} (p:Prop) [Decidable p] (h:p) (f:Unit->OS S):aN (cm p) f=f ():=by simp [cm,h]
end Go.Proofs.YtlidjlacmpaefaaGreatDoor
namespace Go.Proofs.YtlidjlacmpaefaaGreatDoor
open Go PI
set_option maxRecDepth 100000
noncomputable section
variable {S:Type}
abbrev eF (S:Type):=Tm->Int->(Int->OS S)->OS S
def mr (hd:eF S) (k:Nat) (Z:Int->OS S) (t:Tm) (most i7:Int) (rec1:Int->Int->OS S) (rec2:Int->Int->OS S) (v5'' v8:Int):OS S:=aN (aM t.sys i7) fun x5=>aa (decide ((v8:Int)<(x5.kids.length:Int))) (aa (decide ((v5'':Int)<=most)) (aN (aM t.sys i7) fun x6=>aN (aM x6.kids v8) fun x7=>hd (aF x7) (ay .i64 (most-v5'')) fun r8=>rec2 (ay .i64 (v5''+r8)) (ay .i64 (v8+1))) (rec1 v5'' (ay .i64 (i7+1)))) (rec1 v5'' (ay .i64 (i7+1)))
def fT (hd:eF S) (k:Nat) (Z:Int->OS S) (rec1:Int->Int->OS S) (t:Tm) (most i7:Int):Nat->Int->Int->OS S
 |0=>fun _ _=> .none
 |m+1=>fun v5'' v8=>mr hd k Z t most i7 rec1 (fT hd k Z rec1 t most i7 m) v5'' v8
def ko (hd:eF S) (k:Nat) (Z:Int->OS S) (t:Tm) (most:Int) (J2:Int->Int->Int->OS S) (rec1:Int->Int->OS S) (v5' i7:Int):OS S:=aa (decide ((i7:Int)<(t.sys.length:Int))) (aa (decide ((v5':Int)<=most)) (aN (aM t.sys i7) fun x3=>aa (decide (((x3.face.length:Int):Int)>most)) (Z (ay .i64 (most+1))) (aN (aM t.sys i7) fun x4=>J2 i7 (ay .i64 ((ay .i64 (v5'+1))+(x4.face.length:Int))) 0)) (Z v5')) (Z v5')
def fz (hd:eF S) (k:Nat) (Z:Int->OS S) (t:Tm) (most:Int):Nat->Int->Int->OS S
 |0=>fun _ _=> .none
 |m+1=>fun v5' i7=>ko hd k Z t most (fun i7 v5'' v8=>fT hd k Z (fz hd k Z t most m) t most i7 k v5'' v8) (fz hd k Z t most m) v5' i7
def kn (hd:eF S) (k:Nat) (Z:Int->OS S) (t:Tm) (most:Int) (J1:Int->Int->OS S) (rec0:Int->Int->OS S) (v5 i6:Int):OS S:=aa (decide ((i6:Int)<(t.kids.length:Int))) (aa (decide ((v5:Int)<=most)) (aN (aM t.kids i6) fun x1=>hd (aF x1) (ay .i64 (most-v5)) fun r2=>rec0 (ay .i64 (v5+r2)) (ay .i64 (i6+1))) (J1 v5 0)) (J1 v5 0)
def ik (hd:eF S) (k:Nat) (Z:Int->OS S) (t:Tm) (most:Int):Nat->Int->Int->OS S
 |0=>fun _ _=> .none
 |m+1=>fun v5 i6=>kn hd k Z t most (fun v5' i7=>fz hd k Z t most k v5' i7) (ik hd k Z t most m) v5 i6
def sr (hd:eF S) (k:Nat) (Z:Int->OS S) (J0:Int->Int->OS S) (t:Tm) (most:Int):OS S:=aa (decide (((t.r.length:Int):Int)>most)) (Z (ay .i64 (most+1))) (aa (decide (((t.name.size:Int):Int)>most)) (Z (ay .i64 (most+1))) (J0 (ay .i64 ((ay .i64 (1+(t.r.length:Int)))+(t.name.size:Int))) 0))
def dK:Nat->Tm->Int->(Int->OS S)->OS S
 |0=>fun _ _ _=> .none
 |k+1=>fun t most Z=>sr (dK k) k Z (fun v5 i6=>ik (dK k) k Z t most k v5 i6) t most
def mY (k:Nat) (t:Tm) (Z:Bool->OS S):OS S:=dK k (aF t) 80 fun r1=>Z (decide ((r1:Int)>80))
def mX (k:Nat) (t:Tm) (Z:Bool->OS S):OS S:=dK k (aF t) 100 fun r1=>Z (decide ((r1:Int)>100))
def mn (k:Nat) (Z:Bool->OS S) (l:List Df) (rec0:Int->OS S) (v10:Int):OS S:=aa (decide ((v10:Int)<(l.length:Int))) (aN (aM l v10) fun x1=>ab k (mX k (aF x1.body)) fun r2=>aa (r2) (Z true) (aa (decide (((x1.name.size:Int):Int)>50)) (Z true) (rec0 (ay .i64 (v10+1))))) (Z false)
def ig (k:Nat) (Z:Bool->OS S) (l:List Df):Nat->Int->OS S
 |0=>fun _=> .none
 |m+1=>fun v10=>mn k Z l (ig k Z l m) v10
def sh (k:Nat) (Z:Bool->OS S) (J0:Int->OS S) (l:List Df):OS S:=aa (decide (((l.length:Int):Int)>8)) (Z true) (J0 0)
def mW (k:Nat) (l:List Df) (Z:Bool->OS S):OS S:=sh k Z (fun v10=>ig k Z l k v10) l
def ml (k:Nat) (Z:List Df->OS S) (l:List Df) (rec0:(List Df)->Int->OS S) (out3:List Df) (v8:Int):OS S:=aa (decide ((v8:Int)<(l.length:Int))) (aN (aM l v8) fun x1=>aN (cx 1099511627776 out3.length [(k_ x1)].length) fun x2=>rec0 (out3++[(k_ x1)]) (ay .i64 (v8+1))) (Z out3)
def jA (k:Nat) (Z:List Df->OS S) (l:List Df):Nat->(List Df)->Int->OS S
 |0=>fun _ _=> .none
 |m+1=>fun out3 v8=>ml k Z l (jA k Z l m) out3 v8
def sg (k:Nat) (Z:List Df->OS S) (J0:(List Df)->Int->OS S) (l:List Df):OS S:=J0 ([]:List Df) 0
def dz (k:Nat) (l:List Df) (Z:List Df->OS S):OS S:=sg k Z (fun out3 v8=>jA k Z l k out3 v8) l
def jj (k:Nat) (kind kid:Int) (Z:Int×Int->OS S):OS S:=aa (kind==4) (aa (kid==1) (Z (1,0)) (Z (0,0))) (aa (kind==7) (aa (kid==1) (Z (1,0)) (Z (0,0))) (aa (kind==5) (aa (kid==0) (Z (1,0)) (Z (0,0))) (aa (kind==22) (aa (kid==0) (Z (1,0)) (Z (0,0))) (aa (kind==27) (aa (kid==0) (Z (1,0)) (Z (0,0))) (aa (kind==11) (aa (kid==0) (Z (0,1)) (Z (0,0))) (aa (kind==12) (aa (kid==0) (Z (0,1)) (Z (0,0))) (aa (kind==14) (aa (kid==0) (Z (0,1)) (Z (0,0))) (Z (0,0)))))))))
abbrev cF (S:Type):=Tm->Int->(Bool->OS S)->OS S
def kV (hd:cF S) (k:Nat) (a_k:Tm) (p p' c0:Int) (Z:Bool->OS S):OS S:=hd (aF a_k) (ay .i64 (c0-1)) fun r1=>Z r1
def mE (hd:cF S) (k:Nat) (Z:Bool->OS S) (c0:Int) (t:Tm) (v42:Int) (x4:(Br Tm)) (more9:Int) (rec1:Int->Int->OS S) (rec2:Int->OS S) (v49:Int):OS S:=aa (decide ((v49:Int)<(x4.kids.length:Int))) (aN (aM x4.kids v49) fun x5=>ab k (kV hd k (aF x5) 0 more9 c0) fun r6=>aa (!r6) (Z false) (rec2 (ay .i64 (v49+1)))) (rec1 (ay .i64 (v42+1)) more9)
def it (hd:cF S) (k:Nat) (Z:Bool->OS S) (rec1:Int->Int->OS S) (c0:Int) (t:Tm) (v42:Int) (x4:(Br Tm)) (more9:Int):Nat->Int->OS S
 |0=>fun _=> .none
 |m+1=>fun v49=>mE hd k Z c0 t v42 x4 more9 rec1 (it hd k Z rec1 c0 t v42 x4 more9 m) v49
def kC (hd:cF S) (k:Nat) (Z:Bool->OS S) (c0:Int) (t:Tm) (J2:Int->(Br Tm)->Int->Int->OS S) (rec1:Int->Int->OS S) (v42 more9:Int):OS S:=aa (decide ((v42:Int)<(t.sys.length:Int))) (aN (aM t.sys v42) fun x4=>J2 v42 x4 more9 0) (Z true)
def fA (hd:cF S) (k:Nat) (Z:Bool->OS S) (c0:Int) (t:Tm):Nat->Int->Int->OS S
 |0=>fun _ _=> .none
 |m+1=>fun v42 more9=>kC hd k Z c0 t (fun v42 x4 more9 v49=>it hd k Z (fA hd k Z c0 t m) c0 t v42 x4 more9 k v49) (fA hd k Z c0 t m) v42 more9
def kB (hd:cF S) (k:Nat) (Z:Bool->OS S) (c0:Int) (t:Tm) (J1:Int->Int->OS S) (rec0:Int->OS S) (v17:Int):OS S:=aa (decide ((v17:Int)<(t.kids.length:Int))) (aN (aM t.kids v17) fun x1=>ab k (jj k t.kind v17) fun r2=>ab k (kV hd k (aF x1) r2.1 r2.2 c0) fun r3=>aa (!r3) (Z false) (rec0 (ay .i64 (v17+1)))) (aa (t.kind==15) (J1 0 1) (J1 0 0))
def jL (hd:cF S) (k:Nat) (Z:Bool->OS S) (c0:Int) (t:Tm):Nat->Int->OS S
 |0=>fun _=> .none
 |m+1=>fun v17=>kB hd k Z c0 t (fun v42 more9=>fA hd k Z c0 t k v42 more9) (jL hd k Z c0 t m) v17
def sM (hd:cF S) (k:Nat) (Z:Bool->OS S) (J0:Int->OS S) (t:Tm) (c0:Int):OS S:=J0 0
def pT (hd:cF S) (k:Nat) (t:Tm) (c0:Int) (Z:Bool->OS S):OS S:=sM hd k Z (fun v17=>jL hd k Z c0 t k v17) t c0
def yW (hd:cF S) (k:Nat) (Z:Bool->OS S) (t:Tm) (left:Int):OS S:=aa (decide ((left:Int)>0)) (ab k (pT hd k (aF t) left) fun r1=>Z r1) (Z false)
def fg:Nat->Tm->Int->(Bool->OS S)->OS S
 |0=>fun _ _ _=> .none
 |k+1=>fun t left Z=>yW (fg k) k Z t left
abbrev cM (S:Type):=Tm->Int->(Bool×Int->OS S)->OS S
def jk (hd:cM S) (k:Nat) (t:Tm) (c0:Int) (Z:Bool×Int->OS S):OS S:=aa (decide ((ay .i64 (c0-1):Int)>=0)) (hd (aF t) (ay .i64 (c0-1)) fun r1=>Z (r1.1,r1.2)) (Z (false,ay .i64 (c0-1)))
def kX (hd:cM S) (k:Nat) (a_k:Tm) (p p' c1:Int) (Z:Bool×Int->OS S):OS S:=ab k (jk hd k (aF a_k) c1) fun r1=>Z (r1.1,r1.2)
def mC (hd:cM S) (k:Nat) (Z:Bool×Int->OS S) (t:Tm) (v42:Int) (x4:(Br Tm)) (more9:Int) (rec1:Int->Int->Int->OS S) (rec2:Int->Int->OS S) (e1_0'' v49:Int):OS S:=aa (decide ((v49:Int)<(x4.kids.length:Int))) (aN (aM x4.kids v49) fun x5=>ab k (kX hd k (aF x5) 0 more9 e1_0'') fun r6=>aa (!r6.1) (Z (false,r6.2)) (rec2 r6.2 (ay .i64 (v49+1)))) (rec1 e1_0'' (ay .i64 (v42+1)) more9)
def fU (hd:cM S) (k:Nat) (Z:Bool×Int->OS S) (rec1:Int->Int->Int->OS S) (t:Tm) (v42:Int) (x4:(Br Tm)) (more9:Int):Nat->Int->Int->OS S
 |0=>fun _ _=> .none
 |m+1=>fun e1_0'' v49=>mC hd k Z t v42 x4 more9 rec1 (fU hd k Z rec1 t v42 x4 more9 m) e1_0'' v49
def ky (hd:cM S) (k:Nat) (Z:Bool×Int->OS S) (t:Tm) (J2:Int->(Br Tm)->Int->Int->Int->OS S) (rec1:Int->Int->Int->OS S) (e1_0' v42 more9:Int):OS S:=aa (decide ((v42:Int)<(t.sys.length:Int))) (aN (aM t.sys v42) fun x4=>J2 v42 x4 more9 e1_0' 0) (Z (true,e1_0'))
def eR (hd:cM S) (k:Nat) (Z:Bool×Int->OS S) (t:Tm):Nat->Int->Int->Int->OS S
 |0=>fun _ _ _=> .none
 |m+1=>fun e1_0' v42 more9=>ky hd k Z t (fun v42 x4 more9 e1_0'' v49=>fU hd k Z (eR hd k Z t m) t v42 x4 more9 k e1_0'' v49) (eR hd k Z t m) e1_0' v42 more9
def kx (hd:cM S) (k:Nat) (Z:Bool×Int->OS S) (t:Tm) (J1:Int->Int->Int->OS S) (rec0:Int->Int->OS S) (c_ v17:Int):OS S:=aa (decide ((v17:Int)<(t.kids.length:Int))) (aN (aM t.kids v17) fun x1=>ab k (jj k t.kind v17) fun r2=>ab k (kX hd k (aF x1) r2.1 r2.2 c_) fun r3=>aa (!r3.1) (Z (false,r3.2)) (rec0 r3.2 (ay .i64 (v17+1)))) (aa (t.kind==15) (J1 c_ 0 1) (J1 c_ 0 0))
def iq (hd:cM S) (k:Nat) (Z:Bool×Int->OS S) (t:Tm):Nat->Int->Int->OS S
 |0=>fun _ _=> .none
 |m+1=>fun c_ v17=>kx hd k Z t (fun e1_0' v42 more9=>eR hd k Z t k e1_0' v42 more9) (iq hd k Z t m) c_ v17
def sK (hd:cM S) (k:Nat) (Z:Bool×Int->OS S) (J0:Int->Int->OS S) (t:Tm) (c1:Int):OS S:=J0 c1 0
def dM:Nat->Tm->Int->(Bool×Int->OS S)->OS S
 |0=>fun _ _ _=> .none
 |k+1=>fun t c1 Z=>sK (dM k) k Z (fun c_ v17=>iq (dM k) k Z t k c_ v17) t c1
def nh (k:Nat) (t:Tm) (most:Int) (Z:Bool->OS S):OS S:=ab k (jk (dM k) k (aF t) most) fun r1=>Z r1.1
def kW (k:Nat) (t:Tm) (Z:Int->OS S):OS S:=fg k (aF t) 200 fun r1=>aa (!r1) (Z 62) (ab k (nh k (aF t) 20000) fun r2=>aa (!r2) (Z 221) (Z 0))
def nd (k:Nat) (kind:Int) (Z:Int->OS S):OS S:=aa (kind==1) (Z 0) (aa (kind==2) (Z 0) (aa (kind==3) (Z 0) (aa (kind==19) (Z 0) (aa (kind==20) (Z 0) (aa (kind==24) (Z 0) (aa (kind==25) (Z 0) (aa (kind==21) (Z 0) (aa (kind==5) (Z 1) (aa (kind==9) (Z 1) (aa (kind==10) (Z 1) (aa (kind==23) (Z 1) (aa (kind==12) (Z 1) (aa (kind==16) (Z 1) (aa (kind==17) (Z 1) (aa (kind==18) (Z 1) (aa (kind==26) (Z 1) (aa (kind==4) (Z 2) (aa (kind==7) (Z 2) (aa (kind==6) (Z 2) (aa (kind==8) (Z 2) (aa (kind==14) (Z 2) (aa (kind==15) (Z 2) (aa (kind==28) (Z 2) (aa (kind==11) (Z 3) (aa (kind==13) (Z 3) (aa (kind==22) (Z 4) (aa (kind==27) (Z 5) (Z (-1)))))))))))))))))))))))))))))
def gq (k:Nat) (kind:Int) (Z:Int->OS S):OS S:=aa (kind==15) (Z 1) (aa (kind==17) (Z 1) (aa (kind==18) (Z 1) (aa (kind==16) (Z 2) (Z 0))))
def po (k:Nat) (Z:Bool->OS S) (s:BA) (v8:Int) (x1:UInt8) (rec0:Int->OS S) (letter5:Bool):OS S:=aa (!letter5) (aa (v8==0) (Z false) (aa (decide (((x1.toNat:Int):Int)<48)) (Z false) (aa (decide (((x1.toNat:Int):Int)>57)) (Z false) (rec0 (ay .i64 (v8+1)))))) (rec0 (ay .i64 (v8+1)))
def nQ (k:Nat) (Z:Bool->OS S) (rec0:Int->OS S) (s:BA) (v8:Int) (x1:UInt8):Nat->Bool->OS S
 |0=>fun _=> .none
 |_+1=>fun letter5=>po k Z s v8 x1 rec0 letter5
def kE (k:Nat) (Z:Bool->OS S) (s:BA) (J1:Int->UInt8->Bool->OS S) (rec0:Int->OS S) (v8:Int):OS S:=aa (decide ((v8:Int)<(s.size:Int))) (aN (aM s.data.toList v8) fun x1=>aa (decide (((x1.toNat:Int):Int)>=97)) (aa (decide (((x1.toNat:Int):Int)<=122)) (J1 v8 x1 true) (aa (decide (((x1.toNat:Int):Int)>=65)) (aa (decide (((x1.toNat:Int):Int)<=90)) (J1 v8 x1 true) (J1 v8 x1 ((x1.toNat:Int)==95))) (J1 v8 x1 ((x1.toNat:Int)==95)))) (aa (decide (((x1.toNat:Int):Int)>=65)) (aa (decide (((x1.toNat:Int):Int)<=90)) (J1 v8 x1 true) (J1 v8 x1 ((x1.toNat:Int)==95))) (J1 v8 x1 ((x1.toNat:Int)==95)))) (Z (!(s==aY)))
def iv (k:Nat) (Z:Bool->OS S) (s:BA):Nat->Int->OS S
 |0=>fun _=> .none
 |m+1=>fun v8=>kE k Z s (fun v8 x1 letter5=>nQ k Z (iv k Z s m) s v8 x1 k letter5) (iv k Z s m) v8
def sN (k:Nat) (Z:Bool->OS S) (J0:Int->OS S) (s:BA):OS S:=J0 0
def ng (k:Nat) (s:BA) (Z:Bool->OS S):OS S:=sN k Z (fun v8=>iv k Z s k v8) s
def jg (k:Nat) (s:Int) (Z:Bool->OS S):OS S:=Z ((bJ .andNot .u32 s 16777215)==0)
def mS (k:Nat) (c:Cl) (Z:Bool->OS S):OS S:=ab k (jg k c.pos) fun r1=>aa (r1) (ab k (jg k c.neg) fun r2=>Z r2) (Z false)
def mR (k:Nat) (a b:Cl) (Z:Cl->OS S):OS S:=Z (Cl.mk (bJ .or .u32 a.pos b.pos) (bJ .or .u32 a.neg b.neg))
def kJ (k:Nat) (a b:Cl) (Z:Bool->OS S):OS S:=ab k (mR k a b) fun r1=>Z ((r1.pos==a.pos)&&((r1.neg==a.neg)&&true))
def mQ (k:Nat) (d c0:Cl) (Z:Bool->OS S):OS S:=aa (!((c0.pos==d.pos)&&((c0.neg==d.neg)&&true))) (ab k (kJ k c0 d) fun r1=>Z r1) (Z false)
def my (k:Nat) (Z:Int->OS S) (c0:Cl) (s:LC) (rec0:Int->OS S) (v8:Int):OS S:=aa (decide ((v8:Int)<(s.length:Int))) (aN (aM s v8) fun x1=>ab k (mQ k x1 c0) fun r2=>aa (r2) (Z v8) (rec0 (ay .i64 (v8+1)))) (Z (-1))
def jG (k:Nat) (Z:Int->OS S) (c0:Cl) (s:LC):Nat->Int->OS S
 |0=>fun _=> .none
 |m+1=>fun v8=>my k Z c0 s (jG k Z c0 s m) v8
def sz (k:Nat) (Z:Int->OS S) (J0:Int->OS S) (s:LC) (c0:Cl):OS S:=J0 0
def pM (k:Nat) (s:LC) (c0:Cl) (Z:Int->OS S):OS S:=sz k Z (fun v8=>jG k Z c0 s k v8) s c0
def pI (k:Nat) (s:LC) (c0:Cl) (Z:Bool->OS S):OS S:=ab k (pM k s c0) fun r1=>Z (decide ((r1:Int)>=0))
def mP (k:Nat) (c:Cl) (c0:LC) (Z:Bool->OS S):OS S:=ab k (pI k c0 c) fun r1=>Z r1
def mh (k:Nat) (Z:LC×Int->OS S) (b5_0:LC) (rec1:Int->(LC)->OS S) (v36:Int) (kept9:LC):OS S:=aa (decide ((v36:Int)<(b5_0.length:Int))) (aN (aM b5_0 v36) fun x4=>ab k (mP k x4 b5_0) fun r5=>aa (!r5) (aN (cx 1099511627776 kept9.length [x4].length) fun x6=>rec1 (ay .i64 (v36+1)) (kept9++[x4])) (rec1 (ay .i64 (v36+1)) kept9)) (aa (decide (((kept9.length:Int):Int)>64)) (Z (([]:LC),3)) (Z (sortCl kept9,0)))
def ie (k:Nat) (Z:LC×Int->OS S) (b5_0:LC):Nat->Int->(LC)->OS S
 |0=>fun _ _=> .none
 |m+1=>fun v36 kept9=>mh k Z b5_0 (ie k Z b5_0 m) v36 kept9
def kg (k:Nat) (Z:LC×Int->OS S) (l:LC) (J1:(LC)->Int->(LC)->OS S) (rec0:(List (Cl×Bool))->(LC)->Int->OS S) (cY:List (Cl×Bool)) (b5_0:LC) (v15:Int):OS S:=aa (decide ((v15:Int)<(l.length:Int))) (aN (aM l v15) fun x1=>ab k (mS k x1) fun r2=>aa (!r2) (Z (([]:LC),2)) (aa (!((cW VV ET.C cY x1).getD false)) (aN (cx 1099511627776 b5_0.length [x1].length) fun x3=>rec0 (dV VV ET.C cY x1 true) (b5_0++[x1]) (ay .i64 (v15+1))) (rec0 cY b5_0 (ay .i64 (v15+1))))) (J1 b5_0 0 ([]:LC))
def jx (k:Nat) (Z:LC×Int->OS S) (l:LC):Nat->(List (Cl×Bool))->(LC)->Int->OS S
 |0=>fun _ _ _=> .none
 |m+1=>fun cY b5_0 v15=>kg k Z l (fun b5_0 v36 kept9=>ie k Z b5_0 k v36 kept9) (jx k Z l m) cY b5_0 v15
def sb (k:Nat) (Z:LC×Int->OS S) (J0:(List (Cl×Bool))->(LC)->Int->OS S) (l:LC):OS S:=J0 ([]:List (Cl×Bool)) ([]:LC) 0
def mO (k:Nat) (l:LC) (Z:LC×Int->OS S):OS S:=sb k Z (fun cY b5_0 v15=>jx k Z l k cY b5_0 v15) l
def mw (k:Nat) (Z:Bool->OS S) (s1 s2:LC) (rec0:Int->OS S) (v13:Int):OS S:=aa (decide ((v13:Int)<(s1.length:Int))) (aN (aM s1 v13) fun x1=>aN (aM s2 v13) fun x2=>aa (!((x1.pos==x2.pos)&&((x1.neg==x2.neg)&&true))) (Z false) (rec0 (ay .i64 (v13+1)))) (Z true)
def jF (k:Nat) (Z:Bool->OS S) (s1 s2:LC):Nat->Int->OS S
 |0=>fun _=> .none
 |m+1=>fun v13=>mw k Z s1 s2 (jF k Z s1 s2 m) v13
def sy (k:Nat) (Z:Bool->OS S) (J0:Int->OS S) (s1 s2:LC):OS S:=aa (!((s1.length:Int)==(s2.length:Int))) (Z false) (J0 0)
def na (k:Nat) (s1 s2:LC) (Z:Bool->OS S):OS S:=sy k Z (fun v13=>jF k Z s1 s2 k v13) s1 s2
def hJ (k:Nat) (f:LC) (Z:Bool->OS S):OS S:=ab k (mO k f) fun r1=>aa (r1.2==0) (ab k (na k r1.1 f) fun r2=>Z r2) (Z false)
def kP (k:Nat) (i:Int) (Z:Bool->OS S):OS S:=aa (decide ((i:Int)>=0)) (Z (decide ((i:Int)<24))) (Z false)
def kO (k:Nat) (s i:Int) (Z:Int->OS S):OS S:=ab k (kP k i) fun r1=>aa (!r1) (Z (bJ .and .u32 s 16777215)) (aN (cm (0<=(ay .u64 i))) fun x2=>Z (bJ .andNot .u32 (bJ .and .u32 s 16777215) (ay .u32 (1*2^min (Int.toNat (ay .u64 i)) 32))))
def mj (k:Nat) (Z:Int->OS S) (f:LC) (rec0:Int->Int->OS S) (s3 v8:Int):OS S:=aa (decide ((v8:Int)<(f.length:Int))) (aN (aM f v8) fun x1=>rec0 (bJ .or .u32 s3 (bJ .or .u32 x1.pos x1.neg)) (ay .i64 (v8+1))) (ab k (kO k s3 (-1)) fun r2=>Z r2)
def jz (k:Nat) (Z:Int->OS S) (f:LC):Nat->Int->Int->OS S
 |0=>fun _ _=> .none
 |m+1=>fun s3 v8=>mj k Z f (jz k Z f m) s3 v8
def sf (k:Nat) (Z:Int->OS S) (J0:Int->Int->OS S) (f:LC):OS S:=J0 0 0
def mV (k:Nat) (f:LC) (Z:Int->OS S):OS S:=sf k Z (fun s3 v8=>jz k Z f k s3 v8) f
def gr (k:Nat) (f:LC) (dims:Int) (Z:Bool->OS S):OS S:=aa (decide ((dims:Int)>=24)) (Z true) (ab k (mV k f) fun r1=>aN (cm (0<=(ay .u64 dims))) fun x2=>Z ((Int.fdiv r1 (2^min (Int.toNat (ay .u64 dims)) 32))==0))
def mN (k:Nat) (c:Cl) (Z:Bool->OS S):OS S:=Z (!((bJ .and .u32 c.pos c.neg)==0))
def mz (k:Nat) (Z:Int->OS S) (s:LC) (rec0:Int->OS S) (v8:Int):OS S:=aa (decide ((v8:Int)<(s.length:Int))) (aN (aM s v8) fun x1=>ab k (mN k x1) fun r2=>aa (r2) (Z v8) (rec0 (ay .i64 (v8+1)))) (Z (-1))
def jH (k:Nat) (Z:Int->OS S) (s:LC):Nat->Int->OS S
 |0=>fun _=> .none
 |m+1=>fun v8=>mz k Z s (jH k Z s m) v8
def sA (k:Nat) (Z:Int->OS S) (J0:Int->OS S) (s:LC):OS S:=J0 0
def pN (k:Nat) (s:LC) (Z:Int->OS S):OS S:=sA k Z (fun v8=>jH k Z s k v8) s
def pJ (k:Nat) (s:LC) (Z:Bool->OS S):OS S:=ab k (pN k s) fun r1=>Z (decide ((r1:Int)>=0))
def jd (k:Nat) (f:LC) (Z:Bool->OS S):OS S:=ab k (hJ k f) fun r1=>aa (r1) (ab k (pJ k f) fun r2=>Z (!r2)) (Z false)
def mF (k:Nat) (Z:Bool->OS S) (t:Tm) (dims:Int) (rec1:Int->OS S) (v109:Int):OS S:=aa (decide ((v109:Int)<(t.sys.length:Int))) (aN (aM t.sys v109) fun x12=>ab k (gq k t.kind) fun r13=>aa (!((x12.kids.length:Int)==r13)) (Z false) (ab k (jd k x12.face) fun r14=>aa (!r14) (Z false) (ab k (gr k x12.face dims) fun r15=>aa (!r15) (Z false) (rec1 (ay .i64 (v109+1)))))) (Z ((t.r.length:Int)==0))
def fV (k:Nat) (Z:Bool->OS S) (t:Tm) (dims:Int):Nat->Int->OS S
 |0=>fun _=> .none
 |m+1=>fun v109=>mF k Z t dims (fV k Z t dims m) v109
def kG (k:Nat) (Z:Bool->OS S) (t:Tm) (vars dims:Int) (J1:Int->OS S):OS S:=aa (t.kind==1) (aa ((t.r.length:Int)==0) (aa (decide ((t.n:Int)>=0)) (aa (decide ((vars:Int)<0)) (Z true) (Z (decide ((t.n:Int)<vars)))) (Z false)) (Z false)) (aa (t.kind==2) (aa ((t.r.length:Int)==0) (ab k (ng k t.name) fun r3=>Z r3) (Z false)) (aa (t.kind==13) (ab k (hJ k t.r) fun r4=>aa (r4) (ab k (gr k t.r dims) fun r5=>Z r5) (Z false)) (aa (t.kind==21) (ab k (hJ k t.r) fun r6=>aa (r6) (ab k (gr k t.r dims) fun r7=>Z r7) (Z false)) (aa (t.kind==26) (ab k (hJ k t.r) fun r8=>aa (r8) (ab k (gr k t.r dims) fun r9=>Z r9) (Z false)) (aa (t.kind==14) (ab k (jd k t.r) fun r10=>aa (r10) (ab k (gr k t.r dims) fun r11=>Z r11) (Z false)) (J1 0))))))
def nR (k:Nat) (Z:Bool->OS S) (t:Tm) (vars dims:Int):Nat->OS S
 |0=> .none
 |_+1=>kG k Z t vars dims (fun v109=>fV k Z t dims k v109)
def sO (k:Nat) (Z:Bool->OS S) (J0:OS S) (t:Tm) (vars dims:Int):OS S:=ab k (nd k t.kind) fun r1=>aa (!(r1==(t.kids.length:Int))) (Z false) (aa (!(t.kind==1)) (aa (!(t.n==0)) (Z false) (aa (!(t.kind==2)) (aa (!(t.name==aY)) (Z false) (ab k (gq k t.kind) fun r2=>aa (r2==0) (aa (decide (((t.sys.length:Int):Int)>0)) (Z false) (J0)) (J0))) (ab k (gq k t.kind) fun r16=>aa (r16==0) (aa (decide (((t.sys.length:Int):Int)>0)) (Z false) (J0)) (J0)))) (aa (!(t.kind==2)) (aa (!(t.name==aY)) (Z false) (ab k (gq k t.kind) fun r17=>aa (r17==0) (aa (decide (((t.sys.length:Int):Int)>0)) (Z false) (J0)) (J0))) (ab k (gq k t.kind) fun r18=>aa (r18==0) (aa (decide (((t.sys.length:Int):Int)>0)) (Z false) (J0)) (J0))))
def kU (k:Nat) (t:Tm) (vars dims:Int) (Z:Bool->OS S):OS S:=sO k Z (nR k Z t vars dims k) t vars dims
abbrev cE (S:Type):=Tm->Int->Int->Bool->(Bool->OS S)->OS S
def kS (hd:cE S) (k:Nat) (a_k:Tm) (v d c0 c1:Int) (c2:Bool) (Z:Bool->OS S):OS S:=aa (decide ((c0:Int)<0)) (hd (aF a_k) (ay .i64 (c0+0)) (ay .i64 (c1+d)) c2 fun r1=>Z r1) (hd (aF a_k) (ay .i64 (c0+v)) (ay .i64 (c1+d)) c2 fun r2=>Z r2)
def mD (hd:cE S) (k:Nat) (Z:Bool->OS S) (c0 c1:Int) (c2:Bool) (t:Tm) (v42:Int) (x4:(Br Tm)) (more9:Int) (rec1:Int->Int->OS S) (rec2:Int->OS S) (v49:Int):OS S:=aa (decide ((v49:Int)<(x4.kids.length:Int))) (aN (aM x4.kids v49) fun x5=>ab k (kS hd k (aF x5) 0 more9 c0 c1 c2) fun r6=>aa (!r6) (Z false) (rec2 (ay .i64 (v49+1)))) (rec1 (ay .i64 (v42+1)) more9)
def gE (hd:cE S) (k:Nat) (Z:Bool->OS S) (rec1:Int->Int->OS S) (c0 c1:Int) (c2:Bool) (t:Tm) (v42:Int) (x4:(Br Tm)) (more9:Int):Nat->Int->OS S
 |0=>fun _=> .none
 |m+1=>fun v49=>mD hd k Z c0 c1 c2 t v42 x4 more9 rec1 (gE hd k Z rec1 c0 c1 c2 t v42 x4 more9 m) v49
def kA (hd:cE S) (k:Nat) (Z:Bool->OS S) (c0 c1:Int) (c2:Bool) (t:Tm) (J2:Int->(Br Tm)->Int->Int->OS S) (rec1:Int->Int->OS S) (v42 more9:Int):OS S:=aa (decide ((v42:Int)<(t.sys.length:Int))) (aN (aM t.sys v42) fun x4=>J2 v42 x4 more9 0) (Z true)
def eS (hd:cE S) (k:Nat) (Z:Bool->OS S) (c0 c1:Int) (c2:Bool) (t:Tm):Nat->Int->Int->OS S
 |0=>fun _ _=> .none
 |m+1=>fun v42 more9=>kA hd k Z c0 c1 c2 t (fun v42 x4 more9 v49=>gE hd k Z (eS hd k Z c0 c1 c2 t m) c0 c1 c2 t v42 x4 more9 k v49) (eS hd k Z c0 c1 c2 t m) v42 more9
def kz (hd:cE S) (k:Nat) (Z:Bool->OS S) (c0 c1:Int) (c2:Bool) (t:Tm) (J1:Int->Int->OS S) (rec0:Int->OS S) (v17:Int):OS S:=aa (decide ((v17:Int)<(t.kids.length:Int))) (aN (aM t.kids v17) fun x1=>ab k (jj k t.kind v17) fun r2=>ab k (kS hd k (aF x1) r2.1 r2.2 c0 c1 c2) fun r3=>aa (!r3) (Z false) (rec0 (ay .i64 (v17+1)))) (aa (t.kind==15) (J1 0 1) (J1 0 0))
def ir (hd:cE S) (k:Nat) (Z:Bool->OS S) (c0 c1:Int) (c2:Bool) (t:Tm):Nat->Int->OS S
 |0=>fun _=> .none
 |m+1=>fun v17=>kz hd k Z c0 c1 c2 t (fun v42 more9=>eS hd k Z c0 c1 c2 t k v42 more9) (ir hd k Z c0 c1 c2 t m) v17
def sL (hd:cE S) (k:Nat) (Z:Bool->OS S) (J0:Int->OS S) (t:Tm) (c0 c1:Int) (c2:Bool):OS S:=J0 0
def nf (hd:cE S) (k:Nat) (t:Tm) (c0 c1:Int) (c2:Bool) (Z:Bool->OS S):OS S:=sL hd k Z (fun v17=>ir hd k Z c0 c1 c2 t k v17) t c0 c1 c2
def yV (hd:cE S) (k:Nat) (Z:Bool->OS S) (t:Tm) (vars dims:Int) (bound:Bool):OS S:=aa (bound) (aa (decide ((dims:Int)>24)) (Z false) (ab k (kU k (aF t) vars dims) fun r1=>aa (!r1) (Z false) (ab k (nf hd k (aF t) vars dims bound) fun r2=>Z r2))) (ab k (kU k (aF t) vars dims) fun r3=>aa (!r3) (Z false) (ab k (nf hd k (aF t) vars dims bound) fun r4=>Z r4))
def dL:Nat->Tm->Int->Int->Bool->(Bool->OS S)->OS S
 |0=>fun _ _ _ _ _=> .none
 |k+1=>fun t vars dims bound Z=>yV (dL k) k Z t vars dims bound
def h_ (k:Nat) (t:Tm) (vars dims:Int) (Z:Int->OS S):OS S:=aa (decide ((vars:Int)<0)) (Z 2) (aa (decide ((dims:Int)<0)) (Z 2) (aa (decide ((dims:Int)>24)) (Z 2) (ab k (kW k (aF t)) fun r1=>aa (!(r1==0)) (Z r1) (dL k (aF t) vars dims true fun r2=>aa (!r2) (Z 100) (Z 0)))))
def mi (k:Nat) (Z:Int->OS S) (l:List (LC)) (rec0:Int->OS S) (v7:Int):OS S:=aa (decide ((v7:Int)<(l.length:Int))) (aN (aM l v7) fun x1=>ab k (jd k x1) fun r2=>aa (!r2) (Z 2) (rec0 (ay .i64 (v7+1)))) (Z 0)
def jy (k:Nat) (Z:Int->OS S) (l:List (LC)):Nat->Int->OS S
 |0=>fun _=> .none
 |m+1=>fun v7=>mi k Z l (jy k Z l m) v7
def sc (k:Nat) (Z:Int->OS S) (J0:Int->OS S) (l:List (LC)):OS S:=J0 0
def kL (k:Nat) (l:List (LC)) (Z:Int->OS S):OS S:=sc k Z (fun v7=>jy k Z l k v7) l
def uo (k:Nat) (d c0:Cl) (Z:Bool->OS S):OS S:=ab k (kJ k c0 d) fun r1=>Z r1
def tB (k:Nat) (Z:Int->OS S) (c0:Cl) (s:LC) (rec0:Int->OS S) (v8:Int):OS S:=aa (decide ((v8:Int)<(s.length:Int))) (aN (aM s v8) fun x1=>ab k (uo k x1 c0) fun r2=>aa (r2) (Z v8) (rec0 (ay .i64 (v8+1)))) (Z (-1))
def nP (k:Nat) (Z:Int->OS S) (c0:Cl) (s:LC):Nat->Int->OS S
 |0=>fun _=> .none
 |m+1=>fun v8=>tB k Z c0 s (nP k Z c0 s m) v8
def sD (k:Nat) (Z:Int->OS S) (J0:Int->OS S) (s:LC) (c0:Cl):OS S:=J0 0
def pO (k:Nat) (s:LC) (c0:Cl) (Z:Int->OS S):OS S:=sD k Z (fun v8=>nP k Z c0 s k v8) s c0
def pK (k:Nat) (s:LC) (c0:Cl) (Z:Bool->OS S):OS S:=ab k (pO k s c0) fun r1=>Z (decide ((r1:Int)>=0))
def mU (k:Nat) (c:Cl) (f:LC) (Z:Bool->OS S):OS S:=ab k (pK k f c) fun r1=>Z r1
def mT (k:Nat) (c:Cl) (c0:LC) (Z:Bool->OS S):OS S:=ab k (mU k c c0) fun r1=>Z (!r1)
def pn (k:Nat) (Z:Int->OS S) (c0 s:LC) (rec0:Int->OS S) (v8:Int):OS S:=aa (decide ((v8:Int)<(s.length:Int))) (aN (aM s v8) fun x1=>ab k (mT k x1 c0) fun r2=>aa (r2) (Z v8) (rec0 (ay .i64 (v8+1)))) (Z (-1))
def jI (k:Nat) (Z:Int->OS S) (c0 s:LC):Nat->Int->OS S
 |0=>fun _=> .none
 |m+1=>fun v8=>pn k Z c0 s (jI k Z c0 s m) v8
def sH (k:Nat) (Z:Int->OS S) (J0:Int->OS S) (s c0:LC):OS S:=J0 0
def pS (k:Nat) (s c0:LC) (Z:Int->OS S):OS S:=sH k Z (fun v8=>jI k Z c0 s k v8) s c0
def pL (k:Nat) (s c0:LC) (Z:Bool->OS S):OS S:=ab k (pS k s c0) fun r1=>Z (decide ((r1:Int)>=0))
def kK (k:Nat) (f g:LC) (Z:Bool×Int->OS S):OS S:=ab k (kL k [f,g]) fun r1=>aa (!(r1==0)) (Z (false,r1)) (ab k (pL k f g) fun r2=>Z (!r2,0))
abbrev bp (S:Type):=Tm->(Bool->OS S)->OS S
def kr (hd:bp S) (k:Nat) (Z:Int->OS S) (s:LT) (rec0:Int->OS S) (v8:Int):OS S:=aa (decide ((v8:Int)<(s.length:Int))) (aN (aM s v8) fun x1=>hd (aF x1) fun r2=>aa (r2) (Z v8) (rec0 (ay .i64 (v8+1)))) (Z (-1))
def il (hd:bp S) (k:Nat) (Z:Int->OS S) (s:LT):Nat->Int->OS S
 |0=>fun _=> .none
 |m+1=>fun v8=>kr hd k Z s (il hd k Z s m) v8
def sE (hd:bp S) (k:Nat) (Z:Int->OS S) (J0:Int->OS S) (s:LT):OS S:=J0 0
def pP (hd:bp S) (k:Nat) (s:LT) (Z:Int->OS S):OS S:=sE hd k Z (fun v8=>il hd k Z s k v8) s
def ji (hd:bp S) (k:Nat) (s:LT) (Z:Bool->OS S):OS S:=ab k (pP hd k s) fun r1=>Z (decide ((r1:Int)>=0))
def gn (hd:bp S) (k:Nat) (b:(Br Tm)) (Z:Bool->OS S):OS S:=ab k (kK k b.face ([]:LC)) fun r1=>aa (r1.2==0) (aa (r1.1) (Z true) (ab k (ji hd k b.kids) fun r2=>Z r2)) (ab k (ji hd k b.kids) fun r3=>Z r3)
def kw (hd:bp S) (k:Nat) (Z:Int->OS S) (s:LB) (rec0:Int->OS S) (v8:Int):OS S:=aa (decide ((v8:Int)<(s.length:Int))) (aN (aM s v8) fun x1=>ab k (gn hd k x1) fun r2=>aa (r2) (Z v8) (rec0 (ay .i64 (v8+1)))) (Z (-1))
def io (hd:bp S) (k:Nat) (Z:Int->OS S) (s:LB):Nat->Int->OS S
 |0=>fun _=> .none
 |m+1=>fun v8=>kw hd k Z s (io hd k Z s m) v8
def sG (hd:bp S) (k:Nat) (Z:Int->OS S) (J0:Int->OS S) (s:LB):OS S:=J0 0
def pR (hd:bp S) (k:Nat) (s:LB) (Z:Int->OS S):OS S:=sG hd k Z (fun v8=>io hd k Z s k v8) s
def m_ (hd:bp S) (k:Nat) (s:LB) (Z:Bool->OS S):OS S:=ab k (pR hd k s) fun r1=>Z (decide ((r1:Int)>=0))
def sm (hd:bp S) (k:Nat) (Z:Bool->OS S) (t:Tm):OS S:=ab k (ji hd k t.kids) fun r1=>aa (r1) (Z true) (ab k (m_ hd k t.sys) fun r2=>Z r2)
def dA:Nat->Tm->(Bool->OS S)->OS S
 |0=>fun _ _=> .none
 |k+1=>fun t Z=>sm (dA k) k Z t
def kN (k:Nat) (d:Df) (Z:Bool->OS S):OS S:=ab k (h_ k (aF d.body) 0 0) fun r1=>aa (r1==0) (dA k (aF d.body) fun r2=>Z r2) (Z false)
def ku (k:Nat) (Z:Int->OS S) (s:List Df) (rec0:Int->OS S) (v8:Int):OS S:=aa (decide ((v8:Int)<(s.length:Int))) (aN (aM s v8) fun x1=>ab k (kN k (k_ x1)) fun r2=>aa (r2) (Z v8) (rec0 (ay .i64 (v8+1)))) (Z (-1))
def im (k:Nat) (Z:Int->OS S) (s:List Df):Nat->Int->OS S
 |0=>fun _=> .none
 |m+1=>fun v8=>ku k Z s (im k Z s m) v8
def sF (k:Nat) (Z:Int->OS S) (J0:Int->OS S) (s:List Df):OS S:=J0 0
def pQ (k:Nat) (s:List Df) (Z:Int->OS S):OS S:=sF k Z (fun v8=>im k Z s k v8) s
def m9 (k:Nat) (s:List Df) (Z:Bool->OS S):OS S:=ab k (pQ k s) fun r1=>Z (decide ((r1:Int)>=0))
def jh (k:Nat) (s i:Int) (Z:Int->OS S):OS S:=ab k (kP k i) fun r1=>aa (!r1) (Z (bJ .and .u32 s 16777215)) (aN (cm (0<=(ay .u64 i))) fun x2=>Z (bJ .or .u32 (bJ .and .u32 s 16777215) (ay .u32 (1*2^min (Int.toNat (ay .u64 i)) 32))))
def ur (k:Nat) (a_x:Int) (Z:Int->OS S):OS S:=aN (aM (ByteArray.mk #[0,1,1,2,1,2,2,3,1,2,2,3,2,3,3,4,1,2,2,3,2,3,3,4,2,3,3,4,3,4,4,5,1,2,2,3,2,3,3,4,2,3,3,4,3,4,4,5,2,3,3,4,3,4,4,5,3,4,4,5,4,5,5,6,1,2,2,3,2,3,3,4,2,3,3,4,3,4,4,5,2,3,3,4,3,4,4,5,3,4,4,5,4,5,5,6,2,3,3,4,3,4,4,5,3,4,4,5,4,5,5,6,3,4,4,5,4,5,5,6,4,5,5,6,5,6,6,7,1,2,2,3,2,3,3,4,2,3,3,4,3,4,4,5,2,3,3,4,3,4,4,5,3,4,4,5,4,5,5,6,2,3,3,4,3,4,4,5,3,4,4,5,4,5,5,6,3,4,4,5,4,5,5,6,4,5,5,6,5,6,6,7,2,3,3,4,3,4,4,5,3,4,4,5,4,5,5,6,3,4,4,5,4,5,5,6,4,5,5,6,5,6,6,7,3,4,4,5,4,5,5,6,4,5,5,6,5,6,6,7,4,5,5,6,5,6,6,7,5,6,6,7,6,7,7,8]).data.toList (Int.fdiv a_x (2^min (Int.toNat 24) 32))) fun x1=>aN (aM (ByteArray.mk #[0,1,1,2,1,2,2,3,1,2,2,3,2,3,3,4,1,2,2,3,2,3,3,4,2,3,3,4,3,4,4,5,1,2,2,3,2,3,3,4,2,3,3,4,3,4,4,5,2,3,3,4,3,4,4,5,3,4,4,5,4,5,5,6,1,2,2,3,2,3,3,4,2,3,3,4,3,4,4,5,2,3,3,4,3,4,4,5,3,4,4,5,4,5,5,6,2,3,3,4,3,4,4,5,3,4,4,5,4,5,5,6,3,4,4,5,4,5,5,6,4,5,5,6,5,6,6,7,1,2,2,3,2,3,3,4,2,3,3,4,3,4,4,5,2,3,3,4,3,4,4,5,3,4,4,5,4,5,5,6,2,3,3,4,3,4,4,5,3,4,4,5,4,5,5,6,3,4,4,5,4,5,5,6,4,5,5,6,5,6,6,7,2,3,3,4,3,4,4,5,3,4,4,5,4,5,5,6,3,4,4,5,4,5,5,6,4,5,5,6,5,6,6,7,3,4,4,5,4,5,5,6,4,5,5,6,5,6,6,7,4,5,5,6,5,6,6,7,5,6,6,7,6,7,7,8]).data.toList (bJ .and .u32 (Int.fdiv a_x (2^min (Int.toNat 16) 32)) 255)) fun x2=>aN (aM (ByteArray.mk #[0,1,1,2,1,2,2,3,1,2,2,3,2,3,3,4,1,2,2,3,2,3,3,4,2,3,3,4,3,4,4,5,1,2,2,3,2,3,3,4,2,3,3,4,3,4,4,5,2,3,3,4,3,4,4,5,3,4,4,5,4,5,5,6,1,2,2,3,2,3,3,4,2,3,3,4,3,4,4,5,2,3,3,4,3,4,4,5,3,4,4,5,4,5,5,6,2,3,3,4,3,4,4,5,3,4,4,5,4,5,5,6,3,4,4,5,4,5,5,6,4,5,5,6,5,6,6,7,1,2,2,3,2,3,3,4,2,3,3,4,3,4,4,5,2,3,3,4,3,4,4,5,3,4,4,5,4,5,5,6,2,3,3,4,3,4,4,5,3,4,4,5,4,5,5,6,3,4,4,5,4,5,5,6,4,5,5,6,5,6,6,7,2,3,3,4,3,4,4,5,3,4,4,5,4,5,5,6,3,4,4,5,4,5,5,6,4,5,5,6,5,6,6,7,3,4,4,5,4,5,5,6,4,5,5,6,5,6,6,7,4,5,5,6,5,6,6,7,5,6,6,7,6,7,7,8]).data.toList (bJ .and .u32 (Int.fdiv a_x (2^min (Int.toNat 8) 32)) 255)) fun x3=>aN (aM (ByteArray.mk #[0,1,1,2,1,2,2,3,1,2,2,3,2,3,3,4,1,2,2,3,2,3,3,4,2,3,3,4,3,4,4,5,1,2,2,3,2,3,3,4,2,3,3,4,3,4,4,5,2,3,3,4,3,4,4,5,3,4,4,5,4,5,5,6,1,2,2,3,2,3,3,4,2,3,3,4,3,4,4,5,2,3,3,4,3,4,4,5,3,4,4,5,4,5,5,6,2,3,3,4,3,4,4,5,3,4,4,5,4,5,5,6,3,4,4,5,4,5,5,6,4,5,5,6,5,6,6,7,1,2,2,3,2,3,3,4,2,3,3,4,3,4,4,5,2,3,3,4,3,4,4,5,3,4,4,5,4,5,5,6,2,3,3,4,3,4,4,5,3,4,4,5,4,5,5,6,3,4,4,5,4,5,5,6,4,5,5,6,5,6,6,7,2,3,3,4,3,4,4,5,3,4,4,5,4,5,5,6,3,4,4,5,4,5,5,6,4,5,5,6,5,6,6,7,3,4,4,5,4,5,5,6,4,5,5,6,5,6,6,7,4,5,5,6,5,6,6,7,5,6,6,7,6,7,7,8]).data.toList (bJ .and .u32 a_x 255)) fun x4=>Z (ay .i64 (ay .u8 ((ay .u8 ((ay .u8 ((x1.toNat:Int)+(x2.toNat:Int)))+(x3.toNat:Int)))+(x4.toNat:Int))))
def jf (k:Nat) (s:Int) (Z:Int->OS S):OS S:=ab k (ur k (bJ .and .u32 s 16777215)) fun r1=>Z r1
def kM (k:Nat) (i:Int) (Z:LC×Int->OS S):OS S:=ab k (jh k 0 i) fun r1=>ab k (jf k r1) fun r2=>aa (r2==0) (Z (([]:LC),2)) (ab k (jh k 0 i) fun r3=>Z ([(Cl.mk r3 0)],0))
def mo (k:Nat) (Z:Int×Int×BA×LC×LT×LB×Int×Int×Int×List Df×Int×Int×Bool×LT×List (LC)->OS S) (vars dims fuel:Int) (defs:List Df) (b26_0:LT) (rec1:(List (LC))->Int->OS S) (b26_1:List (LC)) (v57:Int):OS S:=aa (decide ((v57:Int)<dims)) (ab k (kM k v57) fun r2=>aN (cx 1099511627776 b26_1.length [r2.1].length) fun x3=>rec1 (b26_1++[r2.1]) (ay .i64 (v57+1))) (Z (0,0,aY,[],[],[],fuel,0,0,defs,vars,dims,false,b26_0,b26_1))
def ij (k:Nat) (Z:Int×Int×BA×LC×LT×LB×Int×Int×Int×List Df×Int×Int×Bool×LT×List (LC)->OS S) (vars dims fuel:Int) (defs:List Df) (b26_0:LT):Nat->(List (LC))->Int->OS S
 |0=>fun _ _=> .none
 |m+1=>fun b26_1 v57=>mo k Z vars dims fuel defs b26_0 (ij k Z vars dims fuel defs b26_0 m) b26_1 v57
def kl (k:Nat) (Z:Int×Int×BA×LC×LT×LB×Int×Int×Int×List Df×Int×Int×Bool×LT×List (LC)->OS S) (vars dims fuel:Int) (defs:List Df) (J1:(LT)->(List (LC))->Int->OS S) (rec0:(LT)->Int->OS S) (b26_0:LT) (v30:Int):OS S:=aa (decide ((v30:Int)<vars)) (aN (cx 1099511627776 b26_0.length [(Tm.mk 1 v30 aY [] [] [])].length) fun x1=>rec0 (b26_0++[(Tm.mk 1 v30 aY [] [] [])]) (ay .i64 (v30+1))) (J1 b26_0 ([]:List (LC)) 0)
def jB (k:Nat) (Z:Int×Int×BA×LC×LT×LB×Int×Int×Int×List Df×Int×Int×Bool×LT×List (LC)->OS S) (vars dims fuel:Int) (defs:List Df):Nat->(LT)->Int->OS S
 |0=>fun _ _=> .none
 |m+1=>fun b26_0 v30=>kl k Z vars dims fuel defs (fun b26_0 b26_1 v57=>ij k Z vars dims fuel defs b26_0 k b26_1 v57) (jB k Z vars dims fuel defs m) b26_0 v30
def sn (k:Nat) (Z:Int×Int×BA×LC×LT×LB×Int×Int×Int×List Df×Int×Int×Bool×LT×List (LC)->OS S) (J0:(LT)->Int->OS S) (defs:List Df) (vars dims fuel:Int):OS S:=J0 ([]:LT) 0
def m8 (k:Nat) (defs:List Df) (vars dims fuel:Int) (Z:Int×Int×BA×LC×LT×LB×Int×Int×Int×List Df×Int×Int×Bool×LT×List (LC)->OS S):OS S:=sn k Z (fun b26_0 v30=>jB k Z vars dims fuel defs k b26_0 v30) defs vars dims fuel
abbrev dy (S:Type):=Tm->(Tm->OS S)->OS S
def mB (hd:dy S) (k:Nat) (Z:LT->OS S) (l:LT) (rec0:(LT)->Int->OS S) (out3:LT) (v8:Int):OS S:=aa (decide ((v8:Int)<(l.length:Int))) (aN (aM l v8) fun x1=>hd (aF x1) fun r2=>aN (cx 1099511627776 out3.length [(aF r2)].length) fun x3=>rec0 (out3++[(aF r2)]) (ay .i64 (v8+1))) (Z out3)
def jK (hd:dy S) (k:Nat) (Z:LT->OS S) (l:LT):Nat->(LT)->Int->OS S
 |0=>fun _ _=> .none
 |m+1=>fun out3 v8=>mB hd k Z l (jK hd k Z l m) out3 v8
def sJ (hd:dy S) (k:Nat) (Z:LT->OS S) (J0:(LT)->Int->OS S) (l:LT):OS S:=J0 ([]:LT) 0
def kT (hd:dy S) (k:Nat) (l:LT) (Z:LT->OS S):OS S:=sJ hd k Z (fun out3 v8=>jK hd k Z l k out3 v8) l
def mA (hd:dy S) (k:Nat) (Z:Tm->OS S) (t:Tm) (r1:LC) (r2:LT) (rec0:(LB)->Int->OS S) (b3_5:LB) (v22:Int):OS S:=aa (decide ((v22:Int)<(t.sys.length:Int))) (aN (aM t.sys v22) fun x3=>jP x3.face fun r4=>ab k (kT hd k x3.kids) fun r5=>aN (cx 1099511627776 b3_5.length [(Br.mk r4 r5)].length) fun x6=>rec0 (b3_5++[(Br.mk r4 r5)]) (ay .i64 (v22+1))) (Z (Tm.mk t.kind t.n t.name r1 r2 b3_5))
def jJ (hd:dy S) (k:Nat) (Z:Tm->OS S) (t:Tm) (r1:LC) (r2:LT):Nat->(LB)->Int->OS S
 |0=>fun _ _=> .none
 |m+1=>fun b3_5 v22=>mA hd k Z t r1 r2 (jJ hd k Z t r1 r2 m) b3_5 v22
def sI (hd:dy S) (k:Nat) (Z:Tm->OS S) (J0:(LC)->(LT)->(LB)->Int->OS S) (t:Tm):OS S:=jP t.r fun r1=>ab k (kT hd k t.kids) fun r2=>J0 r1 r2 ([]:LB) 0
def dB:Nat->Tm->(Tm->OS S)->OS S
 |0=>fun _ _=> .none
 |k+1=>fun t Z=>sI (dB k) k Z (fun r1 r2 b3_5 v22=>jJ (dB k) k Z t r1 r2 k b3_5 v22) t
def pH (k:Nat) (t:Tm) (ah ai:Int) (aq:BA) (ar:LC) (au:LT) (av:LB) (aG am ao:Int) (ap:List Df) (ak al:Int) (aD:Bool) (af:LT) (ag:List (LC)) (Z:Int×Int×BA×LC×LT×LB->OS S):OS S:=Z (t.kind,t.n,t.name,t.r,t.kids,t.sys)
def hM (k:Nat) (aP a_:Int) (ba:BA) (be:LC) (a8:LT) (bg:LB) (ah ai:Int) (aq:BA) (ar:LC) (au:LT) (av:LB) (aG am ao:Int) (ap:List Df) (ak al:Int) (aD:Bool) (af:LT) (ag:List (LC)) (Z:Int×Int×BA×LC×LT×LB×Bool->OS S):OS S:=Z (aP,a_,ba,be,a8,bg,false)
def eO (k:Nat) (aP a_:Int) (ba:BA) (be:LC) (a8:LT) (bg:LB) (i:Int) (ah:LT) (ai:List (LC)) (Z:Int×Int×BA×LC×LT×LB->OS S):OS S:=aN (aM a8 i) fun x1=>Z (x1.kind,x1.n,x1.name,x1.r,x1.kids,x1.sys)
def uq (k:Nat) (ah ai:Int) (aq:BA) (ar:LC) (au:LT) (av:LB) (aG am ao:Int) (ap:List Df) (ak al:Int) (aD:Bool) (af:LT) (ag:List (LC)) (Z:Pan (Int×Int) Int->OS S):OS S:=aa (aG==0) (Z (.pan (220,aG))) (Z (.ok (ay .i64 (aG-1))))
def pG (k:Nat) (aP a_:Int) (ba:BA) (be:LC) (a8:LT) (bg:LB) (ah ai:Int) (aq:BA) (ar:LC) (au:LT) (av:LB) (aG am ao:Int) (ap:List Df) (ak al:Int) (aD:Bool) (af:LT) (ag:List (LC)) (Z:Int×Int×BA×LC×LT×LB×Bool->OS S):OS S:=aa (aP==2) (dl) (aa (aP==21) (dl) (aa (aP==26) (dl) (aa (aP==14) (dl) (aa (aP==15) (dl) (aa (aP==16) (dl) (aa (aP==17) (dl) (Z (aP,a_,ba,be,a8,bg,false))))))))
def hU (k:Nat) (aP a_:Int) (ba:BA) (be:LC) (a8:LT) (bg:LB) (ah ai:Int) (aq:BA) (ar:LC) (au:LT) (av:LB) (aG am ao:Int) (ap:List Df) (ak al:Int) (aD:Bool) (af:LT) (ag:List (LC)) (Z:Pan (Int×Int) (Int×Int×BA×LC×LT×LB×Bool×Int)->OS S):OS S:=aa (aP==1) (dl) (aa (aP==6) (ab k (eO k aP a_ ba be a8 bg 1 af ag) fun r1=>ab k (eO k aP a_ ba be a8 bg 0 af ag) fun r2=>dl) (aa (aP==9) (ab k (eO k aP a_ ba be a8 bg 0 af ag) fun r3=>dl) (aa (aP==10) (ab k (eO k aP a_ ba be a8 bg 0 af ag) fun r4=>dl) (aa (aP==13) (ab k (eO k aP a_ ba be a8 bg 0 af ag) fun r5=>ab k (eO k aP a_ ba be a8 bg 1 af ag) fun r6=>ab k (eO k aP a_ ba be a8 bg 2 af ag) fun r7=>dl) (aa (aP==22) (ab k (eO k aP a_ ba be a8 bg 3 af ag) fun r8=>dl) (aa (aP==27) (ab k (eO k aP a_ ba be a8 bg 4 af ag) fun r9=>dl) (aa (aP==28) (ab k (uq k ah ai aq ar au av aG am ao ap ak al aD af ag) fun r11=>Pan.elim r11 (fun r11=>ab k (eO k aP a_ ba be a8 bg 0 af ag) fun r13=>Z (.ok (r13.1,r13.2.1,r13.2.2.1,r13.2.2.2.1,r13.2.2.2.2.1,r13.2.2.2.2.2,true,r11))) (fun e12=>Z (.pan (e12.1,e12.2)))) (aa (aP==18) (dl) (ab k (pG k aP a_ ba be a8 bg ah ai aq ar au av aG am ao ap ak al aD af ag) fun r14=>Z (.ok (r14.1,r14.2.1,r14.2.2.1,r14.2.2.2.1,r14.2.2.2.2.1,r14.2.2.2.2.2.1,r14.2.2.2.2.2.2,aG)))))))))))
def je (k:Nat) (aP a_:Int) (ba:BA) (be:LC) (a8:LT) (bg:LB) (ah ai:Int) (aq:BA) (ar:LC) (au:LT) (av:LB) (aG am ao:Int) (ap:List Df) (ak al:Int) (aD:Bool) (af:LT) (ag:List (LC)) (Z:Tm->OS S):OS S:=Z (Tm.mk aP a_ ba be a8 bg)
def pm (k:Nat) (Z:Tm->OS S) (ah ai ak al:Int) (aD:Bool) (aq:BA) (ar:LC) (au:LT) (av:LB) (aG am ao:Int) (ap:List Df) (af:LT) (ag:List (LC)) (a_x:Tm) (rec0:OS S):OS S:=Z (aF a_x)
def nO (k:Nat) (Z:Tm->OS S) (ah ai ak al:Int) (aD:Bool) (aq:BA) (ar:LC) (au:LT) (av:LB) (aG am ao:Int) (ap:List Df) (af:LT) (ag:List (LC)) (a_x:Tm):Nat->OS S
 |0=> .none
 |m+1=>pm k Z ah ai ak al aD aq ar au av aG am ao ap af ag a_x (nO k Z ah ai ak al aD aq ar au av aG am ao ap af ag a_x m)
def sk (k:Nat) (Z:Tm->OS S) (J0:OS S) (a_x:Tm) (ah ai:Int) (aq:BA) (ar:LC) (au:LT) (av:LB) (aG am ao:Int) (ap:List Df) (ak al:Int) (aD:Bool) (af:LT) (ag:List (LC)):OS S:=J0
def hZ (k:Nat) (a_x:Tm) (ah ai:Int) (aq:BA) (ar:LC) (au:LT) (av:LB) (aG am ao:Int) (ap:List Df) (ak al:Int) (aD:Bool) (af:LT) (ag:List (LC)) (Z:Tm->OS S):OS S:=sk k Z (nO k Z ah ai ak al aD aq ar au av aG am ao ap af ag a_x k) a_x ah ai aq ar au av aG am ao ap ak al aD af ag
def pk (k:Nat) (Z:Pan (Int×Int×Bool) (Tm×Int×Bool)->OS S) (ah ai ak al:Int) (aq:BA) (ar:LC) (au:LT) (av:LB) (am ao:Int) (ap:List Df) (af:LT) (ag:List (LC)) (rec0:Bool->Int->Int->Int->BA->(LC)->(LT)->(LB)->OS S) (bN:Bool) (di cZ dm:Int) (dp:BA) (dq:LC) (dr:LT) (b3_5:LB):OS S:=aa (bN) (ab k (hM k cZ dm dp dq dr b3_5 ah ai aq ar au av di am ao ap ak al bN af ag) fun r1=>aa (r1.2.2.2.2.2.2) (rec0 bN di r1.1 r1.2.1 r1.2.2.1 r1.2.2.2.1 r1.2.2.2.2.1 r1.2.2.2.2.2.1) (aa (!(cZ==1)) (ab k (hU k cZ dm dp dq dr b3_5 ah ai aq ar au av di am ao ap ak al false af ag) fun r3=>Pan.elim r3 (fun r3=>aa (r3.2.2.2.2.2.2.1) (rec0 false r3.2.2.2.2.2.2.2 r3.1 r3.2.1 r3.2.2.1 r3.2.2.2.1 r3.2.2.2.2.1 r3.2.2.2.2.2.1) (ab k (hM k r3.1 r3.2.1 r3.2.2.1 r3.2.2.2.1 r3.2.2.2.2.1 r3.2.2.2.2.2.1 ah ai aq ar au av r3.2.2.2.2.2.2.2 am ao ap ak al false af ag) fun r5=>aa (!r5.2.2.2.2.2.2) (ab k (je k r5.1 r5.2.1 r5.2.2.1 r5.2.2.2.1 r5.2.2.2.2.1 r5.2.2.2.2.2.1 ah ai aq ar au av r3.2.2.2.2.2.2.2 am ao ap ak al false af ag) fun r6=>ab k (hZ k (aF r6) ah ai aq ar au av r3.2.2.2.2.2.2.2 am ao ap ak al false af ag) fun r7=>Z (.ok ((aF r7),r3.2.2.2.2.2.2.2,false))) (rec0 false r3.2.2.2.2.2.2.2 r5.1 r5.2.1 r5.2.2.1 r5.2.2.2.1 r5.2.2.2.2.1 r5.2.2.2.2.2.1))) (fun e4=>Z (.pan (e4.1,e4.2,false)))) (ab k (hU k cZ dm dp dq dr b3_5 ah ai aq ar au av di am ao ap ak al bN af ag) fun r9=>Pan.elim r9 (fun r9=>aa (r9.2.2.2.2.2.2.1) (rec0 bN r9.2.2.2.2.2.2.2 r9.1 r9.2.1 r9.2.2.1 r9.2.2.2.1 r9.2.2.2.2.1 r9.2.2.2.2.2.1) (ab k (hM k r9.1 r9.2.1 r9.2.2.1 r9.2.2.2.1 r9.2.2.2.2.1 r9.2.2.2.2.2.1 ah ai aq ar au av r9.2.2.2.2.2.2.2 am ao ap ak al bN af ag) fun r11=>aa (!r11.2.2.2.2.2.2) (ab k (je k r11.1 r11.2.1 r11.2.2.1 r11.2.2.2.1 r11.2.2.2.2.1 r11.2.2.2.2.2.1 ah ai aq ar au av r9.2.2.2.2.2.2.2 am ao ap ak al bN af ag) fun r12=>ab k (hZ k (aF r12) ah ai aq ar au av r9.2.2.2.2.2.2.2 am ao ap ak al bN af ag) fun r13=>Z (.ok ((aF r13),r9.2.2.2.2.2.2.2,bN))) (rec0 bN r9.2.2.2.2.2.2.2 r11.1 r11.2.1 r11.2.2.1 r11.2.2.2.1 r11.2.2.2.2.1 r11.2.2.2.2.2.1))) (fun e10=>Z (.pan (e10.1,e10.2,bN)))))) (aa (!(cZ==1)) (ab k (hU k cZ dm dp dq dr b3_5 ah ai aq ar au av di am ao ap ak al false af ag) fun r15=>Pan.elim r15 (fun r15=>aa (r15.2.2.2.2.2.2.1) (rec0 false r15.2.2.2.2.2.2.2 r15.1 r15.2.1 r15.2.2.1 r15.2.2.2.1 r15.2.2.2.2.1 r15.2.2.2.2.2.1) (ab k (hM k r15.1 r15.2.1 r15.2.2.1 r15.2.2.2.1 r15.2.2.2.2.1 r15.2.2.2.2.2.1 ah ai aq ar au av r15.2.2.2.2.2.2.2 am ao ap ak al false af ag) fun r17=>aa (!r17.2.2.2.2.2.2) (ab k (je k r17.1 r17.2.1 r17.2.2.1 r17.2.2.2.1 r17.2.2.2.2.1 r17.2.2.2.2.2.1 ah ai aq ar au av r15.2.2.2.2.2.2.2 am ao ap ak al false af ag) fun r18=>ab k (hZ k (aF r18) ah ai aq ar au av r15.2.2.2.2.2.2.2 am ao ap ak al false af ag) fun r19=>Z (.ok ((aF r19),r15.2.2.2.2.2.2.2,false))) (rec0 false r15.2.2.2.2.2.2.2 r17.1 r17.2.1 r17.2.2.1 r17.2.2.2.1 r17.2.2.2.2.1 r17.2.2.2.2.2.1))) (fun e16=>Z (.pan (e16.1,e16.2,false)))) (ab k (hU k cZ dm dp dq dr b3_5 ah ai aq ar au av di am ao ap ak al bN af ag) fun r21=>Pan.elim r21 (fun r21=>aa (r21.2.2.2.2.2.2.1) (rec0 bN r21.2.2.2.2.2.2.2 r21.1 r21.2.1 r21.2.2.1 r21.2.2.2.1 r21.2.2.2.2.1 r21.2.2.2.2.2.1) (ab k (hM k r21.1 r21.2.1 r21.2.2.1 r21.2.2.2.1 r21.2.2.2.2.1 r21.2.2.2.2.2.1 ah ai aq ar au av r21.2.2.2.2.2.2.2 am ao ap ak al bN af ag) fun r23=>aa (!r23.2.2.2.2.2.2) (ab k (je k r23.1 r23.2.1 r23.2.2.1 r23.2.2.2.1 r23.2.2.2.2.1 r23.2.2.2.2.2.1 ah ai aq ar au av r21.2.2.2.2.2.2.2 am ao ap ak al bN af ag) fun r24=>ab k (hZ k (aF r24) ah ai aq ar au av r21.2.2.2.2.2.2.2 am ao ap ak al bN af ag) fun r25=>Z (.ok ((aF r25),r21.2.2.2.2.2.2.2,bN))) (rec0 bN r21.2.2.2.2.2.2.2 r23.1 r23.2.1 r23.2.2.1 r23.2.2.2.1 r23.2.2.2.2.1 r23.2.2.2.2.2.1))) (fun e22=>Z (.pan (e22.1,e22.2,bN)))))
def ln (k:Nat) (Z:Pan (Int×Int×Bool) (Tm×Int×Bool)->OS S) (ah ai ak al:Int) (aq:BA) (ar:LC) (au:LT) (av:LB) (am ao:Int) (ap:List Df) (af:LT) (ag:List (LC)):Nat->Bool->Int->Int->Int->BA->(LC)->(LT)->(LB)->OS S
 |0=>fun _ _ _ _ _ _ _ _=> .none
 |m+1=>fun bN di cZ dm dp dq dr b3_5=>pk k Z ah ai ak al aq ar au av am ao ap af ag (ln k Z ah ai ak al aq ar au av am ao ap af ag m) bN di cZ dm dp dq dr b3_5
def si (k:Nat) (Z:Pan (Int×Int×Bool) (Tm×Int×Bool)->OS S) (J0:Bool->Int->Int->Int->BA->(LC)->(LT)->(LB)->OS S) (aP a_:Int) (ba:BA) (be:LC) (a8:LT) (bg:LB) (ah ai:Int) (aq:BA) (ar:LC) (au:LT) (av:LB) (aG am ao:Int) (ap:List Df) (ak al:Int) (aD:Bool) (af:LT) (ag:List (LC)):OS S:=J0 aD aG aP a_ ba be a8 bg
def m7 (k:Nat) (aP a_:Int) (ba:BA) (be:LC) (a8:LT) (bg:LB) (ah ai:Int) (aq:BA) (ar:LC) (au:LT) (av:LB) (aG am ao:Int) (ap:List Df) (ak al:Int) (aD:Bool) (af:LT) (ag:List (LC)) (Z:Pan (Int×Int×Bool) (Tm×Int×Bool)->OS S):OS S:=si k Z (fun bN di cZ dm dp dq dr b3_5=>ln k Z ah ai ak al aq ar au av am ao ap af ag k bN di cZ dm dp dq dr b3_5) aP a_ ba be a8 bg ah ai aq ar au av aG am ao ap ak al aD af ag
def nc (k:Nat) (t:Tm) (Z:Int->OS S):OS S:=ab k (kW k (aF t)) fun r1=>aa (!(r1==0)) (Z r1) (dL k (aF t) (-1) 24 false fun r2=>aa (!r2) (Z 100) (Z 0))
def m6 (k:Nat) (t:Tm) (ah ai:Int) (aq:BA) (ar:LC) (au:LT) (av:LB) (aG am ao:Int) (ap:List Df) (ak al:Int) (aD:Bool) (af:LT) (ag:List (LC)) (Z:Int×Int×Int×BA×LC×LT×LB×Int×Bool->OS S):OS S:=dB k (aF t) fun r1=>ab k (pH k (aF r1) ah ai aq ar au av aG am ao ap ak al aD af ag) fun r2=>ab k (m7 k r2.1 r2.2.1 r2.2.2.1 r2.2.2.2.1 r2.2.2.2.2.1 r2.2.2.2.2.2 ah ai aq ar au av aG am ao ap ak al aD af ag) fun r4=>Pan.elim r4 (fun r4=>ab k (nc k (aF r4.1)) fun r6=>Z (r6,r4.1.kind,r4.1.n,r4.1.name,r4.1.r,r4.1.kids,r4.1.sys,r4.2.1,r4.2.2)) (fun e5=>Z (e5.1,ah,ai,aq,ar,au,av,e5.2.1,e5.2.2))
def kj (k:Nat) (Z:Int×Int×BA×LC×LT×LB×Int×Int×Int×Int->OS S) (r5:Int×Int×Int×BA×LC×LT×LB×Int×Bool) (r4:Int×Int×BA×LC×LT×LB×Int×Int×Int×List Df×Int×Int×Bool×LT×List (LC)):OS S:=aa (!(r5.1==0)) (Z (0,0,aY,[],[],[],0,0,0,r5.1)) (dB k (Tm.mk r5.2.1 r5.2.2.1 r5.2.2.2.1 r5.2.2.2.2.1 r5.2.2.2.2.2.1 r5.2.2.2.2.2.2.1) fun r6=>Z (r6.kind,r6.n,r6.name,r6.r,r6.kids,r6.sys,r5.2.2.2.2.2.2.2.1,r4.2.2.2.2.2.2.2.1,r4.2.2.2.2.2.2.2.2.1,0))
def nN (k:Nat) (Z:Int×Int×BA×LC×LT×LB×Int×Int×Int×Int->OS S) (r5:Int×Int×Int×BA×LC×LT×LB×Int×Bool) (r4:Int×Int×BA×LC×LT×LB×Int×Int×Int×List Df×Int×Int×Bool×LT×List (LC)):Nat->OS S
 |0=> .none
 |_+1=>kj k Z r5 r4
def j0 (k:Nat) (Z:Int×Int×BA×LC×LT×LB×Int×Int×Int×Int->OS S) (J0:(Int×Int×Int×BA×LC×LT×LB×Int×Bool)->(Int×Int×BA×LC×LT×LB×Int×Int×Int×List Df×Int×Int×Bool×LT×List (LC))->OS S) (defs:List Df) (t:Tm) (vars dims fuel:Int):OS S:=ab k (h_ k (aF t) vars dims) fun r1=>aa (!(r1==0)) (Z (0,0,aY,[],[],[],0,0,0,r1)) (aa (decide ((fuel:Int)<0)) (Z (0,0,aY,[],[],[],0,0,0,2)) (aa (decide ((fuel:Int)>100000)) (Z (0,0,aY,[],[],[],0,0,0,2)) (ab k (m9 k defs) fun r2=>aa (r2) (Z (0,0,aY,[],[],[],0,0,0,61)) (dA k (aF t) fun r3=>aa (r3) (Z (0,0,aY,[],[],[],0,0,0,61)) (ab k (m8 k defs vars dims fuel) fun r4=>ab k (m6 k (aF t) r4.1 r4.2.1 r4.2.2.1 r4.2.2.2.1 r4.2.2.2.2.1 r4.2.2.2.2.2.1 r4.2.2.2.2.2.2.1 r4.2.2.2.2.2.2.2.1 r4.2.2.2.2.2.2.2.2.1 r4.2.2.2.2.2.2.2.2.2.1 r4.2.2.2.2.2.2.2.2.2.2.1 r4.2.2.2.2.2.2.2.2.2.2.2.1 r4.2.2.2.2.2.2.2.2.2.2.2.2.1 r4.2.2.2.2.2.2.2.2.2.2.2.2.2.1 r4.2.2.2.2.2.2.2.2.2.2.2.2.2.2) fun r5=>aa (!(r5.1==0)) (aa (!(r5.1==220)) (dl) (J0 r5 r4)) (J0 r5 r4))))))
def cH (k:Nat) (defs:List Df) (t:Tm) (vars dims fuel:Int) (Z:Int×Int×BA×LC×LT×LB×Int×Int×Int×Int->OS S):OS S:=j0 k Z (fun r5 r4=>nN k Z r5 r4 k) defs t vars dims fuel
def mq (k:Nat) (Z:Bool->OS S) (a b:LC) (rec0:Int->OS S) (i5:Int):OS S:=aa (decide ((i5:Int)<(a.length:Int))) (aN (aM a i5) fun x1=>aN (aM b i5) fun x2=>aa (!((x1.pos==x2.pos)&&((x1.neg==x2.neg)&&true))) (Z false) (rec0 (ay .i64 (i5+1)))) (Z true)
def jC (k:Nat) (Z:Bool->OS S) (a b:LC):Nat->Int->OS S
 |0=>fun _=> .none
 |m+1=>fun i5=>mq k Z a b (jC k Z a b m) i5
def sq (k:Nat) (Z:Bool->OS S) (J0:Int->OS S) (a b:LC):OS S:=aa (!((a.length:Int)==(b.length:Int))) (Z false) (J0 0)
def kQ (k:Nat) (a b:LC) (Z:Bool->OS S):OS S:=sq k Z (fun i5=>jC k Z a b k i5) a b
abbrev dx (S:Type):=Tm->Tm->(Bool->OS S)->OS S
def mu (hd:dx S) (k:Nat) (Z:Bool->OS S) (a b:LT) (rec0:Int->OS S) (i5:Int):OS S:=aa (decide ((i5:Int)<(a.length:Int))) (aN (aM a i5) fun x1=>aN (aM b i5) fun x2=>hd (aF x1) (aF x2) fun r3=>aa (!r3) (Z false) (rec0 (ay .i64 (i5+1)))) (Z true)
def jE (hd:dx S) (k:Nat) (Z:Bool->OS S) (a b:LT):Nat->Int->OS S
 |0=>fun _=> .none
 |m+1=>fun i5=>mu hd k Z a b (jE hd k Z a b m) i5
def sx (hd:dx S) (k:Nat) (Z:Bool->OS S) (J0:Int->OS S) (a b:LT):OS S:=aa (!((a.length:Int)==(b.length:Int))) (Z false) (J0 0)
def kR (hd:dx S) (k:Nat) (a b:LT) (Z:Bool->OS S):OS S:=sx hd k Z (fun i5=>jE hd k Z a b k i5) a b
def mt (hd:dx S) (k:Nat) (Z:Bool->OS S) (a b:Tm) (rec0:Int->OS S) (i5:Int):OS S:=aa (decide ((i5:Int)<(a.sys.length:Int))) (aN (aM a.sys i5) fun x3=>aN (aM b.sys i5) fun x4=>ab k (kQ k x3.face x4.face) fun r5=>aa (!r5) (Z false) (aN (aM a.sys i5) fun x6=>aN (aM b.sys i5) fun x7=>ab k (kR hd k x6.kids x7.kids) fun r8=>aa (!r8) (Z false) (rec0 (ay .i64 (i5+1))))) (Z true)
def jD (hd:dx S) (k:Nat) (Z:Bool->OS S) (a b:Tm):Nat->Int->OS S
 |0=>fun _=> .none
 |m+1=>fun i5=>mt hd k Z a b (jD hd k Z a b m) i5
def su (hd:dx S) (k:Nat) (Z:Bool->OS S) (J0:Int->OS S) (a b:Tm):OS S:=aa (!(a.kind==b.kind)) (Z false) (aa (!(a.n==b.n)) (Z false) (aa (!(a.name==b.name)) (Z false) (ab k (kQ k a.r b.r) fun r1=>aa (!r1) (Z false) (ab k (kR hd k a.kids b.kids) fun r2=>aa (!r2) (Z false) (aa (!((a.sys.length:Int)==(b.sys.length:Int))) (Z false) (J0 0))))))
def bY:Nat->Tm->Tm->(Bool->OS S)->OS S
 |0=>fun _ _ _=> .none
 |k+1=>fun a b Z=>su (bY k) k Z (fun i5=>jD (bY k) k Z a b k i5) a b
def mZ (k:Nat) (defs:List Df) (t:Tm) (vars many:Int) (Z:Bool->OS S):OS S:=rf fun r1=>aa (!r1) (Z false) (ab k (mY k (aF t)) fun r2=>aa (r2) (Z true) (ab k (mW k defs) fun r3=>aa (r3) (Z true) (aa (decide ((vars:Int)>200)) (Z true) (aa (t.kind==3) (ab k (dz k defs) fun r4=>ab k (cH k r4 (aF t) vars many 5) fun r5=>aa (!(r5.2.2.2.2.2.2.2.2.2==0)) (Z true) (bY k (Tm.mk r5.1 r5.2.1 r5.2.2.1 r5.2.2.2.1 r5.2.2.2.2.1 r5.2.2.2.2.2.1) (aF t) fun r6=>aa (r6) (aa (r5.2.2.2.2.2.2.1==5) (aa (r5.2.2.2.2.2.2.2.1==0) (aa (decide ((r5.2.2.2.2.2.2.2.2.1:Int)>=0)) (Z (decide ((r5.2.2.2.2.2.2.2.2.1:Int)<=1))) (Z false)) (Z false)) (Z false)) (Z false))) (aa (t.kind==4) (ab k (dz k defs) fun r7=>ab k (cH k r7 (aF t) vars many 5) fun r8=>aa (!(r8.2.2.2.2.2.2.2.2.2==0)) (Z true) (bY k (Tm.mk r8.1 r8.2.1 r8.2.2.1 r8.2.2.2.1 r8.2.2.2.2.1 r8.2.2.2.2.2.1) (aF t) fun r9=>aa (r9) (aa (r8.2.2.2.2.2.2.1==5) (aa (r8.2.2.2.2.2.2.2.1==0) (aa (decide ((r8.2.2.2.2.2.2.2.2.1:Int)>=0)) (Z (decide ((r8.2.2.2.2.2.2.2.2.1:Int)<=1))) (Z false)) (Z false)) (Z false)) (Z false))) (aa (t.kind==7) (ab k (dz k defs) fun r10=>ab k (cH k r10 (aF t) vars many 5) fun r11=>aa (!(r11.2.2.2.2.2.2.2.2.2==0)) (Z true) (bY k (Tm.mk r11.1 r11.2.1 r11.2.2.1 r11.2.2.2.1 r11.2.2.2.2.1 r11.2.2.2.2.2.1) (aF t) fun r12=>aa (r12) (aa (r11.2.2.2.2.2.2.1==5) (aa (r11.2.2.2.2.2.2.2.1==0) (aa (decide ((r11.2.2.2.2.2.2.2.2.1:Int)>=0)) (Z (decide ((r11.2.2.2.2.2.2.2.2.1:Int)<=1))) (Z false)) (Z false)) (Z false)) (Z false))) (aa (t.kind==5) (ab k (dz k defs) fun r13=>ab k (cH k r13 (aF t) vars many 5) fun r14=>aa (!(r14.2.2.2.2.2.2.2.2.2==0)) (Z true) (bY k (Tm.mk r14.1 r14.2.1 r14.2.2.1 r14.2.2.2.1 r14.2.2.2.2.1 r14.2.2.2.2.2.1) (aF t) fun r15=>aa (r15) (aa (r14.2.2.2.2.2.2.1==5) (aa (r14.2.2.2.2.2.2.2.1==0) (aa (decide ((r14.2.2.2.2.2.2.2.2.1:Int)>=0)) (Z (decide ((r14.2.2.2.2.2.2.2.2.1:Int)<=1))) (Z false)) (Z false)) (Z false)) (Z false))) (aa (t.kind==8) (ab k (dz k defs) fun r16=>ab k (cH k r16 (aF t) vars many 5) fun r17=>aa (!(r17.2.2.2.2.2.2.2.2.2==0)) (Z true) (bY k (Tm.mk r17.1 r17.2.1 r17.2.2.1 r17.2.2.2.1 r17.2.2.2.2.1 r17.2.2.2.2.2.1) (aF t) fun r18=>aa (r18) (aa (r17.2.2.2.2.2.2.1==5) (aa (r17.2.2.2.2.2.2.2.1==0) (aa (decide ((r17.2.2.2.2.2.2.2.2.1:Int)>=0)) (Z (decide ((r17.2.2.2.2.2.2.2.2.1:Int)<=1))) (Z false)) (Z false)) (Z false)) (Z false))) (aa (t.kind==12) (ab k (dz k defs) fun r19=>ab k (cH k r19 (aF t) vars many 5) fun r20=>aa (!(r20.2.2.2.2.2.2.2.2.2==0)) (Z true) (bY k (Tm.mk r20.1 r20.2.1 r20.2.2.1 r20.2.2.2.1 r20.2.2.2.2.1 r20.2.2.2.2.2.1) (aF t) fun r21=>aa (r21) (aa (r20.2.2.2.2.2.2.1==5) (aa (r20.2.2.2.2.2.2.2.1==0) (aa (decide ((r20.2.2.2.2.2.2.2.2.1:Int)>=0)) (Z (decide ((r20.2.2.2.2.2.2.2.2.1:Int)<=1))) (Z false)) (Z false)) (Z false)) (Z false))) (aa (t.kind==11) (ab k (dz k defs) fun r22=>ab k (cH k r22 (aF t) vars many 5) fun r23=>aa (!(r23.2.2.2.2.2.2.2.2.2==0)) (Z true) (bY k (Tm.mk r23.1 r23.2.1 r23.2.2.1 r23.2.2.2.1 r23.2.2.2.2.1 r23.2.2.2.2.2.1) (aF t) fun r24=>aa (r24) (aa (r23.2.2.2.2.2.2.1==5) (aa (r23.2.2.2.2.2.2.2.1==0) (aa (decide ((r23.2.2.2.2.2.2.2.2.1:Int)>=0)) (Z (decide ((r23.2.2.2.2.2.2.2.2.1:Int)<=1))) (Z false)) (Z false)) (Z false)) (Z false))) (aa (t.kind==19) (ab k (dz k defs) fun r25=>ab k (cH k r25 (aF t) vars many 5) fun r26=>aa (!(r26.2.2.2.2.2.2.2.2.2==0)) (Z true) (bY k (Tm.mk r26.1 r26.2.1 r26.2.2.1 r26.2.2.2.1 r26.2.2.2.2.1 r26.2.2.2.2.2.1) (aF t) fun r27=>aa (r27) (aa (r26.2.2.2.2.2.2.1==5) (aa (r26.2.2.2.2.2.2.2.1==0) (aa (decide ((r26.2.2.2.2.2.2.2.2.1:Int)>=0)) (Z (decide ((r26.2.2.2.2.2.2.2.2.1:Int)<=1))) (Z false)) (Z false)) (Z false)) (Z false))) (aa (t.kind==20) (ab k (dz k defs) fun r28=>ab k (cH k r28 (aF t) vars many 5) fun r29=>aa (!(r29.2.2.2.2.2.2.2.2.2==0)) (Z true) (bY k (Tm.mk r29.1 r29.2.1 r29.2.2.1 r29.2.2.2.1 r29.2.2.2.2.1 r29.2.2.2.2.2.1) (aF t) fun r30=>aa (r30) (aa (r29.2.2.2.2.2.2.1==5) (aa (r29.2.2.2.2.2.2.2.1==0) (aa (decide ((r29.2.2.2.2.2.2.2.2.1:Int)>=0)) (Z (decide ((r29.2.2.2.2.2.2.2.2.1:Int)<=1))) (Z false)) (Z false)) (Z false)) (Z false))) (aa (t.kind==23) (ab k (dz k defs) fun r31=>ab k (cH k r31 (aF t) vars many 5) fun r32=>aa (!(r32.2.2.2.2.2.2.2.2.2==0)) (Z true) (bY k (Tm.mk r32.1 r32.2.1 r32.2.2.1 r32.2.2.2.1 r32.2.2.2.2.1 r32.2.2.2.2.2.1) (aF t) fun r33=>aa (r33) (aa (r32.2.2.2.2.2.2.1==5) (aa (r32.2.2.2.2.2.2.2.1==0) (aa (decide ((r32.2.2.2.2.2.2.2.2.1:Int)>=0)) (Z (decide ((r32.2.2.2.2.2.2.2.2.1:Int)<=1))) (Z false)) (Z false)) (Z false)) (Z false))) (aa (t.kind==24) (ab k (dz k defs) fun r34=>ab k (cH k r34 (aF t) vars many 5) fun r35=>aa (!(r35.2.2.2.2.2.2.2.2.2==0)) (Z true) (bY k (Tm.mk r35.1 r35.2.1 r35.2.2.1 r35.2.2.2.1 r35.2.2.2.2.1 r35.2.2.2.2.2.1) (aF t) fun r36=>aa (r36) (aa (r35.2.2.2.2.2.2.1==5) (aa (r35.2.2.2.2.2.2.2.1==0) (aa (decide ((r35.2.2.2.2.2.2.2.2.1:Int)>=0)) (Z (decide ((r35.2.2.2.2.2.2.2.2.1:Int)<=1))) (Z false)) (Z false)) (Z false)) (Z false))) (aa (t.kind==25) (ab k (dz k defs) fun r37=>ab k (cH k r37 (aF t) vars many 5) fun r38=>aa (!(r38.2.2.2.2.2.2.2.2.2==0)) (Z true) (bY k (Tm.mk r38.1 r38.2.1 r38.2.2.1 r38.2.2.2.1 r38.2.2.2.2.1 r38.2.2.2.2.2.1) (aF t) fun r39=>aa (r39) (aa (r38.2.2.2.2.2.2.1==5) (aa (r38.2.2.2.2.2.2.2.1==0) (aa (decide ((r38.2.2.2.2.2.2.2.2.1:Int)>=0)) (Z (decide ((r38.2.2.2.2.2.2.2.2.1:Int)<=1))) (Z false)) (Z false)) (Z false)) (Z false))) (Z true))))))))))))))))
end
end Go.Proofs.YtlidjlacmpaefaaGreatDoor
namespace Go.Proofs.YtlidjlacmpaefaaGreatDoor
open Go PI
abbrev M24:Nat:=16777215
theorem wB {n:Nat} (h:n<24):2^n<4294967296:=eJ (Nat.pow_lt_pow_right (by decide) h) (by decide)
theorem Dd (m n:Nat):Int.fdiv (m:Int) ((2:Int)^n)=((m/2^n:Nat):Int):=by
 grind
variable {S:Type} {k:Nat}
theorem yP (hk:Fu k) (i:Int) (Z:Bool->OS S):kP k i Z=Z (decide (0<=i/\i<24)):=by
 grind [kP,eC]
theorem Ii (hk:Fu k) {m:Nat} (hm:m<4294967296) (Z:Bool->OS S):jg k (m:Int) Z=Z (decide (m<16777216)):=by
 simp only [jg]
 rw [show (16777215:Int)=((16777215:Nat):Int) from rfl,tz hm (by decide)]
 congr 1
 rw [Bool.eq_iff_iff]
 simp only [beq_iff_eq,decide_eq_true_eq]
 have key:fX m 16777215=0↔m<16777216:=by
  constructor
  ·intro h
   apply Nat.lt_pow_two_of_testBit (n:=24)
   intro i hi
   have h2:=nW m 16777215 i
   rw [h,Nat.zero_testBit] at h2
   have:(16777215:Nat).testBit i=false:=Nat.testBit_lt_two_pow (eJ (by decide:16777215<2^24) (Nat.pow_le_pow_right (by decide) hi))
   grind
  ·intro h
   apply Nat.eq_of_testBit_eq
   intro i
   rw [nW,Nat.zero_testBit]
   by_cases hi:i<24
   ·have:(16777215:Nat).testBit i=true:=by
     rw [show (16777215:Nat)=2^24-1 from rfl,Nat.testBit_two_pow_sub_one];grind
    grind
   ·have h2:(2:Nat)^24<=2^i:=Nat.pow_le_pow_right (by decide) (by omega)
    grind [Nat.testBit_lt_two_pow]
 omega
theorem Ij (hk:Fu k) {m:Nat} (hm:m<4294967296) (i:Int) (Z:Int->OS S):jh k (m:Int) i Z=Z (if 0<=i/\i<24 then (((m&&&M24)|||2^i.toNat:Nat):Int) else ((m&&&M24:Nat):Int)):=by
 simp only [jh,yP hk,aJ hk]
 have hand:bJ .and .u32 (m:Int) 16777215=((m&&&M24:Nat):Int):=pj hm (by decide:(16777215:Nat)<4294967296)
 have hlt:m&&&M24<4294967296:=mf (n:=32) hm
 rw [hand]
 by_cases h:0<=i/\i<24
 ·obtain ⟨n,rfl⟩: ∃n:Nat,i=n:=⟨i.toNat,by omega⟩
  grind [tc,ax,px,Int.toNat_natCast,l_,wB,tA]
 ·rw [decide_eq_false h,if_neg h];rfl
theorem Ik (hk:Fu k) {m:Nat} (hm:m<4294967296) (i:Int) (Z:Int->OS S):kO k (m:Int) i Z=Z (if 0<=i/\i<24 then ((fX (m&&&M24) (2^i.toNat):Nat):Int) else ((m&&&M24:Nat):Int)):=by
 simp only [kO,yP hk,aJ hk]
 have hand:bJ .and .u32 (m:Int) 16777215=((m&&&M24:Nat):Int):=pj hm (by decide:(16777215:Nat)<4294967296)
 have hlt:m&&&M24<4294967296:=mf (n:=32) hm
 rw [hand]
 by_cases h:0<=i/\i<24
 ·grind [tc,ax,px,Int.toNat_natCast,l_,wB,tz]
 ·rw [decide_eq_false h,if_neg h];rfl
def iy (m n:Nat):Nat:=(m&&&M24)&&&(2^min n 24-1)
def dQ (m n:Nat):Nat:=fX (m&&&M24) (2^min n 24-1)
def fW (m n b:Nat):Nat×Nat:=
 if dQ m n=0 then (iy m n,0) else if 24<=b then (0,10) else if dQ m n*2^b>16777215 then (0,10) else (iy m n|||(dQ m n*2^b),0)
set_option maxRecDepth 20000
variable {S:Type} {k:Nat}
def gQ (l:List Nat):Nat:=(l.map (2^ ·)).sum
theorem A3 {x a:Nat} (h:x.testBit a=false):x+2^a=x|||2^a:=by
 have h1:x=2^(a+1)*(x/2^(a+1))+x%2^(a+1):=(Nat.div_add_mod _ _).symm
 have hlt:x%2^(a+1)<2^a:=by
  have hb:(x%2^(a+1)).testBit a=false:=by grind
  grind [Nat.lt_pow_two_of_testBit,Nat.testBit_lt_two_pow]
 generalize x/2^(a+1)=q at h1
 generalize x%2^(a+1)=r at h1 hlt
 have hp:(2:Nat)^(a+1)=2^a*2:=Nat.pow_succ 2 a
 have e1:2^a+r=2^a|||r:=by
  have:=Nat.two_pow_add_eq_or_of_lt hlt 1
  grind
 have e2:x=2^(a+1)*q|||r:=by grind [Nat.two_pow_add_eq_or_of_lt]
 grind [Nat.two_pow_add_eq_or_of_lt]
theorem yI: ∀ (l:List Nat),l.Nodup-> ∀j,(gQ l).testBit j=decide (j∈l):=by
 intro l
 induction l with
 |nil=>grind [gQ]
 |cons a l ih=>
  intro hn j
  have hn':=List.nodup_cons.1 hn
  have ha:(gQ l).testBit a=false:=by grind
  have e:gQ (a::l)=gQ l|||2^a:=by
   grind [A3,gQ]
  grind
def eL (m:Nat):List Nat:=(List.range 24).filter m.testBit
theorem tH (m:Nat):(eL m).Nodup:=List.nodup_range.filter _
theorem gF {m j:Nat}:j∈eL m↔j<24/\m.testBit j=true:=by simp [eL]
theorem mH (j:Nat):M24.testBit j=decide (j<24):=by
 rw [show M24=2^24-1 from rfl,Nat.testBit_two_pow_sub_one]
def ints (l:List Nat):List Int:=l.map Int.ofNat
theorem DB {α:Type} (p r:List α) (x:α):aM (p++x::r) (p.length:Int)=some x:=by simp [aM]
theorem mI {m:Nat} (h:m<16777216) {j:Nat} (hj:m.testBit j=true):j<24:=by
 apply Classical.byContradiction
 intro hn
 have:m<2^j:=eJ h (Nat.pow_le_pow_right (n:=2) (i:=24) (j:=j) (by decide) (by omega))
 grind [Nat.testBit_lt_two_pow]
theorem vz (m:Nat):m<16777216↔ ∀j,m.testBit j=true->j<24:=by
 constructor
 ·intro h j hj;exact mI h hj
 ·intro h
  apply Nat.lt_pow_two_of_testBit (n:=24)
  grind
def e7 (n b x:Nat):Nat:=if x<n then x else x+b
theorem tG (m n j:Nat):(iy m n).testBit j=(m.testBit j&&decide (j<n/\j<24)):=by
 grind [iy,mH]
theorem tF (m n j:Nat):(dQ m n).testBit j=(m.testBit j&&decide (n<=j/\j<24)):=by
 grind [dQ,nW,mH]
theorem Fg (m n b:Nat):fW m n b=if (∃x∈eL m,n<=x/\24<=x+b) then (0,10) else (gQ ((eL m).map (e7 n b)),0):=by
 have hnd:((eL m).map (e7 n b)).Nodup:=by
  grind [e7,tH]
 have hset: ∀j,(gQ ((eL m).map (e7 n b))).testBit j=((iy m n).testBit j||(decide (b<=j)&&(dQ m n).testBit (j-b))):=by
  intro j
  rw [yI _ hnd,tG,tF,Bool.eq_iff_iff]
  simp only [decide_eq_true_eq,ck,gF,Bool.or_eq_true,aj]
  grind [e7]
 have hhigh: ∀j,(dQ m n).testBit j=true↔(j∈eL m/\n<=j):=by
  grind [tF,gF]
 unfold fW
 by_cases h0:dQ m n=0
 ·rw [if_pos h0,if_neg]
  ·congr 1
   apply Nat.eq_of_testBit_eq
   grind
  grind
 ·rw [if_neg h0]
  have hex: ∃j,(dQ m n).testBit j=true:=by
   apply Classical.byContradiction
   intro hne
   apply h0
   apply Nat.eq_of_testBit_eq
   grind
  have hmul: ∀j,(dQ m n*2^b).testBit j=(decide (b<=j)&&(dQ m n).testBit (j-b)):=by
   grind
  by_cases h24:24<=b
  ·rw [if_pos h24]
   obtain ⟨j,hj⟩:=hex
   have:=(hhigh j).1 hj
   rw [if_pos ⟨j,this.1,this.2,by omega⟩]
  ·rw [if_neg h24]
   have hlt:=vz (dQ m n*2^b)
   by_cases hg:dQ m n*2^b>16777215
   ·rw [if_pos hg,if_pos]
    grind
   ·rw [if_neg hg,if_neg]
    ·congr 1
     apply Nat.eq_of_testBit_eq
     grind
    ·rintro ⟨x,h1,h2,h3⟩
     have hx:(dQ m n*2^b).testBit (x+b)=true:=by
      simp_all
     grind
def nn (m:Nat) (i:Int):Nat:=if 0<=i/\i<24 then iy m i.toNat|||((m&&&M24)/2^(i.toNat+1)*2^i.toNat) else m&&&M24
def cX (n:Int):Prop:= -9223372036854775808<=n/\n<9223372036854775808
def jV (s:Int):Bool:=decide (s<16777216)
def lh (s i:Int):Bool:=decide (0<=i/\i<24)&&s.toNat.testBit i.toNat
def j3 (s i:Int):Int:=if 0<=i/\i<24 then (((s.toNat&&&M24)|||2^i.toNat:Nat):Int) else ((s.toNat&&&M24:Nat):Int)
def s9 (s i:Int):Int:=if 0<=i/\i<24 then ((fX (s.toNat&&&M24) (2^i.toNat):Nat):Int) else ((s.toNat&&&M24:Nat):Int)
def vu (s:Int):List Int:=ints (eL s.toNat)
def eA (s i b:Int):Int×Int:=if i<0\/b<0 then (0,2) else (((fW s.toNat i.toNat b.toNat).1:Int),((fW s.toNat i.toNat b.toNat).2:Int))
def np (s i:Int):Int:=((nn s.toNat i:Nat):Int)
theorem G_ (m:Nat):jV (m:Int)=decide (m<16777216):=by
 grind [jV]
theorem yr (hk:Fu k) {s:Int} (h:U32 s) (Z:Bool->OS S):jg k s Z=Z (jV s):=by
 obtain ⟨m,hm,rfl⟩:=h.nat
 rw [Ii hk hm,G_]
theorem HA (hk:Fu k) {s:Int} (h:U32 s) (i:Int) (Z:Int->OS S):jh k s i Z=Z (j3 s i):=by
 obtain ⟨m,hm,rfl⟩:=h.nat
 rw [Ij hk hm];rfl
theorem HB (hk:Fu k) {s:Int} (h:U32 s) (i:Int) (Z:Int->OS S):kO k s i Z=Z (s9 s i):=by
 obtain ⟨m,hm,rfl⟩:=h.nat
 rw [Ik hk hm];rfl
theorem BO (hk:Fu k) (Z:Int->OS S):jf k 0 Z=Z 0:=by
 simp only [jf,aJ hk];rfl
theorem BP (hk:Fu k) (Z:Int->OS S): ∀n:Nat,n<24->jf k ((2^n:Nat):Int) Z=Z 1:=by
 simp only [jf,aJ hk]
 intro n hn
 match n,hn with
 |0,_|1,_|2,_|3,_|4,_|5,_|6,_|7,_|8,_|9,_|10,_|11,_|12,_|13,_|14,_|15,_|16,_|17,_|18,_|19,_|20,_|21,_|22,_|23,_=>rfl
 |n+24,h=>omega
theorem Jb (i:Int):j3 0 i=if 0<=i/\i<24 then ((2^i.toNat:Nat):Int) else 0:=by
 grind [j3]
theorem U32.of {n:Nat} (h:n<4294967296):U32 (n:Int):=⟨by omega,by omega⟩
theorem B2 (m:Nat) (i:Int):nn m i<16777216:=by
 have h1:m&&&M24<16777216:=Nat.lt_of_le_of_lt Nat.and_le_right (by decide)
 unfold nn
 split
 ·rw [vz]
  grind [tG,mH]
 omega
deriving instance DecidableEq for Cl
theorem Cl.ext' {a b:Cl} (h1:a.pos=b.pos) (h2:a.neg=b.neg):a=b:=by cases a<;>simp_all
theorem mG (a b:Cl):((a.pos==b.pos)&&((a.neg==b.neg)&&true))=decide (a=b):=by
 grind [Cl.ext']
def cO (c:Cl):Prop:=U32 c.pos/\U32 c.neg
def aZ (f:LC):Prop:= ∀c∈f,cO c
def eX (c:Cl):Bool:=jV c.pos&&jV c.neg
def RC (c:Cl):Prop:=(0<=c.pos/\c.pos<16777216)/\(0<=c.neg/\c.neg<16777216)
theorem RC.ok {c:Cl} (h:RC c):cO c:=⟨⟨h.1.1,by have:=h.1.2;omega⟩,⟨h.2.1,by have:=h.2.2;omega⟩⟩
theorem G9 {c:Cl} (h:cO c):eX c=true↔RC c:=by
 unfold eX jV RC
 simp only [aj,decide_eq_true_eq]
 have h1:=h.1.1;have h2:=h.2.1
 omega
def iE (a b:Int):Int:=((a.toNat|||b.toNat:Nat):Int)
theorem n3 {a b:Int} (ha:U32 a) (hb:U32 b):bJ .or .u32 a b=iE a b:=by
 obtain ⟨m,hm,rfl⟩:=ha.nat;obtain ⟨n,hn,rfl⟩:=hb.nat
 rw [tA hm hn];rfl
def qP (a b:Cl):Cl:=⟨iE a.pos b.pos,iE a.neg b.neg⟩
def i_ (a b:Cl):Bool:=decide (qP a b=a)
def dZ (c:Cl):Bool:= !decide (c.pos.toNat&&&c.neg.toNat=0)
theorem Gy {a b:Int} (ha:U32 a) (hb:U32 b):U32 (iE a b):=by
 obtain ⟨m,hm,rfl⟩:=ha.nat;obtain ⟨n,hn,rfl⟩:=hb.nat
 exact U32.of (Nat.or_lt_two_pow (n:=32) hm hn)
theorem HG (hk:Fu k) {c:Cl} (h:cO c) (Z:Bool->OS S):mS k c Z=Z (eX c):=by
 simp only [mS,aJ hk,yr hk h.1,yr hk h.2,eX,f0]
 grind
theorem HF (hk:Fu k) {a b:Cl} (ha:cO a) (hb:cO b) (Z:Cl->OS S):mR k a b Z=Z (qP a b):=by
 simp only [mR,n3 ha.1 hb.1,n3 ha.2 hb.2];rfl
theorem HD (hk:Fu k) {a b:Cl} (ha:cO a) (hb:cO b) (Z:Bool->OS S):kJ k a b Z=Z (i_ a b):=by
 simp only [kJ,aJ hk,HF hk ha hb,mG];rfl
theorem HE (hk:Fu k) {c:Cl} (h:cO c) (Z:Bool->OS S):mN k c Z=Z (dZ c):=by
 obtain ⟨p,n⟩:=c
 obtain ⟨m,hm,rfl⟩:=h.1.nat;obtain ⟨n,hn,rfl⟩:=h.2.nat
 simp only [mN,pj hm hn,dZ,Int.toNat_natCast]
 congr 2
 grind
def eU (c:Cl) (i b:Int):Cl×Int:=
 if eX c then
  if (eA c.pos i b).2=0 then if (eA c.neg i b).2=0 then (⟨(eA c.pos i b).1,(eA c.neg i b).1⟩,0) else (⟨0,0⟩,(eA c.neg i b).2)
  else (⟨0,0⟩,(eA c.pos i b).2)
 else (⟨0,0⟩,2)
def eB (a b:Cl):Prop:=a.pos<b.pos\/(a.pos=b.pos/\a.neg<b.neg)
def qD (a b:Cl):Bool:=decide (a.pos<b.pos)||(a.pos==b.pos&&decide (a.neg<b.neg))
theorem E_ {a b:Cl}:qD a b=true↔eB a b:=by unfold qD eB;simp
theorem vB {a b c:Cl} (h:eB a b) (h':eB b c):eB a c:=by grind [eB]
theorem vA {a:Cl} (h:eB a a):False:=by grind [eB]
theorem FA (a b:Cl):eB a b\/a=b\/eB b a:=by
 grind [Cl.ext',eB]
abbrev gj (l:LC):Prop:=l.Pairwise eB
theorem yO: ∀ {a b:LC},gj a->gj b->(∀c,c∈a↔c∈b)->a=b:=by
 intro a
 induction a with
 |nil=>
  intro b _ _ h
  cases b with
  |nil=>rfl
  |cons y b=>exact absurd ((h y).2 (by simp)) (by simp)
 |cons x a ih=>
  intro b ha hb h
  cases b with
  |nil=>grind
  |cons y b=>
   have ha':=List.pairwise_cons.1 ha;have hb':=List.pairwise_cons.1 hb
   have hxy:x=y:=by
    rcases cu.1 ((h x).1 (by simp)) with h1|h1
    ·exact h1
    ·rcases cu.1 ((h y).2 (by simp)) with h2|h2<;>grind [vB,vA]
   grind [vA]
def ic (x:Cl):LC->LC
 |[]=>[x]
 |y::r=>if qD y x then y::ic x r else if y=x then y::r else x::y::r
theorem wj {x c:Cl}: ∀ {l:LC},c∈ic x l↔c=x\/c∈l:=by
 intro l
 induction l<;>grind [ic]
theorem DP {x:Cl}: ∀ {l:LC},gj l->gj (ic x l):=by
 intro l
 induction l<;>grind [ic,List.pairwise_cons,wj,E_,FA,vB]
def cv (l:LC) (c:Cl):Bool:=l.all fun d=>decide (d=c)|| !i_ c d
def lj (o l:LC):LC:=l.foldl (fun o c=>ic c o) o
def dU (l:LC):LC:=lj [] (l.filter (cv l))
theorem FE {c:Cl}: ∀ {l o:LC},c∈lj o l↔c∈l\/c∈o:=by
 intro l
 induction l with
 |nil=>grind [lj]
 |cons x l ih=>
  intro o
  show c∈lj (ic x o) l↔_
  grind [wj]
theorem DO: ∀ {l o:LC},gj o->gj (lj o l):=by
 intro l
 induction l with
 |nil=>intro o h;exact h
 |cons x l ih=>intro o h;exact ih (DP h)
theorem qT (l:LC):gj (dU l):=DO List.Pairwise.nil
theorem mem_mins {l:LC} {c:Cl}:c∈dU l↔c∈l/\cv l c=true:=by
 grind [dU,FE]
theorem FM {l l':LC} (h: ∀c,c∈l↔c∈l') (c:Cl):cv l c=cv l' c:=by
 grind [cv]
def co (l:LC):LC×Int:=if l.all eX then if (dU l).length>64 then ([],3) else (dU l,0) else ([],2)
theorem BG {S:Type} {p:Prop} [Decidable p] (h:p) (f:Unit->OS S):aN (cm p) f=f ():=px p h f
theorem Hy (hk:Fu k) {d c:Cl} (hd:cO d) (hc:cO c) (Z:Bool->OS S):mQ k d c Z=Z (!(decide (d=c)|| !i_ c d)):=by
 grind [mQ,mG,f0,aJ,HD,i_]
theorem EP (hk:Fu k) (Z:Int->OS S) {c:Cl} (hc:cO c) {l:LC} (hl:aZ l) (hlen:l.length<2147483648):
  ∀ (r p:LC) (m:Nat),l=p++r->r.length<m-> ∃v:Int,decide (v>=0)= !cv r c/\jG k Z c l m (p.length:Int)=Z v:=by
 intro r
 induction r with
 |nil=>
  intro p m h hm
  obtain ⟨m,rfl,hm'⟩:=aK hm
  exact ⟨-1,rfl,by grind [jG,my,ax]⟩
 |cons x r ih=>
  intro p m h hm
  obtain ⟨m,rfl,hm'⟩:=aK hm
  obtain ⟨e1,e2,e3,e4⟩:=bK h (by omega)
  have hx:cO x:=hl x (by grind)
  obtain ⟨v,hv,hr⟩:=ih (p++[x]) m e4 hm'
  have e0:cv (x::r) c=((decide (x=c)|| !i_ c x)&&cv r c):=by rfl
  grind [jG,my,aH,aJ,Hy,decide,i_,ax]
theorem HV (hk:Fu k) {c:Cl} (hc:cO c) {l:LC} (hl:aZ l) (hlen:l.length<2147483648) (Z:Bool->OS S):mP k c l Z=Z (!cv l c):=by
 obtain ⟨v,hv,hr⟩:=EP hk (fun r1:Int=>Z (decide (r1>=0))) hc hl hlen l [] k rfl (by omega)
 grind [mP,pI,pM,sz,aJ]
theorem EQ (hk:Fu k) (Z:LC×Int->OS S) {l:LC} (hl:aZ l) (hlen:l.length<2147483648):
  ∀ (r p:LC) (m:Nat) (q:LC),l=p++r->r.length<m->q.length<=p.length->
  ie k Z l m (p.length:Int) q=Z (if (q++r.filter (cv l)).length>64 then ([],3) else (sortCl (q++r.filter (cv l)),0)):=by
 intro r
 induction r with
 |nil=>
  grind [aK,ie,mh,eC]
 |cons x r ih=>
  intro p m q h hm hq
  obtain ⟨m,rfl,hm'⟩:=aK hm
  obtain ⟨e1,e2,e3,e4⟩:=bK h (by omega)
  have hx:cO x:=hl x (by grind)
  have hpl:p.length<l.length:=by grind
  simp only [ie,mh,e1,aH,e2,bB,aJ hk,HV hk hx hl hlen,Bool.not_not]
  rw [e3]
  cases hn:cv l x with
  |true=>
   rw [aH,gN (by grind),List.filter_cons_of_pos hn,ih (p++[x]) m (q++[x]) e4 hm' (by grind)]
   simp
  |false=>
   rw [ax,List.filter_cons_of_neg (by grind)]
   grind
theorem ny (a b:Cl):dC VV ET.C a b=decide (a=b):=by
 have e:dC VV ET.C a b=((a.pos==b.pos)&&((a.neg==b.neg)&&true)):=by
  rfl
 rw [e,mG]
theorem FH (l:List (Cl×Bool)) (x y:Cl):cW VV ET.C (dV VV ET.C l x true) y=if x=y then some true else cW VV ET.C l y:=by
 induction l with
 |nil=>
  show (bif dC VV ET.C x y then some true else .none)=_
  simp_all [ny,cW]
 |cons a r ih=>
  obtain ⟨z,b⟩:=a
  show cW VV ET.C (bif dC VV ET.C z x then (z,true)::r else (z,b)::dV VV ET.C r x true) y=_
  rw [ny]
  by_cases h:z=x
  ·subst h
   rw [decide_eq_true rfl,cond_true]
   show (bif dC VV ET.C z y then some true else cW VV ET.C r y)=if z=y then some true else (bif dC VV ET.C z y then some b else cW VV ET.C r y)
   grind [ny]
  ·rw [decide_eq_false h,cond_false]
   show (bif dC VV ET.C z y then some b else cW VV ET.C (dV VV ET.C r x true) y)=if x=y then some true else (bif dC VV ET.C z y then some b else cW VV ET.C r y)
   grind [ny]
theorem Id {l o:LC} (hn:o.Nodup) (h: ∀c,c∈o↔c∈l):sortCl (o.filter (cv o))=dU l/\(o.filter (cv o)).length=(dU l).length:=by
 have hp:(sortCl (o.filter (cv o))).Perm (o.filter (cv o)):=List.mergeSort_perm _ _
 have hs:(sortCl (o.filter (cv o))).Pairwise (fun a b=>gm a b=true):=
  List.pairwise_mergeSort (le:=gm) (fun a b c h1 h2=>by
   grind [gm]) (fun a b=>by
   grind [gm]) _
 have hnd:(sortCl (o.filter (cv o))).Nodup:=hp.nodup_iff.2 (hn.filter _)
 have hsorted:gj (sortCl (o.filter (cv o))):=by
  refine (hs.and hnd).imp fun {a b} h=> ?_
  have h1:=h.1
  unfold gm at h1
  simp only [Bool.or_eq_true,aj,decide_eq_true_eq,beq_iff_eq] at h1
  rcases h1 with h1|h1
  ·exact .inl h1
  ·refine .inr ⟨h1.1, ?_⟩
   grind [Cl.ext']
 have he:sortCl (o.filter (cv o))=dU l:=yO hsorted (qT l) fun c=>by
  grind [mem_mins,FM]
 exact ⟨he,by rw [<-he,hp.length_eq]⟩
theorem EY (hk:Fu k) (Z:LC×Int->OS S) {l:LC} (hl:aZ l) (hlen:l.length<2147483648):
  ∀ (r p:LC) (m:Nat) (q:List (Cl×Bool)) (o:LC),l=p++r->r.length<m->o.length<=p.length->o.Nodup->(∀c:Cl,(cW VV ET.C q c).getD false=decide (c∈o))->(∀c,c∈o↔c∈p)->
  jx k Z l m q o (p.length:Int)=Z (if r.all eX then if (dU l).length>64 then ([],3) else (dU l,0) else ([],2)):=by
 intro r
 induction r with
 |nil=>
  intro p m q o h hm ho hnd hq hmem
  obtain ⟨m,rfl,hm'⟩:=aK hm
  have hp:l=p:=by grind
  subst hp
  have hol:aZ o:=fun c hc=>hl c ((hmem c).1 hc)
  have hk':4294967296<=k:=hk
  simp only [jx,kg,lx h,ax,List.all_nil,if_true]
  have:=EQ hk Z hol (by omega) o [] k [] rfl (by omega) (by simp)
  grind [Id]
 |cons x r ih=>
  intro p m q o h hm ho hnd hq hmem
  obtain ⟨m,rfl,hm'⟩:=aK hm
  obtain ⟨e1,e2,e3,e4⟩:=bK h (by omega)
  have hx:cO x:=hl x (by grind)
  have hpl:p.length<l.length:=by grind
  simp only [jx,kg,e1,aH,e2,bB,aJ hk,HG hk hx]
  rw [hq,e3]
  by_cases hr:eX x=true
  ·have:(x::r).all eX=r.all eX:=by grind
   rw [hr,Bool.not_true,ax,this]
   by_cases hxo:x∈o
   ·grind [ax]
   ·rw [decide_eq_false hxo,Bool.not_false,aH,gN (by grind)]
    refine ih (p++[x]) m _ (o++[x]) e4 hm' (by grind) (List.nodup_append.2 ⟨hnd,by simp,fun a ha b hb=>by grind⟩) (fun c=> ?_) fun c=> ?_
    all_goals grind [FH]
  grind [aH]
theorem Hx (hk:Fu k) {l:LC} (hl:aZ l) (hlen:l.length<2147483648) (Z:LC×Int->OS S):mO k l Z=Z (co l):=by
 simp only [mO,sb]
 exact EY hk Z hl hlen l [] k [] [] rfl (by omega) (by simp) List.nodup_nil (fun c=>by rfl) (fun c=>Iff.rfl)
theorem Eu (hk:Fu k) (Z:Bool->OS S) {a b:LC} (hlen:a.length<4294967296):
  ∀ (r s p q:LC) (m:Nat),a=p++r->b=q++s->p.length=q.length->r.length=s.length->r.length<m->jF k Z a b m (p.length:Int)=Z (decide (r=s)):=by
 intro r
 induction r with
 |nil=>
  grind [aK,jF,mw,ax]
 |cons x r ih=>
  intro s p q m h h' hpq hrs hm
  obtain ⟨m,rfl,hm'⟩:=aK hm
  cases s with
  |nil=>cases hrs
  |cons y s=>
   obtain ⟨e1,e2,e3,e4⟩:=bK h (by omega)
   have e2':aM b (p.length:Int)=some y:=by grind [DB]
   simp only [jF,mw,e1,aH,e2,e2',bB,mG,e3]
   rw [ih s (p++[x]) (q++[y]) m e4 (by grind) (by simp_all) (by grind) hm']
   by_cases hxy:x=y<;>simp_all [ax,aH]
theorem Hu (hk:Fu k) {a b:LC} (hlen:a.length<4294967296) (Z:Bool->OS S):na k a b Z=Z (decide (a=b)):=by
 simp only [na,sy]
 by_cases h:a.length=b.length
 ·have e:((a.length:Int)==(b.length:Int))=true:=by simp [h]
  rw [e,Bool.not_true,ax]
  exact Eu hk Z hlen a b [] [] k rfl rfl rfl h (by omega)
 ·have e:((a.length:Int)==(b.length:Int))=false:=by grind
  rw [e,Bool.not_false,aH,decide_eq_false]
  grind
theorem E8 (l:LC):(co l).1.length<=64:=by
 grind [co]
def dc (f:LC):Bool:=decide (co f=(f,0))
theorem yy (hk:Fu k) {f:LC} (hf:aZ f) (hlen:f.length<2147483648) (Z:Bool->OS S):hJ k f Z=Z (dc f):=by
 have:=E8 f
 simp only [hJ,aJ hk,Hx hk hf hlen,Hu hk (show (co f).1.length<4294967296 by omega),f0,dc,beq_iff_eq]
 by_cases h:(co f).2=0
 all_goals simp_all [Prod.ext_iff]
def RF (f:LC):Prop:=co f=(f,0)/\aZ f
theorem iM {f:LC} (h:aZ f):dc f=true↔RF f:=by grind [dc,RF]
theorem RF.right {f:LC} (h:RF f):dc f=true:=by unfold dc;simp [h.1]
theorem qB {l o:LC} (h:co l=(o,0)):o=dU l/\l.all eX=true/\o.length<=64:=by
 grind [co]
theorem RF.len {f:LC} (h:RF f):f.length<=64:=(qB h.1).2.2
theorem RF.rc {f:LC} (h:RF f) {c:Cl} (hc:c∈f):RC c:=(G9 (h.2 c hc)).1 (bW.1 (qB h.1).2.1 c hc)
theorem FI (l:LC):dU (dU l)=dU l:=yO (qT _) (qT _) fun c=>by
 grind [mem_mins,cv]
theorem E9 {l:LC} (hl:aZ l) (h:(co l).2=0):RF (co l).1:=by
 have h':co l=((co l).1,0):=Prod.ext rfl h
 obtain ⟨h1,h2,h3⟩:=qB h'
 have hok:aZ (co l).1:=fun c hc=>hl c ((mem_mins.1 (h1▸hc)).1)
 refine ⟨?_,hok⟩
 grind [co,mem_mins,FI]
theorem xW:RF []:=⟨rfl,fun c hc=>by cases hc⟩
theorem rB:RC ⟨0,0⟩:=⟨⟨by decide,by decide⟩,by decide,by decide⟩
theorem FT {f g:LC} (hf:aZ f) (hg:aZ g):aZ (f++g):=fun c hc=>by
 rcases cP.1 hc with h|h
 ·exact hf c h
 ·exact hg c h
def qr (f g:LC):LC×Int:=co (f++g)
def meets (f g:LC):LC:=f.flatMap fun a=>g.map (qP a)
def qR (f g:LC):LC×Int:=co (meets f g)
theorem RF.lt {f:LC} (h:RF f):f.length<2147483648:=by have:=h.len;omega
theorem u0:U32 0:=⟨by decide,by decide⟩
def nl (i:Int):Cl:=⟨0,j3 0 i⟩
def pl (i:Int):Cl:=⟨j3 0 i,0⟩
def Gv (c:Cl):LC:=(vu c.pos).map nl++(vu c.neg).map pl
def Gw (c:Cl):LC×Int:=co (Gv c)
def d5 (step:LC->Cl->LC×Int):LC->LC->LC×Int
 |h,[]=>(h,0)
 |h,c::r=>if (step h c).2=0 then d5 step (step h c).1 r else ([],(step h c).2)
def FP (h:LC) (c:Cl):LC×Int:=qR h (Gw c).1
def jN (f:LC):LC×Int:=d5 FP [⟨0,0⟩] f
theorem pr (n:Int):(n==0)=decide (n=0):=by rfl
def jp (i:Int) (c:Cl):Cl:=⟨s9 c.pos i,s9 c.neg i⟩
def lR (i:Int) (r:LC) (c:Cl):LC×Int:=if lh c.pos i then qR [jp i c] r else ([jp i c],0)
def rg (i:Int) (r:LC) (c:Cl) (g:LC):LC×Int:=if lh c.neg i then if (jN r).2=0 then qR g (jN r).1 else ([],(jN r).2) else (g,0)
def GH (i:Int) (r h:LC) (c:Cl):LC×Int:=
 if (lR i r c).2=0 then if (rg i r c (lR i r c).1).2=0 then qr h (rg i r c (lR i r c).1).1 else ([],(rg i r c (lR i r c).1).2) else ([],(lR i r c).2)
def nk (i:Int):Bool:=decide (0<=i/\i<24)
def GK (f:LC) (i:Int) (r:LC):LC×Int:=if dc f&&dc r&&nk i then d5 (GH i r) [] f else ([],2)
theorem Ht (hk:Fu k) (i:Int) (Z:LC×Int->OS S):kM k i Z=Z (if nk i then ([⟨j3 0 i,0⟩],0) else ([],2)):=by
 simp only [kM,aJ hk,HA hk u0]
 grind [nk,Jb,BP,ax,BO,aH]
theorem Fh {m n b:Nat}:(fW m n b).1<16777216:=by
 have h1:m&&&M24<16777216:=Nat.lt_of_le_of_lt Nat.and_le_right (by decide)
 have h2:iy m n<=m&&&M24:=Nat.and_le_left
 unfold fW
 split
 ·omega
 ·split
  ·simp
  ·split
   ·simp
   ·exact Nat.or_lt_two_pow (n:=24) (by omega) (by omega)
theorem vr (s i b:Int):0<=(eA s i b).1/\(eA s i b).1<16777216:=by
 grind [eA,Fh]
theorem Fb (c:Cl) (i b:Int):RC (eU c i b).1:=by
 unfold eU
 split
 ·split
  ·split
   ·exact ⟨vr _ _ _,vr _ _ _⟩
   ·exact rB
  ·exact rB
 ·exact rB
def fB (i b:Int) (h:LC) (c:Cl):LC×Int:=(h++[(eU c i b).1],(eU c i b).2)
def fC (f:LC) (i b:Int):LC×Int:=if dc f then if (d5 (fB i b) [] f).2=0 then co (d5 (fB i b) [] f).1 else ([],(d5 (fB i b) [] f).2) else ([],2)
theorem Dm {i b:Int}: ∀ {r h:LC},aZ h->aZ (d5 (fB i b) h r).1/\(d5 (fB i b) h r).1.length<=h.length+r.length:=by
 intro r
 induction r with
 |nil=>intro h hh;exact ⟨hh,by show h.length<=_;omega⟩
 |cons c r ih=>
  intro h hh
  unfold d5
  split
  ·have:=ih (h:=(fB i b h c).1) (FT hh fun d hd=>by simp at hd;subst hd;exact (Fb c i b).ok)
   grind [fB]
  ·exact ⟨fun d hd=>(by cases hd),by simp⟩
theorem vq {f:LC} {i b:Int} (h:(fC f i b).2=0):RF (fC f i b).1:=by
 unfold fC at h ⊢
 split
 ·next hr=>
  rw [if_pos hr] at h
  split
  ·next h0=>
   rw [if_pos h0] at h
   exact E9 (Dm fun d hd=>by cases hd).1 h
  grind
 grind
def n2 (s:Nat) (f:LC):Nat:=f.foldl (fun s c=>s|||(c.pos.toNat|||c.neg.toNat)) s
def fP (f:LC):Nat:=n2 0 f&&&M24
def pX (f:LC):Int:=((fP f:Nat):Int)
def oF (f:LC) (i:Nat):Bool:=f.any fun c=>c.pos.toNat.testBit i||c.neg.toNat.testBit i
theorem Gx (i:Nat): ∀ {f:LC} {s:Nat},(n2 s f).testBit i=(s.testBit i||oF f i):=by
 intro f
 induction f<;>simp_all [n2,oF,Bool.or_assoc]
theorem B0 (f:LC) (i:Nat):(fP f).testBit i=(oF f i&&decide (i<24)):=by
 grind [fP,mH,Gx]
theorem BZ (f:LC):fP f<16777216:=Nat.lt_of_le_of_lt Nat.and_le_right (by decide)
theorem ED (hk:Fu k) (Z:Int->OS S) {l:LC} (hl:aZ l) (hlen:l.length<4294967296):
  ∀ (r p:LC) (m:Nat) (s:Nat),l=p++r->r.length<m->s<4294967296->jz k Z l m (s:Int) (p.length:Int)=Z (((n2 s r&&&M24:Nat):Int)):=by
 intro r
 induction r with
 |nil=>
  intro p m s e hm hs
  obtain ⟨m,rfl,hm'⟩:=aK hm
  simp only [jz,mj,lx e,ax,aJ hk,HB hk (U32.of hs)]
  rfl
 |cons x r ih=>
  intro p m s e hm hs
  obtain ⟨m,rfl,hm'⟩:=aK hm
  obtain ⟨e1,e2,e3,e4⟩:=bK e (by omega)
  have hx:cO x:=hl x (by grind)
  have ho:U32 (iE x.pos x.neg):=Gy hx.1 hx.2
  have hq:s|||(x.pos.toNat|||x.neg.toNat)<4294967296:=by
   have h1:=hx.1.1;have h2:=hx.1.2;have h3:=hx.2.1;have h4:=hx.2.2
   have h32:(2:Nat)^32=4294967296:=by decide
   exact Nat.or_lt_two_pow (n:=32) hs (Nat.or_lt_two_pow (n:=32) (by omega) (by omega))
  have es:iE (s:Int) (iE x.pos x.neg)=((s|||(x.pos.toNat|||x.neg.toNat):Nat):Int):=by rfl
  simp only [jz,mj,e1,aH,e2,bB,n3 hx.1 hx.2,n3 (U32.of hs) ho,e3,es]
  exact ih (p++[x]) m _ e4 hm' hq
theorem HK (hk:Fu k) {f:LC} (hf:aZ f) (hlen:f.length<4294967296) (Z:Int->OS S):mV k f Z=Z (pX f):=by
 simp only [mV,sf]
 exact ED hk Z hf hlen f [] k 0 rfl (by omega) (by decide)
def dR (f:LC) (d:Int):Bool:=decide (∀i∈eL (fP f),(i:Int)<d)
theorem yE (hk:Fu k) {f:LC} {d:Int} (hf:aZ f) (hlen:f.length<4294967296) (hd:0<=d) (hd':d<9223372036854775808) (Z:Bool->OS S):gr k f d Z=Z (dR f d):=by
 simp only [gr,eC,aJ hk,HK hk hf hlen]
 by_cases h:d>=24
 ·grind [dR,gF]
 ·rw [if_neg h]
  obtain ⟨n,rfl⟩: ∃n:Nat,d=n:=⟨d.toNat,by omega⟩
  rw [tc n (by omega),BG (by omega),Int.toNat_natCast,Nat.min_eq_left (by omega)]
  congr 1
  rw [pX,Dd,dR,Bool.eq_iff_iff]
  simp only [beq_iff_eq,decide_eq_true_eq]
  have hdiv:(fP f/2^n=0)↔fP f<2^n:=Nat.div_eq_zero_iff_lt (Nat.two_pow_pos n)
  constructor
  ·grind [gF,eJ,Nat.pow_le_pow_right,Nat.testBit_lt_two_pow]
  ·intro h0
   have:fP f<2^n:=by
    apply Nat.lt_pow_two_of_testBit
    grind [gF,mI,BZ]
   omega
def Bx (c:Cl):Bool:= !dZ c
def By (l:LC):LC:=l.filter Bx
def cK (f:LC):Bool:=dc f&&f.all fun c=> !dZ c
def RFa (f:LC):Prop:=RF f/\ ∀c∈f,dZ c=false
theorem oy {f:LC} (h:aZ f):cK f=true↔RFa f:=by
 grind [cK,RFa,iM]
theorem RFa.right {f:LC} (h:RFa f):cK f=true:=(oy h.1.2).2 h
theorem Ez (hk:Fu k) (Z:Int->OS S) {l:LC} (hl:aZ l) (hlen:l.length<2147483648):
  ∀ (r p:LC) (m:Nat),l=p++r->r.length<m-> ∃v:Int,decide (v>=0)=r.any dZ/\jH k Z l m (p.length:Int)=Z v:=by
 intro r
 induction r with
 |nil=>
  intro p m h hm
  obtain ⟨m,rfl,hm'⟩:=aK hm
  exact ⟨-1,rfl,by grind [jH,mz,ax]⟩
 |cons x r ih=>
  intro p m h hm
  obtain ⟨m,rfl,hm'⟩:=aK hm
  obtain ⟨e1,e2,e3,e4⟩:=bK h (by omega)
  have hx:cO x:=hl x (by grind)
  obtain ⟨v,hv,hr⟩:=ih (p++[x]) m e4 hm'
  grind [jH,mz,aH,aJ,HE,ax]
theorem rW (hk:Fu k) {f:LC} (hf:aZ f) (hlen:f.length<2147483648) (Z:Bool->OS S):jd k f Z=Z (cK f):=by
 obtain ⟨v,hv,hr⟩:=Ez hk (fun r1:Int=>(fun r2:Bool=>Z (!r2)) (decide (r1>=0))) hf hlen f [] k rfl (by omega)
 simp only [jd,aJ hk,yy hk hf hlen,pJ,pN,sA]
 grind [cK,dc,aH,ax]
theorem EO (hk:Fu k) (Z:Int->OS S) {l:List (LC)} (hl: ∀f∈l,aZ f/\f.length<2147483648) (hlen:l.length<4294967296):
  ∀ (r p:List (LC)) (m:Nat),l=p++r->r.length<m->jy k Z l m (p.length:Int)=Z (if r.all cK then 0 else 2):=by
 intro r
 induction r with
 |nil=>
  grind [aK,jy,mi,ax]
 |cons x r ih=>
  intro p m h hm
  obtain ⟨m,rfl,hm'⟩:=aK hm
  obtain ⟨e1,e2,e3,e4⟩:=bK h (by omega)
  have hx:=hl x (by grind)
  grind [jy,mi,aH,aJ,rW,ax]
theorem HL (hk:Fu k) {l:List (LC)} (hl: ∀f∈l,aZ f/\f.length<2147483648) (hlen:l.length<4294967296) (Z:Int->OS S):kL k l Z=Z (if l.all cK then 0 else 2):=by
 simp only [kL,sc]
 exact EO hk Z hl hlen l [] k rfl (by omega)
def qA (l:LC):LC×Int:=co (By l)
def FR (f:LC):LC×Int:=if dc f then qA f else ([],2)
def FS (f:LC):LC×Int:=if dc f then if (jN f).2=0 then qA (jN f).1 else ([],(jN f).2) else ([],2)
def qQ (f g:LC):LC×Int:=qA (meets f g)
def wD (i:Int) (c:Cl) (h:LC) (q:LC×Int):LC×Int:=
 if q.2=0 then if (qQ [jp i c] q.1).2=0 then qr h (qQ [jp i c] q.1).1 else ([],(qQ [jp i c] q.1).2) else ([],q.2)
def GJ (i:Int) (r h:LC) (c:Cl):LC×Int:=
 if lh c.pos i then wD i c h (FR r) else if lh c.neg i then wD i c h (FS r) else qr h [jp i c]
def GI (f:LC) (i:Int) (r:LC):LC×Int:=if cK f&&dc r&&nk i then d5 (GJ i r) [] f else ([],2)
end Go.Proofs.YtlidjlacmpaefaaGreatDoor
namespace Go.Proofs.YtlidjlacmpaefaaGreatDoor
open Go PI
mutual
def aR:Tm->Nat
 | .mk _ _ _ _ ks sys=>1+bj ks+bo sys
def bj:LT->Nat
 |[]=>0
 |t::l=>aR t+bj l
def bo:LB->Nat
 |[]=>0
 |b::l=>jZ b+bo l
def jZ:Br Tm->Nat
 | .mk _ ks=>bj ks
end
mutual
def aU:Tm->Nat
 | .mk _ _ _ _ ks sys=>max (du ks) (dN sys)+1
def du:LT->Nat
 |[]=>0
 |t::l=>max (aU t) (du l)
def dN:LB->Nat
 |[]=>0
 |b::l=>max (pU b) (dN l)
def pU:Br Tm->Nat
 | .mk _ ks=>du ks
end
theorem lZ (b:Br Tm):jZ b=bj b.kids:=by cases b;rw [jZ]
theorem ni (b:Br Tm):pU b=du b.kids:=by cases b;rw [pU]
theorem yL (t:Tm):1<=aR t:=by cases t;rw [aR];omega
theorem rX: ∀ {l:LT} {x:Tm},x∈l->aR x<=bj l:=by
 intro l
 induction l<;>grind [bj]
theorem Ib: ∀ {l:LB} {b:Br Tm},b∈l->bj b.kids<=bo l:=by
 intro l
 induction l<;>grind [bo,lZ]
theorem uw: ∀ {l:LT} {x:Tm},x∈l->aU x<=du l:=by
 intro l
 induction l<;>grind [du]
theorem BX: ∀ {l:LB} {b:Br Tm},b∈l->du b.kids<=dN l:=by
 intro l
 induction l<;>grind [dN,ni]
theorem iQ {Q:Tm->Prop} (h: ∀kd n nm r ks sys,(∀x∈ks,Q x)->(∀b∈sys,∀x∈b.kids,Q x)->Q (.mk kd n nm r ks sys)) (t:Tm):Q t:=by
 have: ∀m t,aR t<=m->Q t:=by
  intro m
  induction m with
  |zero=>grind [yL]
  |succ m ih=>
   intro t ht
   cases t with
   |mk kd n nm r ks sys=>
    rw [aR] at ht
    refine h _ _ _ _ _ _ (fun x hx=>ih x ?_) fun b hb x hx=>ih x ?_
    ·have:=rX hx;omega
    ·have:=Ib hb;have:=rX hx;omega
 exact this _ t (b7 _)
def kidsT:List Int:=[-1,0,0,0,2,1,2,2,2,1,1,3,1,3,2,2,1,1,1,0,0,0,4,1,0,0,1,5,2]
def fR (kd:Int):Int:=if kd<0\/kd>28 then-1 else kidsT.getD kd.toNat 0
def ep (kd i:Int):Int:=if (i=1/\(kd=4\/kd=7))\/(i=0/\(kd=5\/kd=22\/kd=27)) then 1 else 0
def eK (kd i:Int):Int:=if i=0/\(kd=11\/kd=12\/kd=14) then 1 else 0
def dW (kd:Int):Int:=if kd=16 then 2 else if kd=15\/kd=17\/kd=18 then 1 else 0
def da (kd:Int):Int:=if kd=15 then 1 else 0
theorem pw (kd i:Int):0<=ep kd i/\ep kd i<=1:=by grind [ep]
theorem pu (kd i:Int):0<=eK kd i/\eK kd i<=1:=by grind [eK]
theorem qV (kd:Int):0<=da kd/\da kd<=1:=by grind [da]
def iw (c:UInt8):Bool:=(decide (97<=c.toNat)&&decide (c.toNat<=122))||(decide (65<=c.toNat)&&decide (c.toNat<=90))||decide (c.toNat=95)
def kY (c:UInt8):Bool:=decide (48<=c.toNat)&&decide (c.toNat<=57)
def lM:List UInt8->Bool
 |[]=>false
 |c::l=>iw c&&l.all fun d=>iw d||kY d
def dt (kd dims:Int) (b:Br Tm):Bool:=decide ((b.kids.length:Int)=dW kd)&&(cK b.face&&dR b.face dims)
def cJ (vars dims:Int):Tm->Bool
 | .mk kd n nm r ks sys=>
  (decide (fR kd=ks.length)&&(decide (kd=1\/n=0)&&(decide (kd=2\/nm.size=0)&&decide (dW kd=0->sys.length=0))))&&
  (if kd=1 then decide (r.length=0)&&(decide (0<=n)&&decide (vars<0\/n<vars))
   else if kd=2 then decide (r.length=0)&&lM nm.data.toList
   else if kd=13\/kd=21\/kd=26 then dc r&&dR r dims
   else if kd=14 then cK r&&dR r dims
   else sys.all (dt kd dims)&&decide (r.length=0))
def cA (vars v:Int):Int:=if vars<0 then vars else vars+v
mutual
def aL (bd:Bool) (vars dims:Int):Tm->Bool
 | .mk kd n nm r ks sys=> !(bd&&decide (dims>24))&&(cJ vars dims (.mk kd n nm r ks sys)&&(bD bd vars dims kd 0 ks&&bX bd vars dims kd sys))
def bD (bd:Bool) (vars dims kd:Int) (i:Nat):LT->Bool
 |[]=>true
 |t::l=>aL bd (cA vars (ep kd i)) (dims+eK kd i) t&&bD bd vars dims kd (i+1) l
def bX (bd:Bool) (vars dims kd:Int):LB->Bool
 |[]=>true
 |b::l=>g7 bd vars dims kd b&&bX bd vars dims kd l
def g7 (bd:Bool) (vars dims kd:Int):Br Tm->Bool
 | .mk _ ks=>cj bd vars dims kd ks
def cj (bd:Bool) (vars dims kd:Int):LT->Bool
 |[]=>true
 |t::l=>aL bd vars (dims+da kd) t&&cj bd vars dims kd l
end
def eu (t:Tm):Int:=if aU t>200 then 62 else if aR t>20000 then 221 else if aL false (-1) 24 t then 0 else 100
mutual
def OkT:Tm->Prop
 | .mk kd n nm r ks sys=>(cX kd/\cX n/\nm.size<1073741824/\aZ r/\r.length<1073741824/\ks.length<1073741824/\sys.length<1073741824)/\bO ks/\bR sys
def bO:LT->Prop
 |[]=>True
 |t::l=>OkT t/\bO l
def bR:LB->Prop
 |[]=>True
 |b::l=>gY b/\bR l
def gY:Br Tm->Prop
 | .mk f ks=>(aZ f/\f.length<1073741824/\ks.length<1073741824)/\bO ks
end
theorem okK_iff: ∀ {l:LT},bO l↔ ∀t∈l,OkT t:=by
 intro l
 induction l<;>grind [bO]
theorem iC {b:Br Tm}:gY b↔(aZ b.face/\b.face.length<1073741824/\b.kids.length<1073741824)/\ ∀t∈b.kids,OkT t:=by
 cases b;rw [gY,okK_iff]
theorem FU: ∀ {l:LB},bR l↔ ∀b∈l,(aZ b.face/\b.face.length<1073741824/\b.kids.length<1073741824)/\ ∀t∈b.kids,OkT t:=by
 intro l
 induction l<;>grind [bR,iC]
theorem OkT.node {kd n nm r ks sys} (h:OkT (.mk kd n nm r ks sys)):cX kd/\cX n/\nm.size<1073741824/\aZ r/\r.length<1073741824/\ks.length<1073741824/\sys.length<1073741824:=by grind [OkT]
theorem OkT.kid {kd n nm r ks sys x} (h:OkT (.mk kd n nm r ks sys)) (hx:x∈ks):OkT x:=by grind [OkT,okK_iff]
theorem OkT.br {kd n nm r ks sys b} (h:OkT (.mk kd n nm r ks sys)) (hb:b∈sys):(aZ b.face/\b.face.length<1073741824/\b.kids.length<1073741824)/\ ∀t∈b.kids,OkT t:=by grind [OkT,FU]
theorem A5 {bd:Bool} {vars dims kd:Int}: ∀ {l:LT},cj bd vars dims kd l=l.all (aL bd vars (dims+da kd)):=by
 intro l
 induction l<;>grind [cj]
theorem pf {bd:Bool} {vars dims kd:Int}: ∀ {l:LB},bX bd vars dims kd l=l.all fun b=>b.kids.all (aL bd vars (dims+da kd)):=by
 intro l
 induction l with
 |nil=>rfl
 |cons b l ih=>cases b;simp_all [bX,g7,A5]
set_option maxRecDepth 100000
section
variable {H:Type} {enc:TypeId×Value->H} {w:World} {base:Nat} {spare:Nat->Bool} {held:Bool} {o:Obj} {N:az} {g:Gh UU}
noncomputable abbrev eZ (enc:TypeId×Value->H) (w:World) (base:Nat) (spare:Nat->Bool) (held:Bool):=DataW.trod enc Tryz.prog w base spare held
def g6 (o:Obj) (w:World) (N:az) (g:Gh UU) (e:ET) (x:EL e) (cs:List Value):Prop:= ∀ (k:Nat) (p:PU),(dh e x)[k]? =some p-> ∃v,cs[k]? =some v/\Rep (LL o) w N g v p
theorem mK {l:List (DataW H)}:l.length<=Rows.uptoBulkAll l:=by
 induction l with
 |nil=>simp [Rows.uptoBulkAll]
 |cons x r ih=>
  have:1<=Rows.uptoBulk x:=by
   cases x with
   |lit l=>cases l<;>simp [Rows.uptoBulk]
   |_=>simp [Rows.uptoBulk]
  simp only [Rows.uptoBulkAll,List.length_cons];omega
theorem build {α β:Type} {R:Nat->β->α->Prop}: ∀ (elems:List β) (s:Nat),(∀i d,elems[i]? =some d-> ∃x,R (s+i) d x)-> ∃l:List α,l.length=elems.length/\ ∀i d,elems[i]? =some d-> ∃x,l[i]? =some x/\R (s+i) d x:=by
 intro elems
 induction elems with
 |nil=>intro s h;exact ⟨[],rfl,fun i d h=>by simp at h⟩
 |cons d r ih=>
  intro s h
  obtain ⟨x,hx⟩:=h 0 d rfl
  obtain ⟨l,hl,hr⟩:=ih (s+1) fun i d' hd=>by
   obtain ⟨x,hx⟩:=h (i+1) d' (by simpa using hd)
   exact ⟨x,by rw [show s+1+i=s+(i+1) by omega];exact hx⟩
  refine ⟨x::l,by simp [hl],fun i d' hd=> ?_⟩
  cases i with
  |zero=>injection hd with hd;subst hd;exact ⟨x,rfl,hx⟩
  |succ i=>
   obtain ⟨y,hy,hr⟩:=hr i d' (by simpa using hd)
   exact ⟨y,by simpa using hy,by rw [show s+(i+1)=s+1+i by omega];exact hr⟩
theorem nZ (hN: ∀b o,¬N b o) {e:ET} {tS tE:TypeId} (ht:Tryz.prog.underlying tS=some (.slice tE)) (hc:Tryz.prog.cellsOf tE=jm e) {Q:EL e->DataW H->Prop} {n:Nat} {cs:List Value} {d:DataW H} {pl:List MemPlace}
  (hel: ∀ (cs:List Value) (d:DataW H) (pl:List MemPlace),eZ enc w base spare held n tE cs=some (d,pl)-> ∃x:EL e,g6 o w N g e x cs/\Q x d) (h:eZ enc w base spare held (n+1) tS cs=some (d,pl)):
  ∃ (v:Value) (l:List (EL e)) (ds:List (DataW H)),cs=[v]/\Rep (LL o) w N g v (.sl (U:=UU) e l .none)/\l.length=ds.length/\(∀ (i:Nat) (x:EL e) (y:DataW H),l[i]? =some x->ds[i]? =some y->Q x y)/\Rows.uptoBulkAll ds+1<=Rows.uptoBulk d:=by
 rcases DataW.trod_slice ht h with ⟨rfl,hx⟩|⟨a,len,cap,elems,rest,m,hm,rfl,hx,hb,hl,hcp,hlen,hee,_,_⟩
 ·injection hx with hx _
  subst hx
  exact ⟨_,[],[],rfl,Rep.sl (X:=LL o) (N:=N) (g:=g) none 0 0 e (show List (EL e) from []) .none (fun _ _=>undef) rfl (b7 _) trivial (fun j x hx=>by cases hx) (fun j x hx=>by cases hx),rfl,fun i x y h=>by simp at h,by simp [Rows.uptoBulkAll,Rows.uptoBulk]⟩
 ·obtain rfl:n=m:=by omega
  injection hx with hx _
  subst hx
  obtain ⟨l,hll,hlr⟩:=build (R:=fun i (y:DataW H×List MemPlace) (x:EL e)=> ∃cs',w.cells? base (a.add (i*Tryz.prog.cellsOf tE)) (Tryz.prog.cellsOf tE)=some cs'/\g6 o w N g e x cs'/\Q x y.1) elems 0 fun i y hy=>by
   have hi:i<len:=by rw [<-hlen];exact (bS.1 hy).1
   have:=hee i hi
   rw [hy] at this
   obtain ⟨cs',h1,h2⟩:=gk.1 this
   obtain ⟨x,hx1,hx2⟩:=hel cs' y.1 y.2 h2
   exact ⟨x,cs',by simpa using h1,hx1,hx2⟩
  have hget: ∀ (j:Nat) (x:EL e),l[j]? =some x-> ∃ (y:DataW H×List MemPlace) (cs':List Value),elems[j]? =some y/\w.cells? base (a.add (j*Tryz.prog.cellsOf tE)) (Tryz.prog.cellsOf tE)=some cs'/\g6 o w N g e x cs'/\Q x y.1:=fun j x hx=>by
   have hj:j<elems.length:=by rw [<-hll];exact (bS.1 hx).1
   obtain ⟨x',hx',cs',h1,h2,h3⟩:=hlr j _ (bP hj)
   rw [hx] at hx'
   injection hx' with hx'
   subst hx'
   exact ⟨_,cs',bP hj,by simpa using h1,h2,h3⟩
  have hcell: ∀ (j:Nat) (x:EL e),l[j]? =some x-> ∀ (k:Nat) (p:PU),(dh e x)[k]? =some p-> ∃v,w.cell? (a.add (j*(LL o).esize e+k))=some v/\Rep (LL o) w N g v p:=fun j x hx k p hp=>by
   obtain ⟨y,cs',_,h1,h2,_⟩:=hget j x hx
   obtain ⟨v,hv,hr⟩:=h2 k p hp
   obtain ⟨_,hl',hcs⟩:=World.cells?_some h1
   have hk:k<Tryz.prog.cellsOf tE:=by rw [<-hl'];exact (bS.1 hv).1
   have:=hcs k hk
   rw [hv,Go.Deep.add_add,hc] at this
   exact ⟨v,this,hr⟩
  refine ⟨_,l,elems.map (·.1),rfl,Rep.sl (X:=LL o) (some a) len cap e l .none (fun j k=>(w.cell? (a.add (j*(LL o).esize e+k))).getD undef) (by rw [<-hlen];exact hll) hl trivial (fun j x hx k p hp=> ?_) (fun j x hx k p hp=> ?_),by simpa using hll,fun i x y hx hy=> ?_,by simp [Rows.uptoBulk]⟩
  ·obtain ⟨v,hv,_⟩:=hcell j x hx k p hp
   exact ⟨a,rfl,by simp [hv],hN _ _⟩
  ·obtain ⟨v,hv,hr⟩:=hcell j x hx k p hp
   simp only [hv];exact hr
  ·obtain ⟨y',cs',h1,_,_,h3⟩:=hget i x hx
   have:y=y'.1:=by
    rw [ej,h1] at hy
    injection hy with hy;exact hy.symm
   subst this
   exact h3
theorem qY {n:Nat} {cs:List Value} {d:DataW H} {pl:List MemPlace} (h:eZ enc w base spare held n 3 cs=some (d,pl)): ∃z,cs=[.int .i64 z]/\cX z:=by
 obtain ⟨z,rfl,_,hw⟩:=DataW.trod_int Tryz.underlying3 h
 refine ⟨z,rfl, ?_⟩
 simp [Lit.wf,IntKind.has] at hw
 have h1:IntKind.i64.min= -9223372036854775808:=rfl
 have h2:IntKind.i64.max=9223372036854775807:=rfl
 unfold cX
 omega
theorem ww {n:Nat} {cs:List Value} {d:DataW H} {pl:List MemPlace} (h:eZ enc w base spare held n 84 cs=some (d,pl)): ∃z,cs=[.int .u32 z]/\U32 z:=by
 obtain ⟨z,rfl,_,hw⟩:=DataW.trod_int Tryz.underlying84 h
 refine ⟨z,rfl, ?_⟩
 simp [Lit.wf,IntKind.has] at hw
 have h1:IntKind.u32.min=0:=rfl
 have h2:IntKind.u32.max=4294967295:=rfl
 unfold U32
 omega
def QC (c:Cl) (d:DataW H):Prop:=cO c
def QT (t:Tm) (d:DataW H):Prop:=aR t<=Rows.uptoBulk d/\(Rows.uptoBulk d<1073741824->OkT t)
def QB (b:Br Tm) (d:DataW H):Prop:=jZ b<=Rows.uptoBulk d/\(Rows.uptoBulk d<1073741824->(aZ b.face/\b.face.length<1073741824/\b.kids.length<1073741824)/\ ∀t∈b.kids,OkT t)
theorem Gt {n:Nat} {cs:List Value} {d:DataW H} {pl:List MemPlace} (h:eZ enc w base spare held n 86 cs=some (d,pl)): ∃x:EL ET.C,g6 o w N g ET.C x cs/\QC (show Cl from x) d:=by
 obtain ⟨xs,m,rfl,_,hl,hlen,hf⟩:=DataW.trod_struct Tryz.underlying86 h
 have hl2:cs.length=2:=hl.trans (by kernel_rfl)
 match cs,hl2,xs,hlen with
 |[a,b],_,[y0,y1],_=>
 have h0:=hf 0 _ rfl
 have h1:=hf 1 _ rfl
 have c84:Tryz.prog.cellsOf 84=1:=by kernel_rfl
 simp [c84] at h0 h1
 obtain ⟨z0,e0,k0⟩:=ww h0
 obtain ⟨z1,e1,k1⟩:=ww h1
 obtain rfl:a= .int .u32 z0:=by simpa using e0
 obtain rfl:b= .int .u32 z1:=by simpa using e1
 refine ⟨(⟨z0,z1⟩:Cl),fun k p hp=> ?_,⟨k0,k1⟩⟩
 match k,hp with
 |0,hp=>cases hp;exact ⟨_,rfl,.int _ _⟩
 |1,hp=>cases hp;exact ⟨_,rfl,.int _ _⟩
 |k+2,hp=>simp [dh] at hp
theorem Iq {l:List Tm} {ds:List (DataW H)} (hl:l.length=ds.length) (h: ∀ (i:Nat) (x:Tm) (y:DataW H),l[i]? =some x->ds[i]? =some y->QT x y):bj l<=Rows.uptoBulkAll ds/\(Rows.uptoBulkAll ds<1073741824-> ∀t∈l,OkT t):=by
 induction l generalizing ds with
 |nil=>rw [bj];exact ⟨Nat.zero_le _,fun _ t ht=>by cases ht⟩
 |cons t l ih=>
  cases ds with
  |nil=>cases hl
  |cons d ds=>
   obtain ⟨h1,h2⟩:=h 0 t d rfl rfl
   obtain ⟨i1,i2⟩:=ih (ds:=ds) (by simpa using hl) fun i x y hx hy=>h (i+1) x y (by simpa using hx) (by simpa using hy)
   rw [bj,Rows.uptoBulkAll]
   refine ⟨by omega,fun hb u hu=> ?_⟩
   rcases cu.1 hu with rfl|hu
   ·exact h2 (by omega)
   ·exact i2 (by omega) u hu
theorem Ir {l:List (Br Tm)} {ds:List (DataW H)} (hl:l.length=ds.length) (h: ∀ (i:Nat) (x:Br Tm) (y:DataW H),l[i]? =some x->ds[i]? =some y->QB x y):bo l<=Rows.uptoBulkAll ds/\(Rows.uptoBulkAll ds<1073741824->bR l):=by
 induction l generalizing ds with
 |nil=>rw [bo,bR];exact ⟨Nat.zero_le _,fun _=>trivial⟩
 |cons t l ih=>
  cases ds with
  |nil=>cases hl
  |cons d ds=>
   obtain ⟨h1,h2⟩:=h 0 t d rfl rfl
   obtain ⟨i1,i2⟩:=ih (ds:=ds) (by simpa using hl) fun i x y hx hy=>h (i+1) x y (by simpa using hx) (by simpa using hy)
   rw [bo,Rows.uptoBulkAll,bR,iC]
   exact ⟨by omega,fun hb=>⟨h2 (by omega),i2 (by omega)⟩⟩
theorem wv (hN: ∀b o,¬N b o) {n:Nat} {cs:List Value} {d:DataW H} {pl:List MemPlace} (h:eZ enc w base spare held n 23 cs=some (d,pl)):
  ∃ (v:Value) (l:List Cl),cs=[v]/\Rep (LL o) w N g v (bm l .none)/\aZ l/\l.length+1<=Rows.uptoBulk d:=by
 cases n with
 |zero=>cases h
 |succ n=>
  obtain ⟨v,l,ds,rfl,hr,hl,hq,hb⟩:=nZ (e:=ET.C) (Q:=fun x d=>QC (show Cl from x) d) hN Tryz.underlying23 (by kernel_rfl) (fun cs d pl h=>Gt h) h
  refine ⟨v,l,rfl,hr,fun c hc=> ?_, ?_⟩
  ·obtain ⟨i,hi⟩:=List.getElem?_of_mem hc
   have hlt:i<ds.length:=by rw [<-hl];exact (bS.1 hi).1
   exact hq i c _ hi (bP hlt)
  ·have:=mK (l:=ds)
   have hl': @dH Cl l=ds.length:=hl
   omega
theorem wt (hN: ∀b o,¬N b o): ∀ (n:Nat),
  (∀ (cs:List Value) (d:DataW H) (pl:List MemPlace),eZ enc w base spare held n 27 cs=some (d,pl)-> ∃x:EL ET.T,g6 o w N g ET.T x cs/\QT (show Tm from x) d)/\
  (∀ (cs:List Value) (d:DataW H) (pl:List MemPlace),eZ enc w base spare held n 61 cs=some (d,pl)-> ∃x:EL ET.B,g6 o w N g ET.B x cs/\QB (show Br Tm from x) d)/\
  (∀ (cs:List Value) (d:DataW H) (pl:List MemPlace),eZ enc w base spare held n 24 cs=some (d,pl)-> ∃ (v:Value) (l:List Tm),cs=[v]/\Rep (LL o) w N g v (bQ l .none)/\bj l+1<=Rows.uptoBulk d/\l.length+1<=Rows.uptoBulk d/\(Rows.uptoBulk d<1073741824-> ∀t∈l,OkT t))/\
  (∀ (cs:List Value) (d:DataW H) (pl:List MemPlace),eZ enc w base spare held n 25 cs=some (d,pl)-> ∃ (v:Value) (l:List (Br Tm)),cs=[v]/\Rep (LL o) w N g v (bZ l .none)/\bo l+1<=Rows.uptoBulk d/\l.length+1<=Rows.uptoBulk d/\(Rows.uptoBulk d<1073741824->bR l)):=by
 intro n
 induction n with
 |zero=>exact ⟨fun cs d pl h=>(by cases h),fun cs d pl h=>(by cases h),fun cs d pl h=>(by cases h),fun cs d pl h=>(by cases h)⟩
 |succ n ih=>
 obtain ⟨iT,iB,iK,iS⟩:=ih
 have c3:Tryz.prog.cellsOf 3=1:=by kernel_rfl
 have c9:Tryz.prog.cellsOf 9=1:=by kernel_rfl
 have c23:Tryz.prog.cellsOf 23=1:=by kernel_rfl
 have c24:Tryz.prog.cellsOf 24=1:=by kernel_rfl
 have c25:Tryz.prog.cellsOf 25=1:=by kernel_rfl
 refine ⟨fun cs d pl h=> ?_,fun cs d pl h=> ?_,fun cs d pl h=> ?_,fun cs d pl h=> ?_⟩
 ·obtain ⟨xs,m,hm,hx,hl,hlen,hf⟩:=DataW.trod_struct Tryz.underlying27 h
  obtain rfl:n=m:=by omega
  injection hx with hx _
  subst hx
  have hl6:cs.length=6:=hl.trans (by kernel_rfl)
  match cs,hl6,xs,hlen with
  |[a0,a1,a2,a3,a4,a5],_,[y0,y1,y2,y3,y4,y5],_=>
  have h0:=hf 0 _ rfl
  have h1:=hf 1 _ rfl
  have h2:=hf 2 _ rfl
  have h3:=hf 3 _ rfl
  have h4:=hf 4 _ rfl
  have h5:=hf 5 _ rfl
  simp [c3,c9,c23,c24,c25] at h0 h1 h2 h3 h4 h5
  obtain ⟨z0,e0,k0⟩:=qY h0
  obtain ⟨z1,e1,k1⟩:=qY h1
  obtain ⟨s,e2,k2,_⟩:=DataW.trod_string Tryz.underlying9 h2
  obtain ⟨v3,l3,e3,r3,k3,m3⟩:=wv (o:=o) (g:=g) hN h3
  obtain ⟨v4,l4,e4,r4,k4,m4,q4⟩:=iK _ _ _ h4
  obtain ⟨v5,l5,e5,r5,k5,m5,q5⟩:=iS _ _ _ h5
  obtain rfl:a0= .int .i64 z0:=by simpa using e0
  obtain rfl:a1= .int .i64 z1:=by simpa using e1
  obtain rfl:a2= .string s:=by simpa using e2
  obtain rfl:a3=v3:=by simpa using e3
  obtain rfl:a4=v4:=by simpa using e4
  obtain rfl:a5=v5:=by simpa using e5
  have hs:s.size<Rows.uptoBulk y2.1:=by
   rw [k2]
   simp [Rows.uptoBulk]
  refine ⟨Tm.mk z0 z1 s l3 l4 l5,fun k p hp=> ?_, ?_,fun hb=> ?_⟩
  ·match k,hp with
   |0,hp=>cases hp;exact ⟨_,rfl,.int _ _⟩
   |1,hp=>cases hp;exact ⟨_,rfl,.int _ _⟩
   |2,hp=>cases hp;exact ⟨_,rfl,.str _⟩
   |3,hp=>cases hp;exact ⟨_,rfl,r3⟩
   |4,hp=>cases hp;exact ⟨_,rfl,r4⟩
   |5,hp=>cases hp;exact ⟨_,rfl,r5⟩
   |k+6,hp=>simp [dh] at hp
  ·show aR _<=_
   rw [aR]
   simp only [ek,List.map_nil,Rows.uptoBulk,Rows.uptoBulkAll]
   omega
  ·simp only [ek,List.map_nil,Rows.uptoBulk,Rows.uptoBulkAll] at hb
   show OkT _
   rw [OkT,okK_iff]
   exact ⟨⟨k0,k1,by omega,k3,by omega,by omega,by omega⟩,q4 (by omega),q5 (by omega)⟩
 ·obtain ⟨xs,m,hm,hx,hl,hlen,hf⟩:=DataW.trod_struct Tryz.underlying61 h
  obtain rfl:n=m:=by omega
  injection hx with hx _
  subst hx
  have hl2:cs.length=2:=hl.trans (by kernel_rfl)
  match cs,hl2,xs,hlen with
  |[a0,a1],_,[y0,y1],_=>
  have h0:=hf 0 _ rfl
  have h1:=hf 1 _ rfl
  simp [c23,c24] at h0 h1
  obtain ⟨v3,l3,e3,r3,k3,m3⟩:=wv (o:=o) (g:=g) hN h0
  obtain ⟨v4,l4,e4,r4,k4,m4,q4⟩:=iK _ _ _ h1
  obtain rfl:a0=v3:=by simpa using e3
  obtain rfl:a1=v4:=by simpa using e4
  refine ⟨Br.mk l3 l4,fun k p hp=> ?_, ?_,fun hb=> ?_⟩
  ·match k,hp with
   |0,hp=>cases hp;exact ⟨_,rfl,r3⟩
   |1,hp=>cases hp;exact ⟨_,rfl,r4⟩
   |k+2,hp=>simp [dh] at hp
  ·show jZ _<=_
   rw [jZ]
   simp only [ek,List.map_nil,Rows.uptoBulk,Rows.uptoBulkAll]
   omega
  ·simp only [ek,List.map_nil,Rows.uptoBulk,Rows.uptoBulkAll] at hb
   exact ⟨⟨k3,by show l3.length<_;omega,by show l4.length<_;omega⟩,q4 (by omega)⟩
 ·obtain ⟨v,l,ds,rfl,hr,hl,hq,hb⟩:=nZ (e:=ET.T) (Q:=fun x d=>QT (show Tm from x) d) hN Tryz.underlying24 (by kernel_rfl) iT h
  obtain ⟨s1,s2⟩:=Iq (l:=l) hl hq
  have:=mK (l:=ds)
  have hl': @dH Tm l=ds.length:=hl
  exact ⟨v,l,rfl,hr,by omega,by omega,fun hd=>s2 (by omega)⟩
 ·obtain ⟨v,l,ds,rfl,hr,hl,hq,hb⟩:=nZ (e:=ET.B) (Q:=fun x d=>QB (show Br Tm from x) d) hN Tryz.underlying25 (by kernel_rfl) iB h
  obtain ⟨s1,s2⟩:=Ir (l:=l) hl hq
  have:=mK (l:=ds)
  have hl': @dH (Br Tm) l=ds.length:=hl
  exact ⟨v,l,rfl,hr,by omega,by omega,fun hd=>s2 (by omega)⟩
end
end Go.Proofs.YtlidjlacmpaefaaGreatDoor
namespace Go.Proofs
open Go.Shelf
def Tryz.sortCl_ren:Go.Shelf.Ren:=⟨fun|6=>113|15=>146|14=>145|28=>218|29=>219|20=>210|21=>211|22=>212|23=>213|24=>214|25=>215|26=>216|27=>217|46=>268|47=>269|48=>270|49=>271|50=>272|57=>302|n=>n,fun|22=>23|24=>86|25=>155|3=>3|39=>114|0=>0|53=>84|55=>228|4=>4|46=>221|45=>220|50=>225|5=>5|9=>9|66=>253|70=>257|76=>276|77=>109|n=>n,fun|n=>n⟩
theorem Tryz.sortCl:Go.Proofs.SlLaysF0.n6 Tryz.prog Tryz.sortCl_ren:={
 mixed:=by kernel_rfl
 f6:=⟨Tryz.f113.name,by decide,Tryz.func113.trans (congrArg some (by kernel_rfl))⟩
 f14:=⟨Tryz.f145.name,by decide,Tryz.func145.trans (congrArg some (by kernel_rfl))⟩
 f15:=Tryz.func146.trans (congrArg some (by kernel_rfl))
 f20:=⟨Tryz.f210.name,by decide,Tryz.func210.trans (congrArg some (by kernel_rfl))⟩
 f21:=⟨Tryz.f211.name,by decide,Tryz.func211.trans (congrArg some (by kernel_rfl))⟩
 f22:=⟨Tryz.f212.name,by decide,Tryz.func212.trans (congrArg some (by kernel_rfl))⟩
 f23:=⟨Tryz.f213.name,by decide,Tryz.func213.trans (congrArg some (by kernel_rfl))⟩
 f24:=⟨Tryz.f214.name,by decide,Tryz.func214.trans (congrArg some (by kernel_rfl))⟩
 f25:=⟨Tryz.f215.name,by decide,Tryz.func215.trans (congrArg some (by kernel_rfl))⟩
 f26:=⟨Tryz.f216.name,by decide,Tryz.func216.trans (congrArg some (by kernel_rfl))⟩
 f27:=⟨Tryz.f217.name,by decide,Tryz.func217.trans (congrArg some (by kernel_rfl))⟩
 f28:=Tryz.func218.trans (congrArg some (by kernel_rfl))
 f29:=Tryz.func219.trans (congrArg some (by kernel_rfl))
 f46:=⟨Tryz.f268.name,by decide,Tryz.func268.trans (congrArg some (by kernel_rfl))⟩
 f47:=Tryz.func269.trans (congrArg some (by kernel_rfl))
 f48:=Tryz.func270.trans (congrArg some (by kernel_rfl))
 f49:=⟨Tryz.f271.name,by decide,Tryz.func271.trans (congrArg some (by kernel_rfl))⟩
 f50:=⟨Tryz.f272.name,by decide,Tryz.func272.trans (congrArg some (by kernel_rfl))⟩
 f57:=⟨Tryz.f302.name,by decide,Tryz.func302.trans (congrArg some (by kernel_rfl))⟩
 t0:=Tryz.underlying0
 a0:=Tryz.isAgg0
 z0:=Tryz.sizeOf0
 v0:=Tryz.zeroValue0
 t3:=Tryz.underlying3
 a3:=Tryz.isAgg3
 z3:=Tryz.sizeOf3
 v3:=Tryz.zeroValue3
 t4:=Tryz.underlying4
 a4:=Tryz.isAgg4
 z4:=Tryz.sizeOf4
 v4:=Tryz.zeroValue4
 t5:=Tryz.underlying5
 a5:=Tryz.isAgg5
 z5:=Tryz.sizeOf5
 v5:=Tryz.zeroValue5
 t9:=Tryz.underlying9
 a9:=Tryz.isAgg9
 z9:=Tryz.sizeOf9
 v9:=Tryz.zeroValue9
 t22:=Tryz.underlying23
 a22:=Tryz.isAgg23
 z22:=Tryz.sizeOf23
 v22:=Tryz.zeroValue23
 t25:=Tryz.underlying155
 a25:=Tryz.isAgg155
 z25:=Tryz.sizeOf155
 v25:=Tryz.zeroValue155
 t39:=Tryz.underlying114
 a39:=Tryz.isAgg114
 z39:=Tryz.sizeOf114
 v39:=Tryz.zeroValue114
 t45:=Tryz.underlying220
 a45:=Tryz.isAgg220
 z45:=Tryz.sizeOf220
 v45:=Tryz.zeroValue220
 t46:=Tryz.underlying221
 a46:=Tryz.isAgg221
 z46:=Tryz.sizeOf221
 v46:=Tryz.zeroValue221
 t50:=Tryz.underlying225
 a50:=Tryz.isAgg225
 z50:=Tryz.sizeOf225
 v50:=Tryz.zeroValue225
 t53:=Tryz.underlying84
 a53:=Tryz.isAgg84
 z53:=Tryz.sizeOf84
 v53:=Tryz.zeroValue84
 t55:=Tryz.underlying228
 a55:=Tryz.isAgg228
 z55:=Tryz.sizeOf228
 v55:=Tryz.zeroValue228
 t66:=Tryz.underlying253
 a66:=Tryz.isAgg253
 z66:=Tryz.sizeOf253
 v66:=Tryz.zeroValue253
 t70:=Tryz.underlying257
 a70:=Tryz.isAgg257
 z70:=Tryz.sizeOf257
 v70:=Tryz.zeroValue257
 t76:=Tryz.underlying276
 a76:=Tryz.isAgg276
 z76:=Tryz.sizeOf276
 v76:=Tryz.zeroValue276
 t77:=Tryz.underlying109
 a77:=Tryz.isAgg109
 z77:=Tryz.sizeOf109
 v77:=Tryz.zeroValue109}
end Go.Proofs
namespace Go.Proofs.YtlidjlacmpaefaaGreatDoor
open Go PI
set_option maxRecDepth 100000
noncomputable section
def De:Nat:=37
noncomputable def rJ {S:Type}:List PU->List (Box UU)->(Out UU->Option S)->Option S
 |[],[],κ=>rf fun r=>κ (.ret (.bool r) [])
 |_,_,_=> .none
noncomputable def rK {S:Type}:List PU->List (Box UU)->(Out UU->Option S)->Option S
 |[.sl .C y0 .none],[],κ=>jP y0 fun r=>κ (.ret (bm r .none) [])
 |_,_,_=> .none
end
end Go.Proofs.YtlidjlacmpaefaaGreatDoor
namespace Go.Proofs.YtlidjlacmpaefaaGreatDoor
open Go Go.Shelf Go.RowKit
attribute [local go_sem] Oper.semAt_some
def Fw:Code:=(Code.region 3 #[{dst:=some 4,op:=Op.assign (Operand.tmp 7),type:=3,pos:= "mask.go:57",after:= #[],guard:=none}] false)
def Fy:Code:=(Code.block 1 (Code.region 4 #[{dst:=some 8,op:=Op.load 189 (Operand.tmp 3),type:=189,pos:= "mask.go:58",after:= #[],guard:=none},{dst:=some 9,op:=Op.move (Operand.tmp 4),type:=3,pos:= "mask.go:58",after:= #[],guard:=none},{dst:=some 10,op:=Op.buildSlice 189 1 #[(0,Operand.tmp 9)],type:=189,pos:= "mask.go:58",after:= #[{on:=1,ground:=Ground.data}],guard:=none},{dst:=some 11,op:=Op.call {callee:=Callee.builtin Builtin.append,args:= #[Operand.tmp 8,Operand.tmp 10],argTypes:= #[189,189]},type:=189,pos:= "mask.go:58",after:= #[{on:=0,ground:=Ground.data},{on:=2,ground:=Ground.data}],guard:=none},{dst:=none,op:=Op.store 189 (Operand.tmp 3) (Operand.tmp 11),type:=0,pos:= "mask.go:58",after:= #[{on:=3,ground:=Ground.data},{on:=3,ground:=Ground.chain},{on:=0,ground:=Ground.phase},{on:=1,ground:=Ground.phase},{on:=2,ground:=Ground.phase},{on:=3,ground:=Ground.phase}],guard:=none}] false))
def Fz (fn:FuncId) (s0:Int) (fv:Value) (Bo D:Nat) (st:LoopState) (pend:Option Code):Loop:=
 {state:=st,pending:=pend,fn,tmps:= #[.int .u32 s0,undef,.slice none 0 0,.pointer (some ⟨Bo,0,none⟩),undef,.int .u32 s0,fv,undef,undef,undef,undef,undef,undef],params:= #[7],assign:=Fw,body:=Fy,defers:=D}
def C_ (x:Nat):Value:= .int .i64 (x:Int)
structure LsAt (w0:World) (fn:FuncId) (s0:Int) (fv:Value) (Bo l D:Nat) (ss:List Nat) (W:World):Prop where
 box: ∃v,W.heap[Bo]? =some (.cells #[v] 189 (0,0))/\W.ownsRow w0.heap.size 3 1 v ss.length (ss.map C_)
 L:W.heap[l]? =some (.loop (Fz fn s0 fv Bo D .ready none))
 K:W.heap[D]? =some (.deferred (some []))
 below:Below w0.heap.size w0 W
end Go.Proofs.YtlidjlacmpaefaaGreatDoor
namespace Go.Proofs.YtlidjlacmpaefaaGreatDoor
open Go PI Go.Shelf Go.RowKit
set_option maxRecDepth 100000
def aw (o:Obj):Prop:= ∃ (cur:Array Value) (e:TypeId) (fr:Nat×Nat),o= .cells cur e fr/\ ∀j,j<Lib.deBruijn32tab.length->cur[j]? =some (.int .u8 (Lib.deBruijn32tab.getD j 0))
open Go.Sort
def g9 (a b:Int):Int:=if a<b then-1 else if b<a then 1 else 0
def fc (x y:Cl):Int:=if x.pos=y.pos then g9 x.neg y.neg else g9 x.pos y.pos
def dv (x:Cl):List Value:=[.int .u32 x.pos,.int .u32 x.neg]
theorem qm (a:Int) (W:World):Calls Tryz.prog 220 #[.int .u32 a] W fun e w'=>e= .returned (.bool false)/\w'=W:=by
 go_enter Tryz.func220,Tryz.ntmps220
 go_wp2
 go_ret
 exact ⟨by simp,rfl⟩
set_option maxHeartbeats 1000000 in
theorem uj (a b:Int) (W:World):Calls Tryz.prog 147 #[.int .u32 a,.int .u32 b] W fun e w'=>e= .returned (.int .i64 (g9 a b))/\w'=W:=by
 unfold g9
 by_cases h1:a<b
 ·rw [if_pos h1]
  go_enter Tryz.func147,Tryz.ntmps147
  go_wp2_with (go_at_call 220;refine (qm _ _).mono ?_;rintro e w' ⟨rfl,rfl⟩)
  go_ret
  exact ⟨rfl,rfl⟩
 ·rw [if_neg h1]
  by_cases h2:b<a
  ·rw [if_pos h2]
   go_enter Tryz.func147,Tryz.ntmps147
   go_wp2_with (go_at_call 220;refine (qm _ _).mono ?_;rintro e w' ⟨rfl,rfl⟩)
   go_ret
   exact ⟨rfl,rfl⟩
  ·rw [if_neg h2]
   go_enter Tryz.func147,Tryz.ntmps147
   go_wp2_with (go_at_call 220;refine (qm _ _).mono ?_;rintro e w' ⟨rfl,rfl⟩)
   go_ret
   exact ⟨rfl,rfl⟩
set_option maxHeartbeats 1000000 in
theorem BJ (x y:Cl) (W:World):Calls Tryz.prog 114 #[.agg (dv x).toArray,.agg (dv y).toArray] W fun e w'=>e= .returned (.int .i64 (fc x y))/\ ∃q os',w'=grow (W.drewN q) os':=by
 obtain ⟨a,b⟩:=x
 obtain ⟨a',b'⟩:=y
 have h1:=uj a a'
 have h2:=uj b b'
 unfold fc
 simp only [dv]
 generalize g9 a a'=r1 at h1 ⊢
 generalize g9 b b'=r2 at h2 ⊢
 by_cases h:a=a'
 ·rw [if_pos h]
  go_enter Tryz.func114,Tryz.ntmps114
  go_wp2_with (go_at_call 147;refine (h2 _).mono ?_;rintro e w' ⟨rfl,rfl⟩)
  go_ret
  exact ⟨rfl,0,_,by rw [alloc_eq_grow,alloc_eq_grow,grow_grow];rfl⟩
 ·rw [if_neg h]
  go_enter Tryz.func114,Tryz.ntmps114
  go_wp2_with (go_at_call 147;refine (h1 _).mono ?_;rintro e w' ⟨rfl,rfl⟩)
  go_ret
  exact ⟨rfl,0,_,by rw [alloc_eq_grow,alloc_eq_grow,grow_grow];rfl⟩
theorem ly (x y:Cl):ltOf fc x y=(decide (x.pos<y.pos)||(decide (x.pos=y.pos)&&decide (x.neg<y.neg))):=by
 have h:fc x y<0↔(x.pos<y.pos\/x.pos=y.pos/\x.neg<y.neg):=by
  unfold fc g9
  split<;>split<;>first|omega|(split<;>omega)
 rw [Bool.eq_iff_iff]
 simp only [ltOf,decide_eq_true_eq,Bool.or_eq_true,aj]
 exact h
theorem Is:SWO (ltOf fc) where
 irrefl x:=by rw [ly];simp
 trans x y z h1 h2:=by rw [ly] at*;simp at*;omega
 ntrans x y z h1 h2:=by rw [ly] at*;simp at*;omega
theorem IZ (x y:Cl) (h1:ltOf fc x y=false) (h2:ltOf fc y x=false):x=y:=by
 rw [ly] at*;simp at*
 obtain ⟨a,b⟩:=x
 obtain ⟨a',b'⟩:=y
 simp at*
 omega
theorem DA:(fun x y:Cl=> !ltOf fc y x)=gm:=by
 funext x y
 rw [ly,Bool.eq_iff_iff]
 simp [gm]
 omega
instance:Inhabited Cl:=⟨⟨0,0⟩⟩
theorem Ig (b c:Nat) (d:List Cl) (w:World) (hH:HoldsK dv 2 w b 0 d.toArray) (hb:b<w.heap.size) (hsz:d.length<4611686018427387904):
  Calls Tryz.prog 113 #[.slice (some ⟨b,0,none⟩) d.length c,.func (.func 114) #[] #[]] w fun e w'=>e= .returned (.tuple #[])/\ ∃n os,w'=sortWorldK dv 2 w b 0 n (sortCl d).toArray os:=by
 have eg: ∀args w,(callFunc 114 args).run Tryz.prog w= .ok (.enter 114 args) w:=enters_of Tryz.func114 (by kernel_rfl) rfl
 have h:=AnyQ.slices_SortFunc_total Tryz.sortCl 2 Tryz.isAgg86 Tryz.sizeOf86 dv (fun _=>rfl) (fun x v hv=>by simp [dv] at hv;rcases hv with rfl|rfl<;>rfl) fc Is 114 #[] b 0 c d.toArray w eg (fun _ _ _ _ x y=>BJ x y _) hH hb hsz IZ
 rw [DA] at h
 exact h
theorem Ih (p:Option Addr) (c:Nat) (w:World):Calls Tryz.prog 113 #[.slice p 0 c,.func (.func 114) #[] #[]] w fun e w'=>e= .returned (.tuple #[])/\w'=w:=
 AnyF.slices_SortFunc_none Tryz.sortCl p c _ w
theorem If {m:Nat} {d:Array Cl} {os:Array Obj} {w:World} {b k:Nat} (hk:k<w.heap.size) (hne:k≠b):(sortWorldK dv 2 w b 0 m d os).heap[k]? =w.heap[k]? :=by
 unfold sortWorldK putRowK putRow mapBlock
 rw [heap_grow_old _ _ (by simpa [ahead] using hk)]
 show (w.heap.modify b _)[k]? =_
 rw [Array.getElem?_modify,if_neg (Ne.symm hne)]
theorem Ie {m:Nat} {d:Array Cl} {os:Array Obj} {w:World} {b:Nat} {cur:Array Value} {e:TypeId} {fr:Nat×Nat} (h:w.heap[b]? =some (.cells cur e fr)):
  (sortWorldK dv 2 w b 0 m d os).heap[b]? =some (.cells (putCells id 0 (flatK dv 2 d) cur) e fr):=by
 have hb:b<w.heap.size:=(Array.getElem?_eq_some_iff.1 h).1
 unfold sortWorldK putRowK putRow mapBlock
 rw [heap_grow_old _ _ (by simpa [ahead] using hb)]
 show (w.heap.modify b _)[b]? =_
 rw [Array.getElem?_modify,if_pos rfl,h];rfl
theorem BH (x:Cl) {k:Nat} {p:PU} (hp:(dh .C x)[k]? =some p):k<2/\ ∀ (X:Link VV Tryz.prog) (w:World) (N:az) (g:Gh UU),Rep X w N g (dv x)[k]! p:=by
 match k,hp with
 |0,hp=>cases hp;exact ⟨by omega,fun X w N g=> .int _ _⟩
 |1,hp=>cases hp;exact ⟨by omega,fun X w N g=> .int _ _⟩
 |k+2,hp=>simp [dh] at hp
theorem DH {w:World} {b c:Nat} {l:List Cl} {cur:Array Value} {e:TypeId} (hb:w.heap[b]? =some (.cells cur e (0,0))) (hs:cur.size=c*2) (hl:l.length<=c) (h: ∀ (j:Nat) (x:Cl),l[j]? =some x-> ∀k,k<2->w.cell? ⟨b,j*2+k,none⟩=some (dv x)[k]!):HoldsK dv 2 w b 0 l.toArray:=by
 intro t ht
 rw [size_flatK] at ht
 have ht':t<l.length*2:=by simpa using ht
 have hj:t/2<l.length:=by omega
 have hx:l[t/2]? =some l.toArray[t/2]! :=by simp [hj]
 refine ⟨?_, ?_⟩
 ·rw [get_flatK _ _ _ _ ht]
  have:=h _ _ hx (t%2) (Nat.mod_lt _ (by omega))
  rw [b8]
  rw [show t/2*2+t%2=t by omega] at this
  exact this
 ·simp [World.frozen?,hb]
theorem DL {f:Nat} {ps:List PU} {l l':List Cl} (h:qi f ps l=some l'):f=113/\ps=[.func 114 [] []]/\l'=sortCl l:=by
 unfold qi at h
 split at h
 ·injection h with h
  exact ⟨rfl,rfl,h.symm⟩
 ·cases h
theorem jt (o:Obj):gh (LL o):=by
 intro f ps e l l' h
 have hi:u5 f ps e l=some l':=h
 clear h
 cases e with
 |T=>cases hi
 |B=>cases hi
 |I=>cases hi
 |F=>cases hi
 |D=>cases hi
 |G=>cases hi
 |K=>cases hi
 |R=>cases hi
 |C=>
 obtain ⟨rfl,rfl,rfl⟩:=DL hi
 refine ⟨⟨Tryz.f113,Tryz.func113,by kernel_rfl,rfl⟩,fun w vs N0 δ ο hg hδ=> ?_⟩
 have hs:vs.size=2:=hg.size
 obtain ⟨v0,v1,rfl⟩: ∃v0 v1,vs= #[v0,v1]:=by
  obtain ⟨l⟩:=vs
  match l,hs with
  |[v,v'],_=>exact ⟨v,v',rfl⟩
 have h0:ObOK (LL o) w (NB N0 0 (fun _=>0) δ) (gB UU 0 fun _=>0) ET.C l v0 .wr (δ 0):=hg.args 0 _ rfl
 have h1:Rep (LL o) w (NB N0 0 (fun _=>0) δ) (gB UU 0 fun _=>0) v1 (.func 114 [] []):=hg.args 1 _ rfl
 cases h1 with
 |func _ _ _ xs ys ha hb _ _=>
 have ha':xs= #[]:=by simpa using ha
 have hb':ys= #[]:=by simpa using hb
 subst ha';subst hb'
 obtain ⟨A,n,c,rfl,hl,hc,hcell,hm⟩:=h0.val
 have hl: @dH Cl l=n:=hl
 cases hD:δ 0 with
 |none=>
  rw [hD] at hm hcell
  obtain ⟨rfl,rfl,rfl⟩:=hm.1 rfl
  have:l=([]:List Cl):=List.length_eq_zero_iff.1 hl
  subst this
  refine (Ih none 0 w).mono ?_
  rintro e w' ⟨rfl,rfl⟩
  refine ⟨rfl,.refl _ _, ?_⟩
  rw [hD] at h0
  have:sortCl []=[]:=by simp [sortCl]
  rw [this]
  exact h0
 |some b=>
  rw [hD] at hm hcell
  obtain ⟨hu,cur,rfl,hblk,hsz,hmax⟩:=hm
  have hbl:b<w.heap.size:=(Array.getElem?_eq_some_iff.1 hblk).1
  have hcs:cur.size=c*2:=hsz
  have hH:HoldsK dv 2 w b 0 l.toArray:=DH hblk hcs (hl▸hc) fun j x hx k hk=>by
   have hp: ∃p,(dh ET.C x)[k]? =some p/\p= .int .u32 (if k=0 then x.pos else x.neg):=by
    match k,hk with
    |0,_=>exact ⟨_,rfl,rfl⟩
    |1,_=>exact ⟨_,rfl,rfl⟩
   obtain ⟨p,hp,hpe⟩:=hp
   obtain ⟨a,v,ha,hv,hr,_⟩:=hcell j x hx k p hp
   injection ha with ha
   subst ha
   subst hpe
   have hv':w.cell? ⟨b,j*2+k,none⟩=some v:=by
    have:(⟨b,0,none⟩:Addr).add (j*(LL o).esize ET.C+k)=⟨b,j*2+k,none⟩:=by
     rw [Addr.add_lit'];show (⟨b,0+(j*2+k),none⟩:Addr)=_;congr 1;omega
    rw [this] at hv;exact hv
   rw [hv']
   cases hr
   match k,hk with
   |0,_=>rfl
   |1,_=>rfl
  have hlt: @dH Cl l<4611686018427387904:=by
   have:n<=1099511627776:=hmax.2
   omega
  have hcall:=Ig b c l w hH hbl hlt
  have he:(.slice (some ⟨b,0,none⟩) (@dH Cl l) c:Value)= .slice (some ⟨b,0,none⟩) n c:=by rw [hl]
  rw [he] at hcall
  refine hcall.mono ?_
  rintro e w' ⟨rfl,m,os,rfl⟩
  have hlen:(sortCl l).length= @dH Cl l:=List.length_mergeSort _
  have hH':=holdsK_sortWorldK_c dv 2 w b 0 l.toArray (sortCl l).toArray m os hH hbl hlen
  refine ⟨rfl,⟨rfl,rfl,rfl,size_sortWorldK_c dv 2 w b 0 m _ os,fun k hk hne=>If hk fun e=>hne ?_⟩, ?_⟩
  ·subst e
   exact List.mem_append_right _ (List.mem_filterMap.2 ⟨0,by simp,hD⟩)
  ·refine ⟨_,n,c,rfl,hlen.trans hl,hc,fun j x hx k p hp=> ?_, ?_⟩
   ·obtain ⟨hk,hrep⟩:=BH x hp
    have hj:j<(sortCl l).length:=(bS.1 hx).1
    have:=(hH'.cell (i:=j) (c:=k) (by simpa using hj) hk).1
    have he:(sortCl l).toArray[j]! =x:=by
     have:=bS.1 hx
     rw [getElem!_pos _ j (by simpa using hj)];exact this.2
    rw [he] at this
    refine ⟨_,_,rfl, ?_,hrep _ _ _ _,fun h=>by cases h⟩
    have e:(⟨b,0,none⟩:Addr).add (j*(LL o).esize ET.C+k)=⟨b,0+j*2+k,none⟩:=by
     rw [Addr.add_lit'];show (⟨b,0+(j*2+k),none⟩:Addr)=_;congr 1;omega
    show World.cell? _ (Addr.add _ _)=_
    rw [e];exact this
   ·exact ⟨hu,_,rfl,Ie hblk,by simp [putCells];exact hcs,hmax⟩
end Go.Proofs.YtlidjlacmpaefaaGreatDoor
namespace Go.Proofs.YtlidjlacmpaefaaGreatDoor
open Go PI Go.ChangeShapes Go.WideShapes Go.ChangeAt Go.RowKit
set_option maxRecDepth 100000
theorem own:ownKnob Tryz.prog.godebug=none:=by kernel_rfl
theorem uU:Tryz.prog.globalNamed "math/bits.deBruijn32tab" =some 0:=by kernel_rfl
section
variable {H:Type} {enc:TypeId×Value->H}
structure Kept (W W':World):Prop where
 os:W'.os=W.os
 output:W'.output=W.output
 size:W.heap.size<=W'.heap.size
 block: ∀b,b<W.heap.size->W'.heap[b]? =W.heap[b]?
theorem Kept.sameAt {W W':World} (h:Kept W W') {p:MemPlace} (hp:p.block<W.heap.size):W.sameAt W' p:=by
 cases p with
 |cell b o=>simp only [World.sameAt,World.cell?];rw [h.block b hp]
 |map b=>exact h.block b hp
theorem Kept.kept {W W':World} (h:Kept W W') (may:MemPlace->Prop):W.keptBut W' may:=by
 refine ⟨h.os,h.output,fun i hi=> ?_⟩
 rw [h.block i hi]
 cases W.heap[i]? with
 |none=>rfl
 |some o=>cases o with
  |cells c t fr=>exact ⟨rfl,rfl,rfl,fun _ _=>rfl⟩
  |map es clock=>exact .inr ⟨rfl,rfl⟩
  |_=>rfl
theorem tt {W W':World} {sp:Nat->Bool} {held:Bool}: ∀ {ts:List TypeId} {vs:List Value} {ds:List (DataW H)} {ps:List MemPlace},
  DataW.TrodAll enc Tryz.prog W 0 sp held ts vs ds ps->(∀p∈ps,W.sameAt W' p)->DataW.TrodAll enc Tryz.prog W' 0 sp held ts vs ds ps
 |[],[],[],_,h,_=>h
 |_::_,_::_,_::_,_,⟨p,q,⟨n,h1⟩,h2,e⟩,hs=>
  ⟨p,q,⟨n,DataW.trod_carry n _ _ _ h1 fun x hx=>hs x (by rw [e];exact List.mem_append_left _ hx)⟩,tt h2 (fun x hx=>hs x (by rw [e];exact List.mem_append_right _ hx)),e⟩
theorem kids:Kids Tryz.prog (· <Tryz.prog.types.size):=kids_rows (by kernel_rfl) (by kernel_rfl)
theorem full: ∀t e,t<Tryz.prog.types.size->Tryz.prog.underlying t=some (.slice e)->0<Tryz.prog.cellsOf e:=slices_full_of Tryz.prog (by kernel_rfl)
theorem GG {f:Func} {s:ChangeSpec} (hv:s.vars=[]) {cQ fresh handsOn again:Bool} {W W':World} {args:Array Value} {ds gs:List (DataW H)} {before:List MemPlace} (hf:f.resultTypes= #[4])
  (hT: ∀t∈f.params.toList,t<Tryz.prog.types.size) (hs:s.fn H ds={results:=[.lit (.bool true)],args:=ds})
  (hW:DataW.Whole enc Tryz.prog f.params.toList s.vars cQ W args.toList ds gs before) (hk:Kept W W'):s.post enc Tryz.prog f cQ fresh handsOn again W args (.bool true) W':=by
 have hold: ∀p∈before,(fun b=>decide (b<W.heap.size)) p.block=true:=fun p hp=>by simpa using hW.lt p hp
 have hlt: ∀p∈before,p.block<W.heap.size:=fun p hp=>by simpa using hW.lt p hp
 have hW0:=hW
 obtain ⟨p,q,hA,hV,rfl,hz,hn⟩:=hW
 rw [hv] at hV
 obtain ⟨rfl,rfl⟩:=trodVars_none hV
 rw [ei] at hold hlt hz hn hW0
 have hs':s.fn H (ds++[])={results:=[.lit (.bool true)],args:=ds}:=by rw [ei];exact hs
 have hr:(Value.bool true).resultList f.resultTypes.size=[.bool true]:=by rw [hf];rfl
 have hres: ∀ (b:Nat) (sp:Nat->Bool) (hd:Bool),DataW.TrodAll enc Tryz.prog W' b sp hd f.resultTypes.toList ((Value.bool true).resultList f.resultTypes.size) (s.fn H (ds++[])).results []:=fun b sp hd=>by
  rw [hr,hs',hf]
  exact trodAll_cons_mk (shut_bool Tryz.underlying4 _) trodAll_mk0
 have hargs: ∀sp:Nat->Bool,(∀p'∈p,sp p'.block=true)->DataW.TrodAll enc Tryz.prog W' 0 sp true f.params.toList args.toList (s.fn H (ds++[])).args p:=fun sp hsp=>by
  rw [hs']
  exact DataW.TrodAll.respare kids full hT (tt hA fun x hx=>hk.sameAt (hlt x hx)) hsp
 have hvars: ∀sp:Nat->Bool,DataW.TrodVars enc Tryz.prog W' sp s.vars (s.fn H (ds++[])).vars []:=fun sp=>by rw [hv,hs'];rfl
 refine ⟨ds,[],p,[],p,[],hW0,hres _ _ _,hargs _ hold,hvars _,World.keptBut_mono (fun p' hp=>hp.elim) (hk.kept fun _=>False),fun _=> ?_⟩
 refine ⟨fun j t r h1 h2=> ?_,_,_,([]++p)++[],⟨[]++p,[],trodAll_append (hargs _ (fun _ _=>rfl)) (hres _ _ _),hvars _,rfl, ?_, ?_⟩, ?_⟩
 ·rw [hf] at h1
  rw [hr] at h2
  match j,h1,h2 with
  |0,h1,h2=>cases h1;cases h2;exact okWide_bool_mk Tryz.underlying4 _
  |j+1,h1,h2=>simp at h2
 ·intro b off hp
  have hp':MemPlace.cell b off∈p:=by simpa using hp
  have:=hz b off hp'
  simp only [World.frozen?] at this ⊢
  rw [hk.block b (hlt _ hp')]
  exact this
 ·intro ha
  have:=hn ha
  simpa using this
 ·intro p' hp _
  simpa using hp
variable {w:World} {spare:Nat->Bool} {held:Bool} {o:Obj} {N:az} {g:Gh UU}
theorem A4 {v:Value} {n:Nat} (h:v.cells.toList.length=n+2): ∃vs:Array Value,v= .agg vs/\vs.toList=v.cells.toList:=by
 cases v with
 |agg vs=>exact ⟨vs,rfl,rfl⟩
 |_=>simp [Value.cells] at h
theorem Bg (hN: ∀b o,¬N b o) {v:Value} {d:DataW H} {ps:List MemPlace} (h:DataW.Trod enc Tryz.prog w 0 spare held 27 v d ps): ∃t:Tm,Rep (LL o) w N g v (.agg (dh ET.T t))/\QT t d:=by
 obtain ⟨n,hn⟩:=h
 obtain ⟨t,hr,hq⟩:=(wt (o:=o) (g:=g) hN n).1 _ _ _ hn
 obtain ⟨_,_,_,_,hl,_,_⟩:=DataW.trod_struct Tryz.underlying27 hn
 have hl6:v.cells.toList.length=6:=hl.trans (by kernel_rfl)
 obtain ⟨vs,rfl,hvs⟩:=A4 (n:=4) hl6
 refine ⟨t,Rep.agg (X:=LL o) vs (dh ET.T t) (by rw [<-Array.length_toList,hvs,hl6];rfl) fun j p hp=> ?_,hq⟩
 obtain ⟨v',hv',hr'⟩:=hr j p hp
 have:vs.getD j undef=v':=by
  have h2:vs[j]? =some v':=by rw [<-Array.getElem?_toList,hvs];exact hv'
  rw [ct,h2];rfl
 rw [this];exact hr'
theorem DC {o:Obj} {W:World} (h0:W.heap[0]? =some o) {vs:Array Value} {ps:List PU} (hs:vs.size=ps.length) (hp:ps.all PV.notFresh=true)
  (h: ∀ (j:Nat) p,ps[j]? =some p->Rep (LL o) W (NB (fun _ _=>False) 0 (fun _=>0) fun _=>none) (gB UU 0 fun _=>0) (vs.getD j undef) p):Given (LL o) W vs (fun _ _=>False) (fun _=>0) (fun _=>none) (fun _=> #[]) ps [] where
 bnd:=⟨fun i j hi=>absurd hi (Nat.not_lt_zero i),fun i hi=>absurd hi (Nat.not_lt_zero i),fun j b h=>(by cases h),fun i j b h=>(by cases h),fun j b h=>(by cases h),fun b o h=>h.elim⟩
 size:=hs
 dom:=fun j b h=>by cases h
 glob:=fun b o' hb=>by
  simp [LL] at hb
  obtain ⟨rfl,rfl⟩:=hb
  exact ⟨h0,fun i hi=>absurd hi (Nat.not_lt_zero i),fun j h=>by cases h⟩
 args:=fun j p hj=>RepG.of (h j p hj)
 boxes:=fun k b h=>by simp at h
 oz:=fun _ _=>rfl
theorem nX: ∀b o,¬NB (fun _ _=>False) 0 (fun _=>0) (fun _=>none) b o:=by
 rintro b o (h|⟨k,hk,_⟩|⟨j,h⟩)
 ·exact h
 ·exact absurd hk (Nat.not_lt_zero k)
 ·cases h
theorem Bw {o:Obj} {f:FuncId} {ps:List PU} (hok:bL (LL o) f ps [] (.ret (.bool true) [])) {W:World} {vs:Array Value} (hg:Given (LL o) W vs (fun _ _=>False) (fun _=>0) (fun _=>none) (fun _=> #[]) ps []):
  Calls Tryz.prog f vs W fun e W'=>e= .returned (.bool true)/\Kept W W':=by
 refine (hok.2 W vs _ _ _ _ hg).mono ?_
 rintro e W' he
 cases e with
 |returned rv=>
  obtain ⟨ν',δ',hb,hr⟩:=he
  have hr:Rep (LL o) W' _ _ rv (.bool true):=hr
  cases hr
  refine ⟨rfl,hb.ext.os,hb.ext.output,hb.ext.size,fun b hb'=>hb.ext.block b hb' fun hm=> ?_⟩
  simp [iz] at hm
 |panicked ch=>exact he.elim
 |outgrown=>exact he.elim
theorem IK {H:Type}:(Rows.laid_math_bits_deBruijn32tab:DataW H)=Lib.tabData .u8 (Lib.deBruijn32tab.map fun n:Nat=>(n:Int)):=rfl
theorem IL {W:World} (h:laidMetH Tryz.prog [("math/bits.deBruijn32tab",Rows.laid_math_bits_deBruijn32tab)] W): ∃o,aw o/\W.heap[0]? =some o:=by
 have h':laidMet Tryz.prog [("math/bits.deBruijn32tab",Rows.laid_math_bits_deBruijn32tab)] W:=h
 rw [IK] at h'
 have ht:Lib.TabIs Tryz.prog W "math/bits.deBruijn32tab" .u8 (Lib.deBruijn32tab.map fun n:Nat=>(n:Int)):=
  Lib.tabIs_of_head (rest:=[]) uU (by kernel_rfl) Tryz.underlying278 Tryz.underlying5 (by kernel_rfl) (by kernel_rfl) h'
 have hc: ∀j,j<Lib.deBruijn32tab.length->W.cell? ⟨0,j,none⟩=some (.int .u8 (Lib.deBruijn32tab.getD j 0:Nat)):=fun j hj=>by
  rw [ht.cell uU j (by simpa using hj)]
  simp [List.getD,hj]
 have h0:=hc 0 (by decide)
 cases hh:W.heap[0]? with
 |none=>simp [World.cell?,hh] at h0
 |some o=>
  cases o with
  |cells cur e fr=>
   refine ⟨_,⟨cur,e,fr,rfl,fun j hj=> ?_⟩,rfl⟩
   have:=hc j hj
   simpa [World.cell?,hh] using this
  |_=>simp [World.cell?,hh] at h0
end
end Go.Proofs.YtlidjlacmpaefaaGreatDoor
namespace Go.Proofs.YtlidjlacmpaefaaGreatDoor
open Go PI
set_option maxRecDepth 100000
noncomputable section
abbrev Rw (S:Type):=List PU->List (Box UU)->(Out UU->Option S)->Option S
abbrev Kn (S:Type):=(Out UU->Option S)->Option S
noncomputable def iI (n:Int):PU:= .int .i64 n
noncomputable def iU (n:Int):PU:= .int .u32 n
noncomputable def pt (i:Nat):PU:= .ptr i 0
noncomputable def aT (t:Tm):PU:= .agg [.int .i64 t.kind,.int .i64 t.n,.str t.name,bm t.r .none,bQ t.kids .none,bZ t.sys .none]
noncomputable def aC (c:Cl):PU:= .agg [.int .u32 c.pos,.int .u32 c.neg]
noncomputable def aB (b:Br Tm):PU:= .agg [bm b.face .none,bQ b.kids .none]
noncomputable def bT (t:Tm):Box UU:= .cells [.int .i64 t.kind,.int .i64 t.n,.str t.name,bm t.r .none,bQ t.kids .none,bZ t.sys .none]
noncomputable def bC (c:Cl):Box UU:= .cells [.int .u32 c.pos,.int .u32 c.neg]
noncomputable def bI (n:Int):Box UU:= .cells [.int .i64 n]
noncomputable def bb (b:Bool):Box UU:= .cells [.bool b]
noncomputable def sC (l:List Cl):PU:=bm l .none
noncomputable def sT (l:List Tm):PU:=bQ l .none
noncomputable def sB (l:List (Br Tm)):PU:=bZ l .none
structure Cd where
 D:Type->Type
 k:{ρ:Type}->ρ->D ρ
 dec:{ρ:Type}->D ρ->PU->Option ρ
 A:{ρ:Type}->D ρ->(PU->ρ->Prop)->Prop
 law: ∀ {ρ:Type} (f:D ρ) (v:PU) (r:ρ) (Q:PU->ρ->Prop),A f Q->dec f v=some r->Q v r
structure Cs where
 D:Type->Type
 n:Nat
 k:{ρ:Type}->ρ->D ρ
 dec:{ρ:Type}->D ρ->List PU->Option ρ
 A:{ρ:Type}->D ρ->(List PU->ρ->Prop)->Prop
 law: ∀ {ρ:Type} (f:D ρ) (v:List PU) (r:ρ) (Q:List PU->ρ->Prop),A f Q->dec f v=some r->Q v r
 len: ∀ {ρ:Type} (f:D ρ) (v:List PU) (r:ρ),dec f v=some r->v.length=n
structure Bs where
 D:Type->Type
 n:Nat
 k:{ρ:Type}->ρ->D ρ
 dec:{ρ:Type}->D ρ->List (Box UU)->Option ρ
 A:{ρ:Type}->D ρ->(List (Box UU)->ρ->Prop)->Prop
 law: ∀ {ρ:Type} (f:D ρ) (v:List (Box UU)) (r:ρ) (Q:List (Box UU)->ρ->Prop),A f Q->dec f v=some r->Q v r
 len: ∀ {ρ:Type} (f:D ρ) (v:List (Box UU)) (r:ρ),dec f v=some r->v.length=n
noncomputable def cn:Cs where
 D ρ:=ρ
 n:=0
 k r:=r
 dec f:=fun|[]=>some f|_=> .none
 A f Q:=Q [] f
 law f v r Q h e:=by split at e<;>cases e;exact h
 len f v r e:=by split at e<;>cases e;rfl
noncomputable def cc (c:Cd) (s:Cs):Cs where
 D ρ:=c.D (s.D ρ)
 n:=s.n+1
 k r:=c.k (s.k r)
 dec f:=fun|v::l=>(c.dec f v).bind fun g=>s.dec g l|[]=> .none
 A f Q:=c.A f fun v g=>s.A g fun l r=>Q (v::l) r
 law f v r Q h e:=by
  split at e
  ·obtain ⟨g,h1,h2⟩:=gk.1 e
   have:=s.law g _ r _ (c.law f _ g _ h h1) h2;exact this
  ·cases e
 len f v r e:=by
  split at e
  ·obtain ⟨g,h1,h2⟩:=gk.1 e
   simp [s.len g _ r h2]
  ·cases e
noncomputable def xn:Bs where
 D ρ:=ρ
 n:=0
 k r:=r
 dec f:=fun|[]=>some f|_=> .none
 A f Q:=Q [] f
 law f v r Q h e:=by split at e<;>cases e;exact h
 len f v r e:=by split at e<;>cases e;rfl
noncomputable def xc (c:Cs) (s:Bs):Bs where
 D ρ:=c.D (s.D ρ)
 n:=s.n+1
 k r:=c.k (s.k r)
 dec f:=fun| .cells v::l=>(c.dec f v).bind fun g=>s.dec g l|_=> .none
 A f Q:=c.A f fun v g=>s.A g fun l r=>Q (.cells v::l) r
 law f v r Q h e:=by
  split at e
  ·obtain ⟨g,h1,h2⟩:=gk.1 e
   have:=s.law g _ r _ (c.law f _ g _ h h1) h2;exact this
  ·cases e
 len f v r e:=by
  split at e
  ·obtain ⟨g,h1,h2⟩:=gk.1 e
   simp [s.len g _ r h2]
  ·cases e
noncomputable def cI:Cd where
 D ρ:=Int->ρ
 k r:=fun _=>r
 dec f:=fun| .int .i64 n=>some (f n)|_=> .none
 A f Q:= ∀n:Int,Q (iI n) (f n)
 law f v r Q h e:=by split at e<;>cases e;exact h _
noncomputable def cU:Cd where
 D ρ:=Int->ρ
 k r:=fun _=>r
 dec f:=fun| .int .u32 n=>some (f n)|_=> .none
 A f Q:= ∀n:Int,Q (iU n) (f n)
 law f v r Q h e:=by split at e<;>cases e;exact h _
noncomputable def cN (kd:IntKind):Cd where
 D ρ:=Int->ρ
 k r:=fun _=>r
 dec f:=fun| .int q n=>(match decEq q kd with| .isTrue _=>some (f n)| .isFalse _=> .none)|_=> .none
 A f Q:= ∀n:Int,Q (.int kd n) (f n)
 law f v r Q h e:=by
  split at e
  ·split at e
   ·rename_i hq _;subst hq;cases e;exact h _
   ·cases e
  ·cases e
noncomputable def cb:Cd where
 D ρ:=Bool->ρ
 k r:=fun _=>r
 dec f:=fun| .bool n=>some (f n)|_=> .none
 A f Q:= ∀n:Bool,Q (.bool n) (f n)
 law f v r Q h e:=by split at e<;>cases e;exact h _
noncomputable def cs:Cd where
 D ρ:=ByteArray->ρ
 k r:=fun _=>r
 dec f:=fun| .str n=>some (f n)|_=> .none
 A f Q:= ∀n:ByteArray,Q (.str n) (f n)
 law f v r Q h e:=by split at e<;>cases e;exact h _
noncomputable def lC:Cd where
 D ρ:=List Cl->ρ
 k r:=fun _=>r
 dec f:=fun| .sl .C n .none=>some (f n)|_=> .none
 A f Q:= ∀n:List Cl,Q (sC n) (f n)
 law f v r Q h e:=by split at e<;>cases e;exact h _
noncomputable def lT:Cd where
 D ρ:=List Tm->ρ
 k r:=fun _=>r
 dec f:=fun| .sl .T n .none=>some (f n)|_=> .none
 A f Q:= ∀n:List Tm,Q (sT n) (f n)
 law f v r Q h e:=by split at e<;>cases e;exact h _
noncomputable def lB:Cd where
 D ρ:=List (Br Tm)->ρ
 k r:=fun _=>r
 dec f:=fun| .sl .B n .none=>some (f n)|_=> .none
 A f Q:= ∀n:List (Br Tm),Q (sB n) (f n)
 law f v r Q h e:=by split at e<;>cases e;exact h _
noncomputable def lF:Cd where
 D ρ:=List (List Cl)->ρ
 k r:=fun _=>r
 dec f:=fun| .sl .F n .none=>some (f n)|_=> .none
 A f Q:= ∀n:List (List Cl),Q (cL n .none) (f n)
 law f v r Q h e:=by split at e<;>cases e;exact h _
noncomputable def lD:Cd where
 D ρ:=List Df->ρ
 k r:=fun _=>r
 dec f:=fun| .sl .D n .none=>some (f n)|_=> .none
 A f Q:= ∀n:List Df,Q (cr n .none) (f n)
 law f v r Q h e:=by split at e<;>cases e;exact h _
noncomputable def lG:Cd where
 D ρ:=List Df->ρ
 k r:=fun _=>r
 dec f:=fun| .sl .G n .none=>some (f n)|_=> .none
 A f Q:= ∀n:List Df,Q (f_ n .none) (f n)
 law f v r Q h e:=by split at e<;>cases e;exact h _
noncomputable def cD:Cd where
 D ρ:=Df->ρ
 k r:=fun _=>r
 dec f:=fun| .agg [.str s,.int .i64 a,.int .i64 b,.str c,.sl .C d .none,.sl .T e .none,.sl .B g .none]=>some (f ⟨s,Tm.mk a b c d e g⟩)|_=> .none
 A f Q:= ∀t:Df,Q (.agg (pC t)) (f t)
 law f v r Q h e:=by split at e<;>cases e;exact h (⟨_,Tm.mk _ _ _ _ _ _⟩)
noncomputable def lK:Cd where
 D ρ:=List Tm->ρ
 k r:=fun _=>r
 dec f:=fun| .sl .K n .none=>some (f n)|_=> .none
 A f Q:= ∀n:List Tm,Q (de n .none) (f n)
 law f v r Q h e:=by split at e<;>cases e;exact h _
noncomputable def cz:Cd where
 D ρ:=ρ
 k r:=r
 dec f:=fun| .psl 0 1 [] true=>some f|_=> .none
 A f Q:=Q (.psl 0 1 [] true) f
 law f v r Q h e:=by split at e<;>cases e;exact h
noncomputable def hC:Cd where
 D ρ:=List Cl->ρ
 k r:=fun _=>r
 dec f:=fun| .fresh .C n=>some (f n)|_=> .none
 A f Q:= ∀n:List Cl,Q (Ds n) (f n)
 law f v r Q h e:=by split at e<;>cases e;exact h _
noncomputable def hT:Cd where
 D ρ:=List Tm->ρ
 k r:=fun _=>r
 dec f:=fun| .fresh .T n=>some (f n)|_=> .none
 A f Q:= ∀n:List Tm,Q (Dt n) (f n)
 law f v r Q h e:=by split at e<;>cases e;exact h _
noncomputable def hB:Cd where
 D ρ:=List (Br Tm)->ρ
 k r:=fun _=>r
 dec f:=fun| .fresh .B n=>some (f n)|_=> .none
 A f Q:= ∀n:List (Br Tm),Q (Dr n) (f n)
 law f v r Q h e:=by split at e<;>cases e;exact h _
noncomputable def cT:Cd where
 D ρ:=Tm->ρ
 k r:=fun _=>r
 dec f:=fun| .agg [.int .i64 a,.int .i64 b,.str c,.sl .C d .none,.sl .T e .none,.sl .B g .none]=>some (f (Tm.mk a b c d e g))|_=> .none
 A f Q:= ∀t:Tm,Q (aT t) (f t)
 law f v r Q h e:=by split at e<;>cases e;exact h (Tm.mk _ _ _ _ _ _)
noncomputable def cC:Cd where
 D ρ:=Cl->ρ
 k r:=fun _=>r
 dec f:=fun| .agg [.int .u32 a,.int .u32 b]=>some (f ⟨a,b⟩)|_=> .none
 A f Q:= ∀t:Cl,Q (aC t) (f t)
 law f v r Q h e:=by split at e<;>cases e;exact h (⟨_,_⟩)
noncomputable def cB:Cd where
 D ρ:=Br Tm->ρ
 k r:=fun _=>r
 dec f:=fun| .agg [.sl .C a .none,.sl .T b .none]=>some (f (Br.mk a b))|_=> .none
 A f Q:= ∀t:Br Tm,Q (aB t) (f t)
 law f v r Q h e:=by split at e<;>cases e;exact h (Br.mk _ _)
noncomputable def xC (s:Bs):Bs where
 D ρ:=Cl->s.D ρ
 n:=s.n+1
 k r:=fun _=>s.k r
 dec f:=fun| .cells [.int .u32 a,.int .u32 b]::l=>s.dec (f ⟨a,b⟩) l|_=> .none
 A f Q:= ∀t:Cl,s.A (f t) fun l r=>Q (bC t::l) r
 law f v r Q h e:=by
  split at e
  ·have:=s.law _ _ r _ (h (⟨_,_⟩)) e;exact this
  ·cases e
 len f v r e:=by
  split at e
  ·simp [s.len _ _ r e]
  ·cases e
noncomputable def xI (s:Bs):Bs where
 D ρ:=Int->s.D ρ
 n:=s.n+1
 k r:=fun _=>s.k r
 dec f:=fun| .cells [.int .i64 a]::l=>s.dec (f a) l|_=> .none
 A f Q:= ∀t:Int,s.A (f t) fun l r=>Q (bI t::l) r
 law f v r Q h e:=by
  split at e
  ·have:=s.law _ _ r _ (h _) e;exact this
  ·cases e
 len f v r e:=by
  split at e
  ·simp [s.len _ _ r e]
  ·cases e
noncomputable def cp (i:Nat):Cd where
 D ρ:=ρ
 k r:=r
 dec f:=fun| .ptr j 0=>(match decEq j i with| .isTrue _=>some f| .isFalse _=> .none)|_=> .none
 A f Q:=Q (pt i) f
 law f v r Q h e:=by
  split at e
  ·split at e
   ·rename_i hq _;subst hq;cases e;exact h
   ·cases e
  ·cases e
noncomputable def cg (s:Cs):Cd where
 D ρ:=s.D ρ
 k r:=s.k r
 dec f:=fun| .agg l=>s.dec f l|_=> .none
 A f Q:=s.A f fun l r=>Q (.agg l) r
 law f v r Q h e:=by
  split at e
  ·have:=s.law f _ r _ h e;exact this
  ·cases e
noncomputable def cf (i:Nat) (s:Cs) (u:Cs):Cd where
 D ρ:=s.D (u.D ρ)
 k r:=s.k (u.k r)
 dec f:=fun| .func j l m=>(match decEq j i with| .isTrue _=>(s.dec f l).bind fun g=>u.dec g m| .isFalse _=> .none)|_=> .none
 A f Q:=s.A f fun l g=>u.A g fun m r=>Q (.func i l m) r
 law f v r Q h e:=by
  split at e
  ·split at e
   ·rename_i hq _
    subst hq
    obtain ⟨g,h1,h2⟩:=gk.1 e
    have:=u.law g _ r _ (s.law f _ g _ h h1) h2;exact this
   ·cases e
  ·cases e
noncomputable def aA {S:Type} (K:Cs) (B:Bs) (F:K.D (B.D (Kn S))):Rw S:=fun vs bs κ=>(K.dec F vs).bind fun g=>(B.dec g bs).bind fun h=>h κ
noncomputable def AA {S:Type} (K:Cs) (B:Bs) (F:K.D (B.D (Kn S))) (Q:List PU->List (Box UU)->Kn S->Prop):Prop:=K.A F fun vs g=>B.A g fun bs h=>Q vs bs h
theorem qU {S:Type} {K:Cs} {B:Bs} {F:K.D (B.D (Kn S))} {Q:List PU->List (Box UU)->Kn S->Prop} (hA:AA K B F Q) {vs:List PU} {bs:List (Box UU)} {κ:Out UU->Option S} {x:S} (h:aA K B F vs bs κ=some x):
  ∃g,Q vs bs g/\g κ=some x/\vs.length=K.n/\bs.length=B.n:=by
 obtain ⟨g,h1,h2⟩:=gk.1 h
 obtain ⟨u,h3,h4⟩:=gk.1 h2
 have:=K.law F vs g _ hA h1
 have:=B.law g bs u _ this h3
 exact ⟨u,this,h4,K.len _ _ _ h1,B.len _ _ _ h3⟩
noncomputable def Tl {S:Type} (o:Obj) (f:Nat) (r:Rw S):Prop:= ∀vs bs κ x,r vs bs κ=some x-> ∃out,bL (LL o) f vs bs out/\κ out=some x
noncomputable def lO {S:Type}:List (Nat×Rw S)->Oracle UU S
 |[],_,_,_,_=> .none
 |(g,r)::l,f,vs,bs,κ=>bif ac f g then r vs bs κ else lO l f vs bs κ
noncomputable def TA {S:Type} (o:Obj):List (Nat×Rw S)->Prop
 |[]=>True
 |(f,r)::l=>Tl o f r/\TA o l
theorem TA.tells {S:Type} {o:Obj}: ∀ {l:List (Nat×Rw S)},TA o l->(lO l).Tells (bL (LL o))
 |[],_,f,vs,bs,κ,x,h=>by cases h
 |(g,r)::l,hl,f,vs,bs,κ,x,h=>by
  unfold lO at h
  cases hb:ac f g with
  |true=>
   rw [hb] at h
   have:=Nat.eq_of_beq_eq_true hb
   subst this
   exact hl.1 _ _ _ _ h
  |false=>
   rw [hb] at h
   exact TA.tells hl.2 _ _ _ _ _ h
structure Fx (S:Type) where
 sd:Side UU
 rows:List (Nat×Rw S)
 loops:List (Nat×Ann×List Bool)
 k:Nat
 fn:Func
 kp:Bool
 hn:List Bool
 nb:Nat
 cd:Option (PU->Oracle UU S)
noncomputable def tu:List (Nat×Ann×List Bool)->Nat->Option Ann
 |[],_=> .none
 |(i,a,_)::l,n=>bif ac n i then some a else tu l n
noncomputable def qH:List (Nat×Ann×List Bool)->Nat->Ann×List Bool
 |[],_=>(⟨[],[]⟩,[])
 |(i,a)::l,n=>bif ac n i then a else qH l n
noncomputable def bM (rs:List Nat) (bs:List (Nat×Nat)):Ann:=⟨rs.map fun n=>(n,.none),bs.map fun p=>(p.1,List.replicate p.2 .none)⟩
noncomputable def bk:Nat->Nat->List Bool
 |0,_=>[]
 |n+1,b=>ac (b%2) 1::bk n (b/2)
noncomputable def fx {S:Type} (nt:Nat) (gv:Nat->List Bool) (ip:Nat->Bool) (rows:List (Nat×Rw S)) (loops:List (Nat×Ann×List Bool)) (k:Nat) (fn:Func) (kp:Bool) (hn:List Bool) (nb:Nat):Fx S:=
 ⟨⟨nt,gv,ip,.none,fun _=>false,fun _=>false⟩,rows,loops,k,fn,kp,hn,nb,.none⟩
noncomputable def fp {S:Type} (nt:Nat) (rows:List (Nat×Rw S)) (loops:List (Nat×Ann×List Bool)) (k:Nat) (fn:Func) (nb:Nat):Fx S:=fx nt (fun _=>[]) (fun _=>false) rows loops k fn false [] nb
variable {S:Type}
noncomputable def Fx.oc (F:Fx S):Oracle UU S:=lO F.rows
noncomputable def Fx.an (F:Fx S):Nat->Option Ann:=tu F.loops
noncomputable def Fx.go (F:Fx S) (c:Code) (σ:St UU) (κ:Ex UU->St UU->Option S):Option S:=PI.run VV F.sd F.oc F.an F.k c σ κ
noncomputable def Fx.kt (F:Fx S) (κ:Out UU->Option S) (p:List Bool) (κs:List (St UU->Option S)):Ex UU->St UU->Option S:=match F.cd with
 | .none=>fS VV F.sd F.oc F.an F.k (er F.fn) p κs F.an (kF VV F.oc F.kp F.hn F.fn F.nb κ)
 |some C=>vm VV F.sd F.oc F.an F.k (er F.fn) p κs F.an (kF VV F.oc F.kp F.hn F.fn F.nb κ) (kD VV F.oc C F.kp F.hn F.fn F.nb κ)
noncomputable def Fx.run (F:Fx S) (vs:List PU) (bs:List (Box UU)) (κ:Out UU->Option S):Option S:=match F.cd with
 | .none=>jW VV F.sd F.oc F.an F.k F.kp F.hn F.fn vs bs κ
 |some C=>rM VV F.sd F.oc F.an F.k C F.kp F.hn F.fn vs bs κ
noncomputable def Fx.A (F:Fx S) (i:Nat):Ann:=(qH F.loops i).1
noncomputable def Fx.p (F:Fx S) (i:Nat):List Bool:=(qH F.loops i).2
noncomputable def Fx.lp (F:Fx S) (κ:Out UU->Option S) (i:Nat) (κs:List (St UU->Option S)) (n:Nat) (σ:St UU):Option S:=
 lw (cR (F.A i)) (fun σ κ=>F.go (eN (er F.fn) (F.p i++[false])) σ κ) n σ (F.kt κ (F.p i) κs)
noncomputable def Fx.st (F:Fx S) (κ:Out UU->Option S) (i:Nat) (κs:List (St UU->Option S)) (r:St UU->Option S) (σ:St UU):Option S:=
 F.go (eN (er F.fn) (F.p i++[false])) σ (back (cR (F.A i)) r (F.kt κ (F.p i) κs))
noncomputable def Fx.jn (F:Fx S) (κ:Out UU->Option S) (i:Nat) (κs:List (St UU->Option S)) (n:Nat) (σ:St UU):Option S:=
 qn (fun σ κ=>F.go (eN (er F.fn) (F.p i)) σ κ) n σ (F.kt κ (F.p i) κs)
noncomputable def Fx.sj (F:Fx S) (κ:Out UU->Option S) (i:Nat) (κs:List (St UU->Option S)) (σ:St UU):Option S:=F.go (eN (er F.fn) (F.p i)) σ (F.kt κ (F.p i) κs)
theorem Fx.lp_succ (F:Fx S) (κ:Out UU->Option S) (i:Nat) (κs:List (St UU->Option S)) (n:Nat) (σ:St UU):F.lp κ i κs (n+1) σ=F.st κ i κs (fun τ=>F.lp κ i κs n τ) σ:=rfl
theorem Fx.jn_succ (F:Fx S) (κ:Out UU->Option S) (i:Nat) (κs:List (St UU->Option S)) (n:Nat) (σ:St UU):F.jn κ i κs (n+1) σ=F.sj κ i κs σ:=rfl
noncomputable def gH (F:Fx S) (n m:Nat):Bool:=(F.fn.name== "runtime.NumGoroutine")==false&&(F.fn.body.isNone==false&&(ac F.fn.ntmps F.sd.nt&&(a7 F.sd.nt 1000000&&(a7 n F.sd.nt&&a7 m 1000000))))
theorem lP {F:Fx S} {n m:Nat} (h:gH F n m=true):(F.fn.name== "runtime.NumGoroutine")=false/\F.fn.body.isNone=false/\F.fn.ntmps=F.sd.nt/\F.sd.nt<=1000000/\n<=F.sd.nt/\m<=1000000:=by
 unfold gH at h
 simp only [aj,beq_iff_eq] at h
 obtain ⟨h1,h2,h3,h4,h5,h6⟩:=h
 exact ⟨h1,h2,Nat.eq_of_beq_eq_true h3,eI h4,eI h5,eI h6⟩
theorem IQ {o:Obj} {K:Cs} {B:Bs} {R:K.D (B.D (Kn S))} (F:Fx S) {f:FuncId} (ht:TA o F.rows) (hf:Tryz.prog.funcs[f]? =some F.fn) (hb:gH F K.n B.n=true) (run:AA K B R fun vs bs g=> ∀κ x,g κ=some x->F.run vs bs κ=some x)
  (h1:F.sd.rcv= .none:=by rfl) (h2:F.sd.pin=(fun _=>false):=by rfl) (h3:F.cd= .none:=by rfl):Tl o f (aA K B R):=fun vs bs κ x h=>by
 obtain ⟨g,hg,hx,hl,hm⟩:=qU run h
 have hr:=hg κ x hx
 unfold Fx.run at hr
 rw [h3] at hr
 obtain ⟨b1,b2,b3,b4,b5,b6⟩:=lP hb
 exact sw (rN jM (jt o) h1 h2 ht.tells hf b1 b2 b3 b4 (by omega) hr)
theorem iP {o:Obj} {K:Cs} {B:Bs} {R:K.D (B.D (Kn S))} {f:FuncId} (h0:AA K B R fun vs bs g=> ∀κ x,g κ=some x->False):Tl o f (aA K B R):=fun vs bs κ x h=>by
 obtain ⟨g,hg,hx,_⟩:=qU h0 h
 exact (hg κ x hx).elim
noncomputable def pA (nt f:Nat) (fn:Func) (k:Nat):PU->Oracle UU S:=fun v g vs bs κ=>bif ac g f&&a7 vs.length nt then rO VV ⟨nt,fun _=>[],fun _=>false,.none,fun _=>false,fun _=>false⟩ (lO []) (fun _=> .none) k true [] fn v vs bs κ else .none
theorem tO (o:Obj) {nt f:Nat} {fn:Func} {k:Nat} (hf:Tryz.prog.funcs[f]? =some fn) (hb:gH (fp nt [] [] k fn 0:Fx S) 0 0=true): ∀v u u',RcvOK v u u'->(pA (S:=S) nt f fn k v).Tells (eG (LL o) (e9 Tryz.prog u u')):=by
 intro v u u' hv g vs bs κ x h
 unfold pA at h
 cases hc:ac g f&&a7 vs.length nt with
 |false=>rw [hc] at h;cases h
 |true=>
  rw [hc] at h
  rw [aj] at hc
  have:=Nat.eq_of_beq_eq_true hc.1
  subst this
  obtain ⟨b1,b2,b3,b4,_,_⟩:=lP hb
  exact sw (Hg jM (jt o) rfl rfl (TA.tells (l:=[]) (o:=o) trivial) hf b1 b2 b3 b4 hv (eI hc.2) h)
theorem IP {o:Obj} {K:Cs} {B:Bs} {R:K.D (B.D (Kn S))} (F:Fx S) {f:FuncId} {C:PU->Oracle UU S} (h3:F.cd=some C) (hC: ∀v u u',RcvOK v u u'->(C v).Tells (eG (LL o) (e9 Tryz.prog u u'))) (ht:TA o F.rows) (hf:Tryz.prog.funcs[f]? =some F.fn) (hb:gH F K.n B.n=true)
  (run:AA K B R fun vs bs g=> ∀κ x,g κ=some x->F.run vs bs κ=some x) (h1:F.sd.rcv= .none:=by rfl):Tl o f (aA K B R):=fun vs bs κ x h=>by
 obtain ⟨g,hg,hx,hl,hm⟩:=qU run h
 have hr:=hg κ x hx
 unfold Fx.run at hr
 rw [h3] at hr
 obtain ⟨b1,b2,b3,b4,b5,b6⟩:=lP hb
 exact sw (x_ jM (jt o) h1 ht.tells hC hf b1 b2 b3 b4 (by omega) (by omega) hr)
theorem aE {o:Obj} {K:Cs} {B:Bs} {R:K.D (B.D (Kn S))} (F:Fx S) {f:FuncId} (ht:TA o F.rows) (hf:Tryz.prog.funcs[f]? =some F.fn) (run:AA K B R fun vs bs g=> ∀κ x,g κ=some x->F.run vs bs κ=some x) (hb:gH F K.n B.n=true:=by kernel_rfl)
  (h1:F.sd.rcv= .none:=by rfl) (h2:F.sd.pin=(fun _=>false):=by rfl) (h3:F.cd= .none:=by rfl):Tl o f (aA K B R):=IQ F ht hf hb run h1 h2 h3
theorem Ft {F:Fx S} {κ:Out UU->Option S} {i:Nat} {κs:List (St UU->Option S)} {mk:St UU} {l:Nat->Option S} (b:(Option S)->Option S) (h0:l 0= .none:=by rfl) (hs: ∀n,l (n+1)=b (l n):=by intros;rfl) (B: ∀ (r:St UU->Option S),F.st κ i κs r mk=b (r mk):=by intros;kernel_rfl): ∀ (n:Nat),F.lp κ i κs n mk=l n:=by
 intro n
 induction n with
 |zero=>intros;rw [h0];rfl
 |succ n ih=>
  intros
  rw [hs,Fx.lp_succ,B]
  exact congrArg (fun g=>b g) ih
theorem u7 {F:Fx S} {κ:Out UU->Option S} {i:Nat} {κs:List (St UU->Option S)} {mk:St UU} {l:Nat->Option S} (b:Option S) (h0:l 0= .none:=by rfl) (hs: ∀n,l (n+1)=b:=by intros;rfl) (B:F.sj κ i κs mk=b:=by intros;kernel_rfl): ∀ (n:Nat),F.jn κ i κs n mk=l n:=by
 intro n
 cases n with
 |zero=>intros;rw [h0];rfl
 |succ n=>intros;rw [hs,Fx.jn_succ];exact B
theorem cV {F:Fx S} {κ:Out UU->Option S} {i:Nat} {κs:List (St UU->Option S)} {α0:Type} {mk:α0->St UU} {l:Nat->α0->Option S} (b:(α0->Option S)->α0->Option S) (h0:l 0=fun x0=> .none:=by rfl) (hs: ∀n,l (n+1)=b (l n):=by intros;rfl) (B: ∀ (r:St UU->Option S) x0,F.st κ i κs r (mk x0)=b (fun x0=>r (mk x0)) x0:=by intros;kernel_rfl): ∀ (n:Nat) x0,F.lp κ i κs n (mk x0)=l n x0:=by
 intro n
 induction n with
 |zero=>intros;rw [h0];rfl
 |succ n ih=>
  intros
  rw [hs,Fx.lp_succ,B]
  exact congrArg (fun g=>b g _) (funext fun x0=>ih x0)
theorem DT {F:Fx S} {κ:Out UU->Option S} {i:Nat} {κs:List (St UU->Option S)} {α0:Type} {mk:α0->St UU} {l:Nat->α0->Option S} (b:α0->Option S) (h0:l 0=fun x0=> .none:=by rfl) (hs: ∀n,l (n+1)=b:=by intros;rfl) (B: ∀x0,F.sj κ i κs (mk x0)=b x0:=by intros;kernel_rfl): ∀ (n:Nat) x0,F.jn κ i κs n (mk x0)=l n x0:=by
 intro n
 cases n with
 |zero=>intros;rw [h0];rfl
 |succ n=>intros;rw [hs,Fx.jn_succ];exact B _
theorem dS {F:Fx S} {κ:Out UU->Option S} {i:Nat} {κs:List (St UU->Option S)} {α0 α1:Type} {mk:α0->α1->St UU} {l:Nat->α0->α1->Option S} (b:(α0->α1->Option S)->α0->α1->Option S) (h0:l 0=fun x0 x1=> .none:=by rfl) (hs: ∀n,l (n+1)=b (l n):=by intros;rfl) (B: ∀ (r:St UU->Option S) x0 x1,F.st κ i κs r (mk x0 x1)=b (fun x0 x1=>r (mk x0 x1)) x0 x1:=by intros;kernel_rfl): ∀ (n:Nat) x0 x1,F.lp κ i κs n (mk x0 x1)=l n x0 x1:=by
 intro n
 induction n with
 |zero=>intros;rw [h0];rfl
 |succ n ih=>
  intros
  rw [hs,Fx.lp_succ,B]
  exact congrArg (fun g=>b g _ _) (funext fun x0=>funext fun x1=>ih x0 x1)
theorem vw {F:Fx S} {κ:Out UU->Option S} {i:Nat} {κs:List (St UU->Option S)} {α0 α1 α2:Type} {mk:α0->α1->α2->St UU} {l:Nat->α0->α1->α2->Option S} (b:(α0->α1->α2->Option S)->α0->α1->α2->Option S) (h0:l 0=fun x0 x1 x2=> .none:=by rfl) (hs: ∀n,l (n+1)=b (l n):=by intros;rfl) (B: ∀ (r:St UU->Option S) x0 x1 x2,F.st κ i κs r (mk x0 x1 x2)=b (fun x0 x1 x2=>r (mk x0 x1 x2)) x0 x1 x2:=by intros;kernel_rfl): ∀ (n:Nat) x0 x1 x2,F.lp κ i κs n (mk x0 x1 x2)=l n x0 x1 x2:=by
 intro n
 induction n with
 |zero=>intros;rw [h0];rfl
 |succ n ih=>
  intros
  rw [hs,Fx.lp_succ,B]
  exact congrArg (fun g=>b g _ _ _) (funext fun x0=>funext fun x1=>funext fun x2=>ih x0 x1 x2)
theorem Fv {F:Fx S} {κ:Out UU->Option S} {i:Nat} {κs:List (St UU->Option S)} {α0 α1 α2 α3 α4 α5 α6 α7:Type} {mk:α0->α1->α2->α3->α4->α5->α6->α7->St UU} {l:Nat->α0->α1->α2->α3->α4->α5->α6->α7->Option S} (b:(α0->α1->α2->α3->α4->α5->α6->α7->Option S)->α0->α1->α2->α3->α4->α5->α6->α7->Option S) (h0:l 0=fun x0 x1 x2 x3 x4 x5 x6 x7=> .none:=by rfl) (hs: ∀n,l (n+1)=b (l n):=by intros;rfl) (B: ∀ (r:St UU->Option S) x0 x1 x2 x3 x4 x5 x6 x7,F.st κ i κs r (mk x0 x1 x2 x3 x4 x5 x6 x7)=b (fun x0 x1 x2 x3 x4 x5 x6 x7=>r (mk x0 x1 x2 x3 x4 x5 x6 x7)) x0 x1 x2 x3 x4 x5 x6 x7:=by intros;kernel_rfl): ∀ (n:Nat) x0 x1 x2 x3 x4 x5 x6 x7,F.lp κ i κs n (mk x0 x1 x2 x3 x4 x5 x6 x7)=l n x0 x1 x2 x3 x4 x5 x6 x7:=by
 intro n
 induction n with
 |zero=>intros;rw [h0];rfl
 |succ n ih=>
  intros
  rw [hs,Fx.lp_succ,B]
  exact congrArg (fun g=>b g _ _ _ _ _ _ _ _) (funext fun x0=>funext fun x1=>funext fun x2=>funext fun x3=>funext fun x4=>funext fun x5=>funext fun x6=>funext fun x7=>ih x0 x1 x2 x3 x4 x5 x6 x7)
end
end Go.Proofs.YtlidjlacmpaefaaGreatDoor
