/- Part 2 of a proof: the sources, with their names and remarks, lie in wip/. -/
import Derived.Test.YtgajalidbabccaaGreatDoorX1
import Derived.LoopN
import Derived.Scope
import Derived.Recover
import Derived.Orders
import Derived.Test.YtgajalidbabccaaGreatDoorProg
import Derived.KernelRfl
open Array renaming getD_eq_getD_getElem?→jT,getElem?_eq_some_iff→jt
open Bool renaming and_eq_true→ak,not_eq_true'→j9
open ByteArray renaming empty→au
open Go.IntKind renaming wrap→af
open List renaming all_eq_true→d7,append_nil→eZ,getElem?_eq_getElem→fM,getElem?_eq_some_iff→it,length_cons→dv,map_cons→jc,mem_append→er,mem_cons→eb,mem_map→dI,mem_of_getElem?→jU,mem_singleton→ju,range→fY
open Nat renaming beq→aD,ble→dK,le_refl→eh,le_trans→fN,zero_add→jd
open Option renaming bind→ag
set_option linter.unusedVariables false
set_option linter.unusedSimpArgs false
namespace Go.Proofs.YtgajalidbabccaaGreatDoor.PI
open Go
section
variable {U:Uni} {V:Env U} {P:Program} {X:Link V P} {K:d4 U} {S:Side U} {c:Ctx} {ops:Array Oper} {σ0 σ1:St U}
theorem xR {o:Oper} {y:Tmp×Nat} (h:xQ V S σ0 σ1 o=some y): ∃t z,o.op= .alloc t/\o.dst=some y.1/\o.guard=none/\V.zero t=some z/\y.2=S.boxId y.1/\σ0.b y.2=none/\σ1.b y.2=none/\ ∀e∈o.after.toList,Region.binds .any e=false:=by
 grind [xQ,Option.isNone_iff_eq_none,Option.isSome_iff_exists]
theorem aeM {bf:List Nat} {j:Nat}: ∀ (l:List Oper) (i:Nat) (fps:List (List Loc)) (ll:List (Nat×List Loc)),ops.toList.drop i=l->uQ V S σ0 σ1 bf j i l fps=some ll->
  (∀x∈ll,i<=x.1/\x.1<ops.size/\ ∃o y,ops[x.1]? =some o/\xQ V S σ0 σ1 o=some y/\x.2=nN y)/\(ll.map (·.1)).Pairwise (· < ·)/\(∀x∈ll,∀f∈fps,gm f x.2=true)/\ll.Pairwise (fun x y=>gm x.2 y.2=true)/\
  ∀k,i<=k->k<ops.size->k∉ll.map (·.1)->(bf.getD k 0).testBit j=true:=by
 intro l
 induction l with
 |nil=>
  intro i fps ll hd h
  simp only [uQ] at h
  injection h with h
  subst h
  refine ⟨by simp,by simp,by simp,by simp,fun k hk hk2 _=> ?_⟩
  exfalso
  have:=congrArg List.length hd
  grind
 |cons o l ih=>
  intro i fps ll hd h
  have hi:ops[i]? =some o:=by
   have:=congrArg (·[0]?) hd
   grind
  have his:i<ops.size:=(jt.1 hi).1
  have hd':ops.toList.drop (i+1)=l:=by rw [<-List.drop_drop,hd];rfl
  simp only [uQ] at h
  cases hb:(bf.getD i 0).testBit j with
  |true=>
   rw [hb] at h
   obtain ⟨a,b,c,d,e⟩:=ih (i+1) fps ll hd' h
   grind
  |false=>
   rw [hb] at h
   simp only [cond_false] at h
   split at h
   case h_2=>cases h
   rename_i y hy
   cases hap:fps.all (fun f=>gm f (nN y)) with
   |false=>grind
   |true=>
   rw [hap] at h
   simp only [cond_true] at h
   split at h
   case h_2=>cases h
   rename_i l' hl'
   injection h with h
   subst h
   obtain ⟨a,b,c,d,e⟩:=ih (i+1) (nN y::fps) l' hd' hl'
   refine ⟨fun x hx=> ?_, ?_,fun x hx f hf=> ?_, ?_,fun k hk hk2 hkn=> ?_⟩
   ·grind
   ·grind [List.pairwise_cons]
   ·grind
   ·simp only [List.pairwise_cons]
    exact ⟨fun x hx=>c x hx _ (by simp),d⟩
   grind
theorem aeL: ∀ (ll:List (Nat×List Loc)) (σ:St U),(∀x∈ll,∃o y,ops[x.1]? =some o/\xQ V S σ0 σ1 o=some y/\x.2=nN y/\σ.b y.2=none)->ll.Pairwise (fun x y=>gm x.2 y.2=true)->
  ∃σe,SeqR V K S ops (ll.map fun x=>(x.1,x.2,.done)) σ σe:=by
 intro ll
 induction ll with
 |nil=>intro σ _ _;exact ⟨σ,St.eqv.refl _⟩
 |cons x ll ih=>
  intro σ h hp
  obtain ⟨o,y,ho,hy,hx,hb⟩:=h x (by simp)
  obtain ⟨t,z,h1,h2,h3,h4,h5,_⟩:=xR hy
  simp only [List.pairwise_cons] at hp
  obtain ⟨σe,he⟩:=ih ((σ.setB y.2 (.cells z)).setR y.1 (.ptr y.2 0)) (fun x' hx'=>by
   obtain ⟨o',y',a,b,c,d⟩:=h x' (by simp [hx'])
   refine ⟨o',y',a,b,c, ?_⟩
   have hne:y.2≠y'.2:=by
    intro e
    have:=hp.1 x' hx'
    rw [hx,c] at this
    simp [gm,nN,Loc.meets,e] at this
   simp_all) hp.2
  refine ⟨σe,o,_,ho, ?_,he⟩
  unfold nS
  rw [h3]
  simp only
  unfold dD
  rw [h1]
  simp only [h2,h4,<-h5,M.Rel,hb]
  exact ⟨trivial,trivial,by rw [hx];rfl⟩
theorem M1 {y:Tmp×Nat} (h:σ0.b y.2=none):PI.harmless σ0 (nN y)=true:=by
 simp [PI.harmless,nN,h]
theorem ahF {fs:List (List Loc)} {f:List Loc} {o:Oper} {σ σa σ' σ'':St U} {v:PV U} (ho:ops[fs.length]? =some o) (hseq:SeqRel V K S ops ((List.range' 0 fs.length).zip fs) σ σa) (hj:(nS V S o (l6 ops.toList)).Rel K σa [] (.raise v) σ' f) (he:σ'.eqv σ'')
  (hf:yU V S ops.toList σ σ'' (fs++[f])=true): ∃L σe,Raises ops σ L fs.length v/\SeqR V K S ops L σ σe/\Alike σ σ'' σe/\mD 0 ops.toList=true/\fs.length∈L.map (·.1)/\L.length<=ops.size:=by
 unfold yU at hf
 simp only [ak,List.length_append,List.length_singleton,Nat.add_sub_cancel] at hf
 obtain ⟨hfor,hfree,hharm,hlate⟩:=hf
 obtain ⟨ll,hll⟩:=Option.isSome_iff_exists.1 hlate
 obtain ⟨a,b,cc,d,e⟩:=aeM (ops:=ops) _ _ _ ll rfl hll
 have hjs:fs.length<ops.size:=(jt.1 ho).1
 obtain ⟨σe,hse⟩:=aeL (K:=K) (V:=V) (S:=S) (ops:=ops) (σ0:=σ) (σ1:=σ'') ll σ' (fun x hx=>by
  obtain ⟨_,_,o',y,h1,h2,h3⟩:=a x hx
  obtain ⟨_,_,_,_,_,_,_,_,h4,_⟩:=xR h2
  exact ⟨o',y,h1,h2,h3,(he.b _).trans h4⟩) d
 generalize hEx:(List.range' 0 fs.length).zip fs=ex at hseq
 have hex:ex.map (·.1)=List.range' 0 fs.length:=by grind [List.map_fst_zip]
 have hexm: ∀x∈ex,x.1<fs.length/\fs[x.1]? =some x.2:=by
  grind [List.mem_iff_getElem?]
 let L:List (Nat×List Loc×MR U):=(ex.map fun x=>(x.1,x.2,MR.done))++((fs.length,f,MR.raise v)::ll.map fun x=>(x.1,x.2,MR.done))
 have hLm:L.map (·.1)=List.range' 0 (fs.length+1)++ll.map (·.1):=by
  simp only [L,List.map_append,List.map_map,jc]
  have:(fun x:Nat×List Loc×MR U=>x.1)∘(fun x:Nat×List Loc=>(x.1,x.2,(MR.done:MR U)))=fun x=>x.1:=rfl
  grind [List.range'_concat]
 have hinc:(L.map (·.1)).Pairwise (· < ·):=by
  rw [hLm,List.pairwise_append]
  grind [List.pairwise_lt_range']
 have cases3: ∀x∈L,(∃y∈ex,x=(y.1,y.2,.done))\/x=(fs.length,f,.raise v)\/ ∃y∈ll,x=(y.1,y.2,.done):=by
  intro x hx
  simp only [L,er,dI,eb] at hx
  grind
 have hLlt: ∀x∈L,x.1<ops.size:=by
  grind
 have hfps: ∀x∈ex,x.2∈fs++[f]:=fun x hx=>by
  grind
 refine ⟨L,σe,⟨hinc.imp Nat.ne_of_lt,hLlt, ?_, ?_, ?_, ?_, ?_, ?_⟩, ?_, ?_,hfor, ?_, ?_⟩
 ·
  simp only [L,List.pairwise_append,List.pairwise_cons]
  have fo: ∀p q g h,p<q->(fs++[f])[p]? =some g->(fs++[f])[q]? =some h->((gQ ops.toList []).getD q 0).testBit p=true\/gm g h=true:=fun p q g h hpq hp hq=>
   Md _ (fs++[f]) 0 [] rfl hfree p q g h hpq (by grind) (by grind) (by simp)
  refine ⟨?_,⟨fun y hy=> ?_, ?_⟩,fun x hx y hy=> ?_⟩
  ·have h1:ex.Pairwise fun x y=>x.1<y.1:=by
    grind
   rw [List.pairwise_map]
   refine (List.Pairwise.and_mem.1 h1).imp fun {x y} h=> ?_
   grind
  ·obtain ⟨z,hz,rfl⟩:=dI.1 hy
   grind
  ·grind
  ·obtain ⟨x',hx',rfl⟩:=dI.1 hx
   rcases eb.1 hy with rfl|hy
   ·grind
   ·obtain ⟨z,hz,rfl⟩:=dI.1 hy
    grind
 ·
  intro pre x post hpp o' ho' ed hed hb
  have hxL:x∈L:=by grind
  have hk:x.1<=fs.length\/fs.length<x.1:=by omega
  rcases hk with hk|hk
  ·have hlt:=GM ops.toList 0 x.1 _ hfor (by grind) ed hed hb
   rw [jd] at hlt
   have hin:ed.on∈L.map (·.1):=by
    grind
   grind [List.pairwise_cons]
  ·exfalso
   rcases cases3 x hxL with ⟨y,hy,rfl⟩|rfl|⟨y,hy,rfl⟩
   ·grind
   ·simp at hk
   ·obtain ⟨_,_,o2,y2,h1,h2,_⟩:=a y hy
    simp only at ho'
    rw [h1] at ho'
    injection ho' with ho'
    subst ho'
    obtain ⟨_,_,_,_,_,_,_,_,_,h3⟩:=xR h2
    grind
 ·intro x hx hne
  grind
 ·grind
 ·intro x hx hne
  rcases cases3 x hx with ⟨y,hy,rfl⟩|rfl|⟨y,hy,rfl⟩
  ·have:=XX _ _ hharm y.1 (by omega) (by grind)
   grind
  ·omega
  ·obtain ⟨_,_,o2,y2,h1,h2,h3⟩:=a y hy
   obtain ⟨_,_,_,_,_,_,_,h4,_⟩:=xR h2
   grind [M1]
 ·grind
 ·exact SeqR.append (SeqR.ofSeq hseq) ⟨o,σ',ho,hj,hse⟩
 ·have hh:=SeqR.harmless (σ0:=σ) _ hse (fun x hx=>by
   obtain ⟨y,hy,rfl⟩:=dI.1 hx
   obtain ⟨_,_,o2,y2,h1,h2,h3⟩:=a y hy
   grind [xR,M1])
  exact ⟨fun id hid=>(hh.b id hid).trans (he.b id),fun i=>(hh.o i).trans (he.o i),fun i=>(hh.u i).trans (he.u i)⟩
 ·grind
 ·have h1:(L.map (·.1)).length<=(fY ops.size).length:=by
   have hnd:(L.map (·.1)).Nodup:=hinc.imp Nat.ne_of_lt
   refine List.Nodup.length_le_of_subset hnd fun i hi=> ?_
   grind
  grind
theorem ahS {σ τ:St U} (ho:σ.o=τ.o) (hu:σ.u=τ.u) (t:Option (Nat×Bool)) (v:PV U) (K:Kept U):qA σ t v K=qA τ t v K:=by
 simp_all [qA]
theorem YU {σ τ:St U} (ho:σ.o=τ.o) (hu:σ.u=τ.u): ∀ (ts:List (Option (Nat×Bool))) (vs:List (PV U)) (K:Kept U),oj σ ts vs K=oj τ ts vs K:=by
 intro ts
 induction ts with
 |nil=>intro vs K;cases vs<;>rfl
 |cons t ts ih=>
  intro vs K
  cases vs<;>grind [oj,ahS]
theorem YS {σ τ:St U} (ho:σ.o=τ.o) (hu:σ.u=τ.u): ∀ (l:List (Nat×List (Option (Nat×Bool)))) (K:Kept U),(∀x∈l,σ.b x.1=τ.b x.1)->kW σ l K=kW τ l K:=by
 intro l
 induction l with
 |nil=>intro K _;rfl
 |cons x l ih=>
  obtain ⟨n,ts⟩:=x
  intro K h
  have h1:=h (n,ts) (by simp)
  simp only at h1
  have h2: ∀K,kW σ l K=kW τ l K:=fun K=>ih K fun x hx=>h x (by simp [hx])
  grind [kW,YU]
theorem afA: ∀ (l:List Nat) (n:Nat),n∈tV l->n∈l:=by
 intro l
 induction l<;>grind [tV]
theorem afn {α:Type}: ∀ (l:List (Nat×α)) (n:Nat),n∈l.map (·.1)->(dU l n).isSome=true:=by
 intro l
 induction l<;>grind [mL]
theorem KY {σ0 σ τ:St U} (h:Alike σ0 σ τ):iA (m6 σ0 τ) τ=iA (m6 σ0 σ) σ:=by
 have hkeys: ∀id∈tV (σ0.box.map (·.1)),τ.b id=σ.b id:=fun id hid=>h.b id (afn _ _ (afA _ _ hid))
 have hA:m6 σ0 τ=m6 σ0 σ:=by
  grind [m6,List.map_congr_left]
 rw [hA]
 have hB: ∀K,kW τ (m6 σ0 σ).boxes K=kW σ (m6 σ0 σ).boxes K:=fun K=>YS (funext h.o) (funext h.u) _ K fun x hx=>by
  obtain ⟨id,hid,rfl⟩:=dI.1 hx
  grind
 grind [iA,m6,tz]
end
section
variable {U:Uni} {V:Env U} {P:Program} {X:Link V P} {K:d4 U} {S:Side U} {c:Ctx} {ann:Nat->Option Ann}
theorem Lands.eqv {ds:List Deferred} {e:Ex U} {σ σ':St U} {Q:Exit->Act->World->Prop} (h:Lands X c ds e σ Q) (he:σ'.eqv σ):Lands X c ds e σ' Q:=
 fun a w g D hd hs=>h a w g D hd (hs.eqv he)
def zw (X:Link V P) (c:Ctx):Option Ann->Code->St U->Ex U->St U->Prop
 |none,code,σ,e,σ'=> ∀ (a:Act) (w:World) (g:Gh U) (D:Nat->Option Nat) (Q:Exit->Act->World->Prop),Sim X c a.tmps w σ g D->Lands X c a.defers e σ' Q->code.wp P Q a w
 |some A,code,σ,e,σ'=> ∃n,∀ (a:Act) (w:World) (g:Gh U) (D:Nat->Option Nat) (Q:Exit->Act->World->Prop),Sim X c a.tmps w σ g D->Lands X c a.defers e σ' Q->Code.rounds P code Q n a w
theorem ST {next:Act->World->Prop} {Q:Exit->Act->World->Prop} {ds:List Deferred} {e:Ex U} {σ':St U} (h:Lands X c ds e σ' Q) (he:e≠ .normal):Lands X c ds e σ' (Exit.then next Q):=by
 intro a w g D hd hs
 have:=h a w g D hd hs
 cases e with
 |normal=>grind
 |exit id=>exact this
 |ret=>exact this
 |panic v=>exact this
theorem aco {Q:Exit->Act->World->Prop} {ds:List Deferred} {e:Ex U} {σ':St U} {id:Nat} (h:Lands X c ds e σ' Q) (he:e≠ .exit id):Lands X c ds e σ' (Exit.inBlock id Q):=by
 intro a w g D hd hs
 have:=h a w g D hd hs
 grind [Exit.inBlock]
theorem afJ {Q:Exit->Act->World->Prop} {ds:List Deferred} {e:Ex U} {σ':St U} (h:Lands X c ds e σ' Q):Lands X c ds e σ' (Exit.noGoto Q):=by
 intro a w g D hd hs
 have:=h a w g D hd hs
 cases e with
 |normal=>exact this
 |exit id=>exact this
 |ret=>exact this
 |panic v=>exact this
theorem tv (hm:P.follows .mixedOrders=true) (hS:rk X K S c) (hnt:c.nt=S.nt) {o:Option Ann} {code:Code} {σ:St U} {e:Ex U} {σ':St U} (h:Big K V S ann o code σ e σ'):zw X c o code σ e σ':=by
 induction h with
 |skip σ=>exact fun a w g D Q hs hl=>Go.wp_skip (hl a w g D rfl hs)
 |label l σ=>exact fun a w g D Q hs hl=>wp_label (hl a w g D rfl hs)
 |region id ops draw σ e σ' fps hd h hf=>
  intro a w g D Q hs hl
  rw [<-hnt] at hd
  cases draw with
  |false=>
   refine wp_region ?_
   rw [List.range_eq_range']
   have:=TF (Q:=Q) hS ops.toList 0 a w σ g D fps (by simp) hd hs h hl
   omega
  |true=>
   obtain ⟨rfl,hfor,hfree⟩:=hf rfl
   refine wp_region_any hm ?_
   obtain ⟨hlen,hseq⟩:=ajt ops.toList 0 σ σ' fps (by simp) h
   have hlen':fps.length=ops.size:=by omega
   refine ak2 hS hd hfor hfree hl ops.size _ ((List.range' 0 ops.toList.length).zip fps) a _ σ g D (by grind) ⟨by simp, ?_,fun x hx=> ?_,fun k o hk=> ?_⟩ rfl hs.drew hseq
   ·have h1:((List.range' 0 ops.toList.length).zip fps).map (·.1)=List.range' 0 ops.toList.length:=List.map_fst_zip (by grind)
    rw [h1,List.filter_eq_self.2,List.range_eq_range']
    all_goals simp_all
   ·grind [List.mem_iff_getElem?]
   ·exfalso
    have:(Array.replicate ops.size false).getD k false=false:=by
     rw [jT,Array.getElem?_replicate]
     grind
    grind
 |regionP id ops σ v σ' σ'' τ fps hd h he hv hf hc=>
  intro a w g D Q hs hl
  rw [<-hnt] at hd
  obtain ⟨fs,f,o,σ1,hfps,ho,hseq,hj⟩:=aju (ops:=ops) ops.toList 0 σ σ' fps v (by simp) h
  subst hfps
  rw [jd] at ho
  obtain ⟨L,σe,hR,hsq,hal,hfor,hjL,hlen⟩:=ahF ho hseq hj he hf
  refine wp_region_any hm ?_
  have hjs:fs.length<ops.size:=(jt.1 ho).1
  have hrep: ∀i d,(Array.replicate ops.size false).getD i d=(if i<ops.size then false else d):=by
   intro i d
   rw [jT,Array.getElem?_replicate]
   grind
  have hwp:=ak3 (v:=v) hS hd hfor hR (ds:=a.defers) (Q:=Q) (fun a' w' g' D' τ' hdf hs' hal' val hval=>by
    have hc2:iA (m6 σ τ') τ'=some τ:=by rw [<-KY hal',KY hal];exact hc
    obtain ⟨g2,D2,hs2⟩:=AU hs' hc2
    refine hl a' w' g2 D2 hdf hs2 val ?_
    cases v with
    |iface t p=>
     cases p with
     |int k n=>cases hval with
      |iface _ u _ hu=>cases hu;exact .iface _ _ _ (.int _ _)
     |_=>cases hv
    |_=>cases hv) L.length (Array.replicate ops.size false) L a _ σ g D rfl (by simp) ?_ (fun i hi _=>by simp_all) (by simp_all) hjL (fun k o' hk=> ?_) rfl hs.drew hsq
  ·simp_all
  ·rw [List.filter_eq_self.2]
   intro x hx
   rw [hrep,if_pos (hR.lt x hx)];rfl
  simp_all
 |seqN x y σ σ1 e σ' h1 h2 i1 i2=>
  intro a w g D Q hs hl
  exact wp_seq (i1 a w g D _ hs fun a' w' g' D' hd hs'=>i2 a' w' g' D' Q hs' (by grind))
 |seqJ x y A σ σ1 τ e σ' h1 hA hc h2 i1 i2=>
  intro a w g D Q hs hl
  refine wp_seq (i1 a w g D _ hs fun a' w' g' D' hd hs'=> ?_)
  obtain ⟨g2,D2,hs2⟩:=AU hs' hc
  exact i2 a' w' g2 D2 Q hs2 (by grind)
 |seqE x y σ e σ' h1 he i1=>exact fun a w g D Q hs hl=>wp_seq (i1 a w g D _ hs (ST hl he))
 |cond j x y σ t e σ' hj h ih=>
  intro a w g D Q hs hl
  have hR:=hs.regs j
  rw [hj] at hR
  refine wp_cond (t:=t) (pi hR) ?_
  cases t with
  |true=>exact ih a w g D Q hs hl
  |false=>exact ih a w g D Q hs hl
 |blockIn id x σ σ' h ih=>
  intro a w g D Q hs hl
  refine wp_block (ih a w g D _ hs fun a' w' g' D' hd hs'=> ?_)
  simp only [Exit.inBlock,if_true]
  exact hl a' w' g' D' hd hs'
 |blockOut id x σ e σ' h he ih=>exact fun a w g D Q hs hl=>wp_block (ih a w g D _ hs (aco hl he))
 |loop x A σ τ e σ' hA hc h ih=>
  intro a w g D Q hs hl
  obtain ⟨n,hn⟩:=ih
  obtain ⟨g',D',hs'⟩:=AU hs hc
  grind [wp_loop_rounds]
 |scope x σ e σ' h ih=>exact fun a w g D Q hs hl=>wp_scope_straight (ih a w g D _ hs (afJ hl))
 |exit id σ=>exact fun a w g D Q hs hl=>wp_exit (hl a w g D rfl hs)
 |ret σ=>exact fun a w g D Q hs hl=>wp_ret (hl a w g D rfl hs)
 |round x A σ σ1 τ e σ' h hc h' i1 i2=>
  obtain ⟨n,hn⟩:=i2
  refine ⟨n+1,fun a w g D Q hs hl=> ?_⟩
  rw [rounds_succ]
  refine i1 a w g D _ hs fun a' w' g' D' hd hs'=> ?_
  obtain ⟨g2,D2,hs2⟩:=AU hs' hc
  exact hn a' w' g2 D2 Q hs2 (by grind)
 |leave x A σ e σ' h he i1=>
  refine ⟨1,fun a w g D Q hs hl=> ?_⟩
  rw [rounds_succ]
  exact i1 a w g D _ hs (ST hl he)
 |pre o x σ0 σ e σ' he h ih=>
  cases o with
  |none=>exact fun a w g D Q hs hl=>ih a w g D Q (hs.eqv he) hl
  |some A=>obtain ⟨n,hn⟩:=ih;exact ⟨n,fun a w g D Q hs hl=>hn a w g D Q (hs.eqv he) hl⟩
 |post o x σ e σ1 σ' he h ih=>
  cases o with
  |none=>exact fun a w g D Q hs hl=>ih a w g D Q hs (hl.eqv he)
  |some A=>obtain ⟨n,hn⟩:=ih;exact ⟨n,fun a w g D Q hs hl=>hn a w g D Q hs (hl.eqv he)⟩
end
section
variable {U:Uni} {V:Env U} {P:Program} {X:Link V P} {S:Side U} {c:Ctx}
theorem s8 (hI:pC X) (hS:S.rcv=none) (hP:PinOK S c):rk X (dZ X) S c:=by
 intro o a w σ g D r τ fp gp next Q hd h hr ht
 obtain ⟨dst,op,ty,pos,after,gd⟩:=o
 cases op with
 |move x=>exact aga hd h hr ht
 |assign x=>exact afS hd h hr ht
 |pick x y z=>exact agd hd h hr ht
 |alloc t=>exact afR hP hd h hr ht
 |box t x=>exact afU hP hd h hr ht
 |build t ps=>exact afV hd h hr ht
 |buildSlice t n ps=>exact afW hd h hr ht
 |load t x=>exact af5 hd h hr ht
 |store t x y=>exact agf h hr ht
 |nilCheck x=>exact agb hd h hr ht
 |binOp b t x y u=>exact afT hd h hr ht
 |unOp u t x=>exact agi hd h hr ht
 |convert s t x=>exact afZ hd h hr ht
 |makeFunc f xs ys=>cases f with
  |func f=>exact af7 hd h hr ht
  |_=>exact hr.elim
 |makeInterface t x=>exact af8 hd h hr ht
 |typeAssert x s t ok=>cases ok with
  |true=>exact agh hd h hr ht
  |false=>exact hr.elim
 |makeMap t x=>cases x with
  |none=>exact af9 hd h hr ht
  |some x=>exact hr.elim
 |lookup t m x ok=>exact af6 hd h hr ht
 |mapUpdate t m x y=>exact af_ h hr ht
 |slice t x lo hi mx=>exact age hd h hr ht
 |fieldAddr s x f=>exact af2 hd h hr ht
 |field s x f=>exact af1 hd h hr ht
 |indexAddr t x i=>exact af4 hd h hr ht
 |index t x i=>exact af3 hd h hr ht
 |extract x i=>exact af0 hd h hr ht
 |panic x=>exact agc h hr ht
 |call cl=>
  cases hc:cl.callee with
  |builtin b=>
   by_cases hb:b= .recover
   ·subst hb
    obtain ⟨callee,args,ats⟩:=cl
    simp only at hc
    subst hc
    simp only [dD,hS] at hr
    exact hr.elim
   ·exact afX hc hb hd h hr ht
  |value f=>exact afY hI hc hd h hr ht
  |invoke x n=>
   obtain ⟨callee,args,ats⟩:=cl
   simp only at hc
   subst hc
   exact hr.elim
 |_=>exact hr.elim
end
section
variable {U:Uni} {V:Env U} {P:Program} {X:Link V P}
theorem ajO: ∀ (args:List (PV U)) (s n:Nat),dU (zf s args) n=if s<=n then (args[n-s]?).map (SK n) else none:=by
 intro args
 induction args with
 |nil=>intro s n;simp [zf,dU]
 |cons p args ih=>
  intro s n
  simp only [zf,mL,ih]
  by_cases h:s=n
  ·subst h;simp
  ·rw [if_neg h]
   by_cases h2:s<=n
   ·rw [if_pos h2,if_pos (by omega)]
    obtain ⟨k,rfl⟩: ∃k,n=s+(k+1):=⟨n-s-1,by omega⟩
    rw [show s+(k+1)-(s+1)=k by omega,show s+(k+1)-s=k+1 by omega]
    simp
   ·rw [if_neg h2,if_neg (by omega)]
def kn (args:List (PV U)) (j:Nat):Option (Ob U):=match args[j]? with|some (.fresh e l)=>some ⟨0,e,l⟩|_=>none
theorem SJ: ∀ (args:List (PV U)) (s i:Nat),dU (ml s args) i=if 2000000+s<=i then kn args (i-2000000-s) else none:=by
 intro args
 induction args with
 |nil=>intro s i;simp [ml,dU,kn]
 |cons p args ih=>
  intro s i
  have tail:dU (ml (s+1) args) i=if 2000000+s<=i/\i≠2000000+s then kn (p::args) (i-2000000-s) else none:=by
   rw [ih]
   by_cases h:2000000+(s+1)<=i
   ·rw [if_pos h,if_pos ⟨by omega,by omega⟩]
    obtain ⟨k,rfl⟩: ∃k,i=2000000+s+(k+1):=⟨i-2000000-s-1,by omega⟩
    rw [show 2000000+s+(k+1)-2000000-(s+1)=k by omega,show 2000000+s+(k+1)-2000000-s=k+1 by omega]
    simp [kn]
   ·rw [if_neg h,if_neg (by omega)]
  have plain:p.notFresh=true->ml s (p::args)=ml (s+1) args:=by
   intro hp;cases p<;>first|rfl|cases hp
  by_cases hp:p.notFresh=true
  ·rw [plain hp,tail]
   by_cases h1:2000000+s<=i
   ·rw [if_pos h1]
    by_cases h2:i=2000000+s
    ·subst h2
     rw [if_neg (by omega)]
     have:2000000+s-2000000-s=0:=by omega
     rw [this]
     unfold kn
     simp only [List.getElem?_cons_zero]
     cases p<;>first|rfl|cases hp
    ·rw [if_pos ⟨h1,h2⟩]
   ·rw [if_neg h1,if_neg (by omega)]
  ·cases p with
   |fresh e l=>
    simp only [ml,mL,tail]
    by_cases h1:2000000+s=i
    ·subst h1
     rw [if_pos rfl,if_pos (eh _)]
     have:2000000+s-2000000-s=0:=by omega
     rw [this];rfl
    ·rw [if_neg h1]
     by_cases h2:2000000+s<=i
     ·rw [if_pos ⟨h2,Ne.symm h1⟩,if_pos h2]
     ·rw [if_neg (by omega),if_neg h2]
   |_=>exact absurd rfl hp
end
section
variable {U:Uni} {V:Env U} {P:Program} {X:Link V P}
theorem alm {boxes:List (Box U)}: ∀ (n s id:Nat) (bs:List (Box U)),n=bs.length->dU ((eQ s n).zip bs) id=if s<=id then bs[id-s]? else none:=by
 intro n
 induction n with
 |zero=>intro s id bs h;have:bs=[]:=List.eq_nil_of_length_eq_zero h.symm;simp_all [dU]
 |succ n ih=>
  intro s id bs h
  cases bs<;>grind [eQ,List.zip_cons_cons,mL]
def j6 (n:Nat) (ν:Nat->Nat) (args:List (PV U)) (vs:Array Value):Gh U:=
 ⟨fun id=>if 1000000<=id/\id-1000000<n then some (ν (id-1000000)) else none,
  fun i=>if 2000000<=i then (kn args (i-2000000)).map (fun ob=>(0,ob.e,vs.getD (i-2000000) undef)) else none⟩
def qJ (args:List (PV U)) (δ:Nat->Option Nat):Nat->Option Nat:=fun i=>if 2000000<=i then (kn args (i-2000000)).bind fun _=>δ (i-2000000) else none
def lK (w:World) (N0:aX) (n m:Nat) (ν:Nat->Nat) (δ:Nat->Option Nat) (ο:Nat->Array Value) (hoz: ∀b,w.heap.size<=b->ο b= #[]) (nt:Nat) (hnt:nt<=1000000) (h:Bnd w N0 n ν δ) (gl:List (Nat×Obj)) (hgl: ∀b o,(b,o)∈gl->w.heap[b]? =some o/\(∀i,i<n->ν i≠b)/\ ∀j,δ j≠some b):Ctx:=
 ⟨w,N0,sV n m ν δ,nt,fun b o hn=>⟨(h.n0 b o hn).1,fun hm=>by
  rcases er.1 hm with hm|hm
  ·obtain ⟨k,hk,e⟩:=dI.1 hm
   exact (h.n0 b o hn).2.1 k (List.mem_range.1 hk) e
  ·obtain ⟨j,_,hj⟩:=List.mem_filterMap.1 hm
   exact (h.n0 b o hn).2.2 j hj⟩,
  fun id=>if 1000000<=id/\id-1000000<n then some (ν (id-1000000)) else none,fun id k h=>(by
  grind),
  gl,fun b o hb=>⟨(hgl b o hb).1,fun hm=>by
  rcases er.1 hm with hm|hm<;>grind⟩,ο,hoz⟩
structure CtxOf (c:Ctx) (w:World) (N0:aX) (n m:Nat) (ν:Nat->Nat) (δ:Nat->Option Nat) (ο:Nat->Array Value):Prop where
 cw:c.w0=w
 cN:c.N0=N0
 bl:c.bl=sV n m ν δ
 fix: ∀i,i<n->c.fix (gf i)=some (ν i)
 other: ∀id k,c.fix id=some k->(∃i,i<n/\id=gf i)\/w.heap.size<=k
 bnd:Bnd w N0 n ν δ
 oo:c.ο=ο
theorem px {w:World} {N0:aX} {n m nt:Nat} {ν:Nat->Nat} {δ:Nat->Option Nat} {ο:Nat->Array Value} {hoz: ∀b,w.heap.size<=b->ο b= #[]} {hnt:nt<=1000000} {h:Bnd w N0 n ν δ} {gl:List (Nat×Obj)} {hgl: ∀b o,(b,o)∈gl->w.heap[b]? =some o/\(∀i,i<n->ν i≠b)/\ ∀j,δ j≠some b}:CtxOf (lK w N0 n m ν δ ο hoz nt hnt h gl hgl) w N0 n m ν δ ο where
 cw:=rfl
 cN:=rfl
 bl:=rfl
 fix i hi:=by
  grind [lK,gf]
 other id k hk:=by
  simp only [lK] at hk
  split at hk
  ·rename_i h1;exact .inl ⟨id-1000000,h1.2,by simp [gf];omega⟩
  grind
 bnd:=h
 oo:=rfl
variable {w:World} {vs:Array Value} {N0:aX} {ν:Nat->Nat} {δ:Nat->Option Nat} {ο:Nat->Array Value} {args:List (PV U)} {boxes:List (Box U)}
theorem ze {i b:Nat} (h:qJ args δ i=some b):2000000<=i/\δ (i-2000000)=some b/\(kn args (i-2000000)).isSome=true:=by
 grind [qJ,kn]
theorem ajP (hg:Given X w vs N0 ν δ ο args boxes) (nt:Nat) (hnt:nt<=1000000): ∀b o,((lK w N0 boxes.length args.length ν δ ο hg.oz nt hnt hg.bnd X.gblk hg.glob).N (j6 boxes.length ν args vs) (qJ args δ)) b o->(NB N0 boxes.length ν δ) b o:=by
 rintro b o (hn|⟨id,hid⟩|⟨i,hi⟩)
 ·exact .inl hn
 ·simp only [j6] at hid
  split at hid
  ·rename_i h1
   injection hid with hid
   exact .inr (.inl ⟨_,h1.2,hid⟩)
  grind
 ·exact .inr (.inr ⟨_,(ze hi).2.1⟩)
theorem SL (id:Nat):(mj args boxes).b id=if 1000000<=id then (boxes.map (Box.ren true gf))[id-1000000]? else none:=by
 unfold St.b mj
 simp only
 rw [alm (boxes:=boxes) _ _ _ _ (by simp)]
 rfl
theorem D_ (hg:Given X w vs N0 ν δ ο args boxes) {nt:Nat} (hnt:args.length<=nt) (hnt2:nt<=1000000):
  Sim X (lK w N0 boxes.length args.length ν δ ο hg.oz nt hnt2 hg.bnd X.gblk hg.glob) (vs++Array.replicate (nt-vs.size) undef) w (mj args boxes) (j6 boxes.length ν args vs) (qJ args δ):=by
 have hsub:=ajP hg nt hnt2
 have hμ: ∀i b,(gB U boxes.length ν).μ i=some b->(j6 boxes.length ν args vs).μ (gf i)=some b:=by
  grind [gB,j6,gf]
 have hvs: ∀n,n<args.length->(vs++Array.replicate (nt-vs.size) undef).getD n undef=vs.getD n undef:=by
  intro n hn
  have:n<vs.size:=by rw [hg.size];exact hn
  simp_all [Array.getElem?_append]
 have ho: ∀i ob,(mj args boxes).o i=some ob->2000000<=i/\kn args (i-2000000)=some ob:=by
  grind [St.o,mj,SJ]
 have hb: ∀id b,(mj args boxes).b id=some b->1000000<=id/\ ∃b0,boxes[id-1000000]? =some b0/\b=b0.ren true gf:=by
  grind [SL]
 refine {nt:=by simp [lK,hg.size];omega,regs:=fun n=> ?_,boxes:=fun id b h=> ?_,dom:=fun id k hk=> ?_,inj:=fun id id' k h1 h2=> ?_,new:=fun id k hk=> ?_,objs:=fun i ob h=> ?_,nobj:=fun i h=> ?_,dinj:=fun i j b h1 h2=> ?_,dnew:=fun i b h=> ?_,dbox:=fun i id b h1 h2=> ?_,ext:=Ext.refl _ _,gl:=rfl,fix:=fun id k hk=> .inl hk}
 ·unfold St.r mj
  simp only [ajO,Nat.zero_le,if_true,Nat.sub_zero]
  cases hp:args[n]? with
  |none=>simp only [Option.map_none];exact .undef _
  |some p=>
   simp only [Option.map_some]
   have hn:=(it.1 hp).1
   rw [hvs n hn]
   have hr:=hg.args n p hp
   by_cases hf:p.notFresh=true
   ·have:=(hr.rep hf).ren (g':=j6 boxes.length ν args vs) (N':=(lK w N0 boxes.length args.length ν δ ο hg.oz nt hnt2 hg.bnd X.gblk hg.glob).N (j6 boxes.length ν args vs) (qJ args δ)) true gf (fun _ _ _ _=>rfl) (fun b o _ h=>hsub b o h) (.inr fun _=>rfl) fun i _ b hb=>hμ i b hb
    cases p<;>first|exact this|cases hf
   ·cases p with
    |fresh e l=>
     obtain ⟨A,n',cp,hval,_⟩:=(show ObOK X w _ _ e l (vs.getD n undef) .wr (δ n) from hr).val
     have hfa:kn args n=some ⟨0,e,l⟩:=by unfold kn;rw [hp]
     refine .own (2000000+n) 0 _ 0 e (vs.getD n undef) ?_ (eh _) (fun _=>rfl) ⟨A,n',cp,hval⟩
     grind [j6]
    |_=>exact absurd rfl hf
 ·obtain ⟨h1,b0,h2,rfl⟩:=hb id b h
  have hlt:=(it.1 h2).1
  have hμid:(j6 boxes.length ν args vs).μ id=some (ν (id-1000000)):=if_pos ⟨h1,hlt⟩
  refine ⟨ν (id-1000000),hμid, ?_⟩
  exact (hg.boxes _ b0 h2).ren true gf rfl (fun _ _ _ _=>rfl) (fun b o _ h=>hsub b o h) (.inr fun _=>rfl) fun i _ b hb=>hμ i b hb
 ·simp_all [j6,gf,SL]
 ·simp only [j6] at h1 h2
  split at h1
  ·rename_i q1
   split at h2
   ·rename_i q2
    injection h1 with h1
    injection h2 with h2
    have:=hg.bnd.inj _ _ q1.2 q2.2 (h1.trans h2.symm)
    omega
   grind
  grind
 ·simp only [j6] at hk
  split at hk
  ·rename_i h1
   injection hk with hk
   subst hk
   exact ⟨hg.bnd.lt _ h1.2,.inl (er.2 (.inl (dI.2 ⟨_,List.mem_range.2 h1.2,rfl⟩)))⟩
  grind
 ·obtain ⟨h1,h2⟩:=ho i ob h
  have hp: ∃e l,args[i-2000000]? =some (.fresh e l)/\ob=⟨0,e,l⟩:=by
   grind [kn]
  obtain ⟨e,l,hp,rfl⟩:=hp
  have hO:ObOK X w (NB N0 boxes.length ν δ) (gB U boxes.length ν) e l (vs.getD (i-2000000) undef) .wr (δ (i-2000000)):=hg.args _ _ hp
  refine ⟨vs.getD (i-2000000) undef,by simp_all [j6], ?_⟩
  have hu:(mj args boxes).u i= .wr:=by
   unfold St.u mj
   simp only
   have hlook: ∀ (l:List (Nat×Ob U)) (n:Nat),dU (l.map fun x=>(x.1,Use.wr)) n=(dU l n).map fun _=>Use.wr:=by
    intro l n
    induction l with
    |nil=>rfl
    |cons x l ih=>
     grind [mL]
   rw [hlook]
   have h':dU (ml 0 args) i=some ⟨0,e,l⟩:=h
   grind
  have hD:qJ args δ i=δ (i-2000000):=by grind [qJ]
  rw [hu,hD]
  exact hO.turn (fun _ _=>rfl) (fun _ _ _ _=>rfl) (fun b o _ h=>hsub b o h)
 ·have hf:2000000<=i->kn args (i-2000000)=none:=by
   intro hi
   have h':dU (ml 0 args) i=none:=h
   grind [SJ]
  grind [j6,qJ]
 ·obtain ⟨a1,a2,_⟩:=ze h1
  obtain ⟨b1,b2,_⟩:=ze h2
  have:=hg.bnd.dinj _ _ _ a2 b2
  omega
 ·obtain ⟨a1,a2,_⟩:=ze h
  exact ⟨hg.bnd.dlt _ _ a2,.inl (er.2 (.inr (List.mem_filterMap.2 ⟨_,List.mem_range.2 (hg.dom _ _ a2),a2⟩)))⟩
 ·obtain ⟨a1,a2,_⟩:=ze h1
  simp only [j6] at h2
  split at h2
  ·rename_i q
   injection h2 with h2
   exact hg.bnd.dν _ _ a2 _ q.2 h2
  grind
end
section
variable {U:Uni} {V:Env U} {P:Program} {X:Link V P} {K:d4 U} {c:Ctx} {tm:Array Value} {w:World} {σ:St U} {g:Gh U} {D:Nat->Option Nat}
variable {r:MR U} {τ:St U} {gp:List Loc}
def vi (tmps:Array Value):ResultVar->Sem Value
 | .tmp t=>pure (tmps.getD t undef)
 | .cell a t=>do loadVar t (<-asAddr (tmps.getD a undef))
theorem ahQ (fn:Func) (tmps:Array Value):results fn tmps=(do
  let vs<-fn.results.mapM (vi tmps)
  pure (if h:vs.size=1 then vs[0] else .tuple vs)):=by
 rfl
theorem ahP (h:Sim X c tm w σ g D): ∀ (res:List ResultVar) {k:List (PV U)->M U} {fp:List Loc},(vj V res k).Rel K σ fp r τ gp->
  ∃ps us fp',(k ps).Rel K σ fp' r τ gp/\us.length=ps.length/\(∀ (j:Nat) p,ps[j]? =some p->Rep X w (c.N g D) g (us.getD j undef) p)/\(res.mapM (vi tm)).run P w= .ok us w:=by
 intro res
 induction res with
 |nil=>intro k fp hr;exact ⟨[],[],fp,hr,rfl,by simp,by simp⟩
 |cons x res ih=>
  intro k fp hr
  have step: ∀ {p:PV U} {v:Value} {fp1:List Loc},(vj V res fun vs=>k (p::vs)).Rel K σ fp1 r τ gp->Rep X w (c.N g D) g v p->(vi tm x).run P w= .ok v w->
    ∃ps us fp',(k ps).Rel K σ fp' r τ gp/\us.length=ps.length/\(∀ (j:Nat) p,ps[j]? =some p->Rep X w (c.N g D) g (us.getD j undef) p)/\((x::res).mapM (vi tm)).run P w= .ok us w:=by
   intro p v fp1 hr1 hp hv
   obtain ⟨ps,us,fp',h1,h2,h3,h4⟩:=ih hr1
   refine ⟨p::ps,v::us,fp',h1,by simp [h2],fun j q hq=> ?_,by simp_all⟩
   grind
  cases x with
  |tmp t=>exact step hr (h.regs t) (by rfl)
  |cell a t=>
   simp only [vj,M.Rel] at hr
   obtain ⟨x,fp',v,h1,h2,h3⟩:=M8 (a:=⟨tm,[]⟩) h (h.regs a) hr
   refine step h1 h3 ?_
   have h2':=h2
   unfold Instr.loadAt at h2'
   simp only [vi]
   cases hu:tm.getD a undef with
   |pointer q=>
    rw [hu] at h2'
    cases q<;>simp_all [Instr.sureAddr,asAddr]
   |_=>rw [hu] at h2';simp [Instr.sureAddr] at h2'
theorem GQ: ∀ (l:List Nat) {k:List (Nat×Box U)->M U} {fp:List Loc},(mF l k).Rel K σ fp r τ gp-> ∃bs fp',(k bs).Rel K σ fp' r τ gp/\bs.map (·.1)=l/\ ∀x∈bs,σ.b x.1=some x.2:=by
 intro l
 induction l<;>grind [mF,M.Rel]
theorem ab3: ∀ (n:Nat) (todo:List Nat) (acc:List (Nat×Box U)) {k:List (Nat×Box U)->M U} {fp:List Loc},(∀x∈acc,σ.b x.1=some x.2)->(xJ n todo acc k).Rel K σ fp r τ gp->
  ∃bs fp',(k (acc++bs)).Rel K σ fp' r τ gp/\ ∀x∈acc++bs,σ.b x.1=some x.2:=by
 intro n
 induction n with
 |zero=>intro todo acc k fp _ hr;exact hr.elim
 |succ n ih=>
  intro todo acc k fp hacc hr
  cases todo with
  |nil=>exact ⟨[],fp,by rw [eZ];exact hr,by grind⟩
  |cons id todo=>
   simp only [xJ] at hr
   split at hr<;>grind [M.Rel]
theorem RepG.lessN {N N':aX} {v:Value} {Do:Option Nat} {p:PV U} (h:RepG X w N g v Do p) (hN: ∀b o,N' b o->N b o):RepG X w N' g v Do p:=by
 by_cases hp:p.notFresh=true
 ·have:=(h.rep hp).mono X (w':=w) (N':=N') (g':=g) (fun _ _ _ _=>rfl) (fun b o _ hn=>hN b o hn) (Gh.le.refl g)
  cases p<;>first|exact this|cases hp
 ·cases p with
  |fresh e l=>exact ObOK.mono h (fun _ _=>rfl) (fun _ _ _ _=>rfl) (fun b o _ hn=>hN b o hn) (Gh.le.refl g)
  |_=>exact absurd rfl hp
theorem KM {w0:World} {N0:aX} {n m:Nat} {ν:Nat->Nat} {δ:Nat->Option Nat} {ο:Nat->Array Value} (hc:CtxOf c w0 N0 n m ν δ ο) (hdom: ∀j b,δ j=some b->j<m)
  (h:Sim X c tm w σ g D) {bs:List (Nat×Box U)} {qs:List (PV U)} {vs:Array Value} {ν':Nat->Nat} {δ':Nat->Option Nat} {keep:Bool} {N1:aX}
  (hkeys: ∃more,bs.map (·.1)=eQ (gf 0) n++more) (hnd:(bs.map (·.1)).Nodup) (hν: ∀ (k:Nat) id,(bs.map (·.1))[k]? =some id->g.μ id=some (ν' k))
  (hδ: ∀j b,δ' j=some b-> ∃i,D i=some b)
  (hg:Given X w vs N1 ν' δ' ο qs (bs.map fun b=>b.2.ren keep (cZ (bs.map (·.1)))))
  (hN1:NB N1 bs.length ν' δ'=c.N g D):
  Back X w0 w N0 ν δ ο n m ν' δ' (bs.map fun b=>b.2.ren keep (cZ (bs.map (·.1))))/\ ∀b o,(NB N0 bs.length ν' δ') b o->(NB N1 bs.length ν' δ') b o:=by
 obtain ⟨more,hmore⟩:=hkeys
 obtain ⟨c0,cN,cbl,cfix,cother,hb0,coo⟩:=hc
 have hlen:bs.length=n+more.length:=by have:=congrArg List.length hmore;grind [HK]
 have hext: ∀i,i<n->(bs.map (·.1))[i]? =some (gf i):=by
  grind [Oz,gf]
 have hold: ∀i,i<n->ν' i=ν i:=by
  intro i hi
  have h1:=hν i _ (hext i hi)
  rcases h.fix _ _ h1 with h2|⟨h2,_⟩<;>grind
 have hμν: ∀i,i<n->g.μ (gf i)=some (ν i):=fun i hi=>by grind
 have hget: ∀k,k<bs.length-> ∃id,(bs.map (·.1))[k]? =some id/\g.μ id=some (ν' k):=fun k hk=>⟨_,fM (by grind),hν k _ (fM (by grind))⟩
 have hsub: ∀b o,(NB N0 bs.length ν' δ') b o->(NB N1 bs.length ν' δ') b o:=by
  intro b o hn
  rw [hN1]
  rcases hn with hn|⟨k,hk,rfl⟩|⟨j,hj⟩
  ·exact .inl (by grind)
  ·obtain ⟨id,_,hid⟩:=hget k hk
   exact .inr (.inl ⟨id,hid⟩)
  ·obtain ⟨i,hi⟩:=hδ j b hj
   exact .inr (.inr ⟨i,hi⟩)
 have hnew: ∀i,n<=i->i<bs.length->w0.heap.size<=ν' i:=by
  intro i hi hlt
  obtain ⟨id,h1,h2⟩:=hget i hlt
  rcases h.fix _ _ h2 with h3|⟨_,h3⟩<;>grind [List.getElem?_inj]
 have hdnew: ∀j b,δ' j=some b->w0.heap.size<=b\/ ∃i,δ i=some b:=by
  intro j b hj
  obtain ⟨i,hi⟩:=hδ j b hj
  rcases (h.dnew i b hi).2 with h1|h1
  ·rw [cbl] at h1
   rcases er.1 h1 with h1|h1
   ·obtain ⟨k,hk,e⟩:=dI.1 h1
    rw [List.mem_range] at hk
    subst e
    exact absurd (hμν k hk) (h.dbox i _ _ hi)
   grind
  grind
 have hl:(bs.map fun b=>b.2.ren keep (cZ (bs.map (·.1)))).length=bs.length:=by simp
 have hgb:=hg.bnd
 rw [hl] at hgb
 have hex:Ext (sV n m ν δ) w0 w:=by have:=h.ext;grind
 refine ⟨⟨hex,by omega,hold,by grind,hdnew, ?_,fun k b hb=> ?_⟩,hsub⟩
 ·rw [hl]
  refine ⟨hgb.inj,hgb.lt,hgb.dlt,hgb.dinj,hgb.dν,fun b o hn=>⟨Nat.lt_of_lt_of_le (hb0.n0 b o hn).1 hex.size,fun i hi e=> ?_,fun j hj=> ?_⟩⟩
  ·by_cases hin:i<n
   ·exact (hb0.n0 b o hn).2.1 i hin (by grind)
   ·have:=hnew i (by omega) hi
    have:=(hb0.n0 b o hn).1
    omega
  ·rcases hdnew j b hj with h1|⟨i,h1⟩
   ·have:=(hb0.n0 b o hn).1;omega
   ·exact (hb0.n0 b o hn).2.2 i h1
 ·have:=hg.boxes k b hb
  rw [hl] at this ⊢
  exact this.mono rfl (fun _ _ _ _=>rfl) (fun b o _ hn=>hsub b o hn) (Gh.le.refl _)
end
section
variable {U:Uni} {V:Env U} {P:Program} {X:Link V P}
theorem RepG.ofAny {w:World} {N:aX} {g:Gh U} {v:Value} {Do:Option Nat} {p:PV U} (h:Rep X w N g v p):RepG X w N g v Do p:=by
 cases p<;>first|exact h|cases h
theorem RepR.ofG {w:World} {N:aX} {g:Gh U} {v:Value} {δ:Nat->Option Nat} {p:PV U} (h:RepG X w N g v (δ 0) p):RepR X w N g v δ p:=by
 cases p with
 |tuple ps=>
  cases (show Rep X w N g v (.tuple ps) from h) with
  |tuple vs _ hl hh=>exact ⟨vs,rfl,hl,fun j p hp=> .ofAny (hh j p hp)⟩
 |_=>exact h
theorem ahR {fn:Func} {tmps:Array Value} {us:List Value} {w:World} (h:(fn.results.toList.mapM (vi tmps)).run P w= .ok us w):
  (results fn tmps).run P w= .ok (if h:us.toArray.size=1 then us.toArray[0] else .tuple us.toArray) w:=by
 simp_all [ahQ,Array.mapM_eq_mapM_toList]
variable {w0:World} {N0:aX} {n m:Nat} {ν:Nat->Nat} {δ:Nat->Option Nat} {K:d4 U} {c:Ctx}
theorem akN {w:World} {σ:St U} {g:Gh U} {N:aX} {hand:List Bool} {ps:List (PV U)} {us:List Value} {k:List (PV U)->M U} {fp gp:List Loc} {r:MR U} {τ:St U} (hl:us.length=ps.length) (hp: ∀ (j:Nat) p,ps[j]? =some p->Rep X w N g (us.getD j undef) p)
  (hr:(Kk hand ps k).Rel K σ fp r τ gp): ∃qs,(k qs).Rel K σ fp r τ gp/\us.length=qs.length/\ ∀ (j:Nat) p,qs[j]? =some p->Rep X w N g (us.getD j undef) p:=by
 unfold Kk at hr
 cases hb:aD hand.length (ps.length+1) with
 |false=>grind
 |true=>
  rw [hb] at hr
  simp only [cond_true] at hr
  split at hr
  ·rename_i v
   split at hr
   ·rename_i v' hv
    refine ⟨[v'],hr,hl,fun j p hj=> ?_⟩
    cases j with
    |succ j=>simp at hj
    |zero=>
     simp at hj
     subst hj
     have h0:=hp 0 v rfl
     generalize us.getD 0 undef=u at h0
     unfold PV.asFull at hv
     split at hv
     ·injection hv with hv
      subst hv
      cases h0 with
      |sl A n c e l o val h1 h2 h3 h4 h5=>exact .sl A n c _ _ .full val h1 h2 (by omega) h4 h5
     all_goals grind
   ·exact hr.elim
  ·exact hr.elim
theorem vk {fn:Func} {tm:Array Value} {w:World} {σ:St U} {g:Gh U} {D:Nat->Option Nat} {ο:Nat->Array Value} (hc:CtxOf c w0 N0 n m ν δ ο) (hdom: ∀j b,δ j=some b->j<m) (h:Sim X c tm w σ g D)
  {keep:Bool} {hand:List Bool} {out:Out U} {τ:St U} {fp gp:List Loc} (hr:(nV V keep hand fn.results.toList n).Rel K σ fp (.out out) τ gp):
  ∃v,(results fn tm).run P w= .ok v w/\Ret X w0 N0 ν δ ο n m out (.returned v) w:=by
 unfold nV at hr
 obtain ⟨ps,us,fp1,hr1,hl1,hp1,hrun⟩:=ahP h _ hr
 obtain ⟨ps,hr1,hl1,hp1⟩:=akN hl1 hp1 hr1
 obtain ⟨q1,σ1,D1,fp2,hr2,hF1,hl2,hq1⟩:=Mf hand ps h (fun j=>us.getD j undef) hp1 hr1
 obtain ⟨bs0,fp3,hr3,hk0,hb0'⟩:=GQ _ hr2
 obtain ⟨bs1,fp4,hr4,hb1⟩:=ab3 100 _ bs0 hb0' hr3
 obtain ⟨bs2,σ2,D2,fp5,hr5,hF2,hkeys,hb2⟩:=GP _ hF1.sim (fun x hx=>hF1.sim.boxes x.1 x.2 (hb1 x hx)) hr4
 have h2:=hF2.sim
 obtain ⟨qs,σ3,fp6,G,δ',hr6,hl6,hSp,_,hδ,hδi,hqs⟩:=Mk h2 hand q1 (fun j=>us.getD j undef) (.refl σ2) (fun j p hp=>hF2.rep (hq1 j p hp)) hr5
 cases hh:oJ qs bs2 with
 |false=>rw [hh] at hr6;exact hr6.elim
 |true=>
 rw [hh] at hr6
 obtain ⟨e1,_,_⟩:=hr6
 injection e1 with e1
 subst e1
 have hb2: ∀x∈bs2,n5 X w (c.N g D2) g ο x:=hc.oo▸hb2
 obtain ⟨ν',hν⟩:=Oy hb2
 have hgd: ∀j,us.toArray.getD j undef=us.getD j undef:=fun j=>Mj j (by simp)
 obtain ⟨hNB,hg⟩:=GS h2 keep (ο:=ο) (fun b hb=>by rw [<-hc.oo];exact c.oz b (fN h2.ext.size hb)) (vs:=us.toArray) (by grind) hb2 hh (fun j b hj=>by rw [hl6];exact hδ j b hj) hδi (fun j q hq=>by grind) hν (F:=fun b=>b.2.ren keep (cZ (bs2.map (·.1)))) fun x hx g' t k hμ hbx=>hbx.ren keep _ rfl (fun _ _ _ _=>rfl) (fun _ _ _ h=>h) (.inl hx) hμ
 have hnd:=(xL hh).2.2.1
 obtain ⟨hback,hsub⟩:=KM hc hdom h2 ⟨bs1.map (·.1),by grind⟩ hnd hν (fun j b hj=>by grind) hg hNB
 suffices hR:RepR X w (NB N0 bs2.length ν' δ') (gB U bs2.length ν') (if h:us.toArray.size=1 then us.toArray[0] else .tuple us.toArray) δ' (pb (PV.renL keep (cZ (bs2.map (·.1))) qs)) by
  have hrr:=ahR hrun
  grind [Ret]
 have hbl:(bs2.map fun b=>b.2.ren keep (cZ (bs2.map (·.1)))).length=bs2.length:=by simp
 have hargs: ∀ (j:Nat) p,(PV.renL keep (cZ (bs2.map (·.1))) qs)[j]? =some p->RepG X w (NB N0 bs2.length ν' δ') (gB U bs2.length ν') (us.toArray.getD j undef) (δ' j) p:=fun j p hp=>by
  have:=hg.args j p hp
  rw [hbl] at this
  exact this.lessN hsub
 have hlr:(PV.renL keep (cZ (bs2.map (·.1))) qs).length=us.length:=by grind [kE]
 generalize PV.renL keep (cZ (bs2.map (·.1))) qs=rs at hargs hlr
 by_cases h1:us.toArray.size=1
 ·rw [dif_pos h1]
  have hu1:us.length=1:=by omega
  obtain ⟨p,rfl⟩: ∃p,rs=[p]:=by
   match rs,hlr with
   |[p],_=>simp
   |[],h=>grind
   |_::_::_,h=>grind
  have:=hargs 0 p rfl
  have hu:us.toArray.getD 0 undef=us.toArray[0]:=by grind
  rw [hu] at this
  exact .ofG this
 ·rw [dif_neg h1]
  have hone:pb rs= .tuple rs:=by
   match rs,hlr with
   |[],_=>rfl
   |[p],h=>grind
   |_::_::_,_=>rfl
  rw [hone]
  exact ⟨us.toArray,rfl,by grind,hargs⟩
theorem HV {tm:Array Value} {w:World} {σ:St U} {g:Gh U} {D:Nat->Option Nat} {ο:Nat->Array Value} (hc:CtxOf c w0 N0 n m ν δ ο) (hdom: ∀j b,δ j=some b->j<m) (h:Sim X c tm w σ g D)
  {v:PV U} {val:Value} (hv:Rep X w (c.N g D) g val v) {out:Out U} {τ:St U} {fp gp:List Loc} (hr:(HU v n).Rel K σ fp (.out out) τ gp):
  Ret X w0 N0 ν δ ο n m out (.panicked [{v:=val,recovered:=false}]) w:=by
 unfold HU at hr
 obtain ⟨bs0,fp3,hr3,hk0,hb0'⟩:=GQ _ hr
 obtain ⟨bs2,σ2,D2,fp5,hr5,hF2,hkeys,hb2⟩:=GP _ h (fun x hx=>h.boxes x.1 x.2 (hb0' x hx)) hr3
 obtain ⟨q,σ3,D3,fp6,hr6,hF3,hq,_⟩:=rO v hF2.sim (hF2.rep hv) hr5
 cases hh:oJ [q] bs2 with
 |false=>simp only [hh] at hr6;exact hr6.elim
 |true=>
 simp only [hh] at hr6
 obtain ⟨e1,_,_⟩:=hr6
 injection e1 with e1
 subst e1
 have hb3: ∀x∈bs2,n5 X w (c.N g D3) g ο x:=fun x hx=>by
  obtain ⟨k,hk,hbx⟩:=hb2 x hx
  rw [hc.oo] at hbx
  exact ⟨k,hk,hbx.mono rfl (fun _ _ _ _=>rfl) (fun b o _ hn=>by
   rcases hn with hn|hn|⟨i,hi⟩
   ·exact .inl hn
   ·exact .inr (.inl hn)
   ·exact .inr (.inr ⟨i,hF3.D i b hi⟩)) (Gh.le.refl g)⟩
 have hkk:bs2.map (·.1)=eQ (gf 0) n:=hkeys.trans hk0
 have hlen:bs2.length=n:=by grind [HK]
 have hν: ∀ (k:Nat) id,(bs2.map (·.1))[k]? =some id->g.μ id=some (ν k):=by
  intro k id hid
  obtain ⟨x,hx,rfl⟩:=dI.1 (jU hid)
  obtain ⟨kb,hk,_⟩:=hb3 x hx
  have hkn:k<n:=by grind
  rw [hkk,Oz _ _ _ hkn] at hid
  injection hid with hid
  have hfix:c.fix x.1=some (ν k):=by
   rw [<-hid,<-hc.fix k hkn]
   rfl
  rcases h.fix _ _ hk with h2|⟨h2,_⟩<;>grind
 obtain ⟨hNB,hg⟩:=GS (G:=[]) (δ:=fun _=>none) hF3.sim false (ο:=ο) (fun b hb=>by rw [<-hc.oo];exact c.oz b (fN h.ext.size hb)) (vs:= #[val]) (by simp) hb3 hh (by simp) (by simp) (fun j q' hq'=>by
  cases j with
  |zero=>simp at hq';subst hq';exact .of hq
  |succ j=>simp_all) hν (F:=fun b=>b.2.ren false (cZ (bs2.map (·.1)))) fun x hx g' t k hμ hbx=>hbx.ren false _ rfl (fun _ _ _ _=>rfl) (fun _ _ _ h=>h) (.inl hx) hμ
 obtain ⟨hback,hsub⟩:=KM hc hdom hF3.sim ⟨[],by grind⟩ (xL hh).2.2.1 hν (by simp) hg hNB
 refine ⟨by grind,val,rfl,hback, ?_⟩
 have hbl:(bs2.map fun b=>b.2.ren false (cZ (bs2.map (·.1)))).length=bs2.length:=by simp
 have:=hg.args 0 _ rfl
 rw [hbl] at this
 have:=this.lessN hsub
 rw [hlen] at this
 have hf:(q.ren false (cZ (bs2.map (·.1)))).notFresh=true:=by
  rw [DP]
  cases q<;>first|rfl|cases hq
 exact this.rep hf
theorem Rt (hm:P.follows .mixedOrders=true) (hI:pC X) {S:Side U} (hS:S.rcv=none) (hpin:S.pin=fun _=>false) {R:Type} {C:Oracle U R} (hC:C.Tells (dZ X)) {f:FuncId} {fn:Func} (hf:P.funcs[f]? =some fn)
  (hname:(fn.name== "runtime.NumGoroutine")=false) (hbody:fn.body.isNone=false) (hnt:fn.ntmps=S.nt) (hlow:S.nt<=1000000) {args:List (PV U)} {boxes:List (Box U)} (hargs:args.length<=S.nt)
  {ann:Nat->Option Ann} {fuel:Nat} {keep:Bool} {hand:List Bool} {κ:Out U->Option R} {x:R} (h:vn V S C ann fuel keep hand fn args boxes κ=some x): ∃out,κ out=some x/\dZ X f args boxes out:=by
 obtain ⟨code,hcode⟩: ∃code,fn.body=some code:=by
  cases hb:fn.body<;>grind
 unfold vn lR at h
 rw [hcode] at h
 obtain ⟨e,τ,hbig,hk⟩:=DU (dZ X) V S ann hC fuel code h
 have key: ∀ {M:M U} {out:Out U} {τ0:St U} {gp:List Loc},M.Rel (dZ X) τ [] (.out out) τ0 gp->(∀ (w:World) (vs:Array Value) (N0:aX) (ν:Nat->Nat) (δ:Nat->Option Nat) (ο:Nat->Array Value) (hg:Given X w vs N0 ν δ ο args boxes),
   Lands X (lK w N0 boxes.length args.length ν δ ο hg.oz S.nt hlow hg.bnd X.gblk hg.glob) [] e τ (bodyPost P fn (Ret X w N0 ν δ ο boxes.length args.length out)))->dZ X f args boxes out:=by
  intro M out τ0 gp _ hl
  refine ⟨⟨fn,hf,hname,hbody⟩,fun w vs N0 ν δ ο hg=> ?_⟩
  suffices hgoal:Calls P f vs w (Ret X w N0 ν δ ο boxes.length args.length out) from hgoal.mono fun e w h=>Ret.full h
  refine calls_of_wp hf hcode ?_
  have hs:=D_ hg hargs hlow
  rw [hnt]
  exact tv hm (s8 hI hS fun d hd=>by grind) rfl hbig _ w _ _ _ hs (hl w vs N0 ν δ ο hg)
 cases e with
 |exit id=>cases hk
 |normal=>
  obtain ⟨r,τ0,τ1,gp,hr,ht,hfin⟩:=lS hC _ hk (St.eqv.refl τ)
  cases r with
  |out o=>
   refine ⟨o,hfin,key hr fun w vs N0 ν δ ο hg a' w' g' D' hd hs=> ?_⟩
   obtain ⟨v,h1,h2⟩:=vk px hg.dom hs hr
   exact ⟨hd,v,h1,h2⟩
  |_=>cases hfin
 |ret=>
  obtain ⟨r,τ0,τ1,gp,hr,ht,hfin⟩:=lS hC _ hk (St.eqv.refl τ)
  cases r with
  |out o=>
   refine ⟨o,hfin,key hr fun w vs N0 ν δ ο hg a' w' g' D' hd hs=> ?_⟩
   obtain ⟨v,h1,h2⟩:=vk px hg.dom hs hr
   exact ⟨hd,v,h1,h2⟩
  |_=>cases hfin
 |panic v=>
  obtain ⟨r,τ0,τ1,gp,hr,ht,hfin⟩:=lS hC _ hk (St.eqv.refl τ)
  cases r with
  |out o=>
   refine ⟨o,hfin,key hr fun w vs N0 ν δ ο hg a' w' g' D' hd hs val hval=> ?_⟩
   exact ⟨hd,HV px hg.dom hs hval hr⟩
  |_=>cases hfin
end
section
variable {U:Uni} {R:Type} (V:Env U) (S:Side U) (C:Oracle U R) (ann:Nat->Option Ann) (fuel:Nat)
def Rc (o:Oper):Option Tmp:=
 match o.dst,o.op,o.guard with
 |some d,.call c,.none=>match c.callee with
  | .builtin .recover=>some d
  |_=> .none
 |_,_,_=> .none
def Rv (v:PV U):Code->St U->(Ex U->St U->Option R)->Option R
 | .seq (.region _ ops draw) b,σ,κ=>match ops.toList with
  |o::more=>match Rc o with
   |some d=>bif !draw&&(Nat.blt d S.nt&&more.all (cY S.nt)) then vo V S C ops.toList more [] (σ.setR d v) fun
     | .normal,σ',_=>run V S C ann fuel b σ' κ
     |_,_,_=> .none
    else .none
   | .none=> .none
  |[]=> .none
 |_,_,_=> .none
def IK (keep:Bool) (hand:List Bool) (fn:Func) (v:PV U) (args:List (PV U)) (boxes:List (Box U)) (κ:Out U->Option R):Option R:=
 Rv V S C ann fuel v (lR fn) (mj args boxes) (kF V C keep hand fn boxes.length κ)
def Gn:List Oper->Option (Oper×Tmp)
 |[o,q]=>match o.dst,o.guard,q.dst,q.op,q.guard with
  |some m,.none,.none,.defer c,.none=>match c.callee with
   | .value (.tmp n)=>bif aD m n&&c.args.isEmpty then some (o,n) else .none
   |_=> .none
  |_,_,_,_,_=> .none
 |_=> .none
def PV.pinned:PV U->Bool
 | .ptr id _=>dK 1000000 id
 |_=>false
def th:Code->St U->(Ex U->St U->Option R)->(FuncId->List (PV U)->Ex U->St U->Option R)->Option R
 | .seq a b,σ,κ0,κ1=>match a with
  | .region id ops draw=>match Gn ops.toList with
   |some (o,n)=>bif !draw&&cY S.nt o then (dD V S o).cps C σ [] fun
     | .done,σ',_=>match σ'.r n with
      | .func h [] caps=>bif caps.all PV.pinned then run V {S with pin:=fun _=>false} C ann fuel b σ' (κ1 h caps) else .none
      |_=> .none
     |_,_,_=> .none
    else .none
   | .none=>run V S C ann fuel (.region id ops draw) σ fun
    | .normal,σ'=>th b σ' κ0 κ1
    |e,σ'=>κ0 e σ'
  |a=>run V S C ann fuel a σ fun
   | .normal,σ'=>th b σ' κ0 κ1
   |e,σ'=>κ0 e σ'
 |_,_,_,_=> .none
def kD (Cd:PV U->Oracle U R) (keep:Bool) (hand:List Bool) (fn:Func) (nb:Nat) (κ:Out U->Option R) (h:FuncId) (caps:List (PV U)):Ex U->St U->Option R
 | .normal,σ=>(mF (PV.idsL caps) fun _=>np (fun _=>0) (fun _=>[]) [] .none (.func h [] caps) []).cps (Cd .nilIface) σ [] fun
  | .done,σ',_=>(nV V keep hand fn.results.toList nb).cps C σ' [] (fin κ)
  |_,_,_=> .none
 | .ret,σ=>(mF (PV.idsL caps) fun _=>np (fun _=>0) (fun _=>[]) [] .none (.func h [] caps) []).cps (Cd .nilIface) σ [] fun
  | .done,σ',_=>(nV V keep hand fn.results.toList nb).cps C σ' [] (fin κ)
  |_,_,_=> .none
 | .panic v,σ=>match v with
  | .iface t (.int k n)=>(mF (PV.idsL caps) fun _=>np (fun _=>0) (fun _=>[]) [] .none (.func h [] caps) []).cps (Cd (.iface t (.int k n))) σ [] fun
   | .done,σ',_=>(nV V keep hand fn.results.toList nb).cps C σ' [] (fin κ)
   |_,_,_=> .none
  |_=> .none
 | .exit _,_=> .none
def MZ:Code->List Bool->List (St U->Option R)->(Nat->Option Ann)->(Ex U->St U->Option R)->(FuncId->List (PV U)->Ex U->St U->Option R)->Ex U->St U->Option R
 | .seq a b,false::p,rs,an,κ0,κ1=>oO V S C ann fuel a p rs an fun
  | .normal,σ'=>th V S C ann fuel b σ' κ0 κ1
  |e,σ'=>κ0 e σ'
 | .seq _ b,true::p,rs,an,κ0,κ1=>MZ b p rs an κ0 κ1
 |_,_,_,_,κ0,_=>κ0
def IJ (Cd:PV U->Oracle U R) (keep:Bool) (hand:List Bool) (fn:Func) (args:List (PV U)) (boxes:List (Box U)) (κ:Out U->Option R):Option R:=
 th V S C ann fuel (lR fn) (mj args boxes) (kF V C keep hand fn boxes.length κ) (kD V C Cd keep hand fn boxes.length κ)
end
section
variable {U:Uni} {V:Env U} {P:Program} {X:Link V P}
inductive RcvOK:PV U->FrameMode->FrameMode->Prop
 |nil:RcvOK .nilIface .returning .returning
 |err (t:TypeId) (k:IntKind) (n:Int):RcvOK (.iface t (.int k n)) (.panicking [{v:= .iface t (.int k n),recovered:=false}]) (.panicking [{v:= .iface t (.int k n),recovered:=true}])
def n7 (P:Program) (u u':FrameMode):FuncId->Array Value->World->(Ending->World->Prop)->Prop:=fun f vs w R=>CallsD P f vs u w fun e u2 w'=>u2=u'/\R e w'
theorem ak4 {ops:Array Oper} {cs:List Frame} {Q:Exit->Act->List Frame->World->Prop} (hQ: ¬LetsOut (fun e a' w'=>Q e a' cs w')): ∀ (l:List Nat) (a:Act) (w:World),wpOps P ops (fun e a' w'=>Q e a' cs w') l a w->wpOpsS P ops Q l a cs w:=by
 intro l
 induction l with
 |nil=>intro a w h;exact h
 |cons i l ih=>
  intro a w h
  simp only [wpOps,wpOpsS] at h ⊢
  cases ho:ops[i]? with
  |none=>grind
  |some o=>
   rw [ho] at h
   simp only at h ⊢
   split
   ·rename_i hw
    rw [if_pos hw] at h
    have h:=h.resolve_right fun h=>hQ h.2
    have h:=Oper.wp_mono ih h
    unfold Oper.wp at h
    split
    ·rename_i w' hrun
     rw [hrun] at h
     exact h.elim
    simp_all
   grind
theorem ah0 (hm:P.follows .mixedOrders=true) (hI:pC X) {S:Side U} (hS:S.rcv=none) (hpin:S.pin=fun _=>false) {R:Type} {C:Oracle U R} (hC:C.Tells (dZ X)) {f:FuncId} {fn:Func} (hf:P.funcs[f]? =some fn)
  (hname:(fn.name== "runtime.NumGoroutine")=false) (hbody:fn.body.isNone=false) (hnt:fn.ntmps=S.nt) (hlow:S.nt<=1000000) {v:PV U} {u u':FrameMode} (hv:RcvOK v u u') {args:List (PV U)} {boxes:List (Box U)} (hargs:args.length<=S.nt)
  {ann:Nat->Option Ann} {fuel:Nat} {keep:Bool} {hand:List Bool} {κ:Out U->Option R} {x:R} (h:IK V S C ann fuel keep hand fn v args boxes κ=some x): ∃out,κ out=some x/\ng X (n7 P u u') f args boxes out:=by
 obtain ⟨code,hcode⟩: ∃code,fn.body=some code:=by
  cases hb:fn.body<;>grind
 unfold IK lR at h
 rw [hcode] at h
 simp only at h
 unfold Rv at h
 split at h
 case h_2=>cases h
 rename_i id ops draw b
 split at h
 case h_2=>cases h
 rename_i o more hops
 split at h
 case h_2=>cases h
 rename_i d hrec
 cases hc:(!draw&&(Nat.blt d S.nt&&more.all (cY S.nt))) with
 |false=>grind
 |true=>
 rw [hc] at h
 simp only [cond_true] at h
 simp only [ak,j9] at hc
 obtain ⟨hdraw,hd,hall⟩:=hc
 subst hdraw
 have hd:d<S.nt:=by simp_all
 unfold Rc at hrec
 obtain ⟨dst,op,ty,pos,after,gd⟩:=o
 simp only at hrec
 split at hrec
 case h_2=>simp_all
 rename_i d0 cl
 split at hrec
 case h_2=>simp_all
 rename_i hcl
 injection hrec with hrec
 subst hrec
 obtain ⟨e1,fps,τ0,τ1,hops1,ht1,hk1⟩:=Ru (dZ X) V S hC ops.toList more h (St.eqv.refl _)
 cases e1 with
 |exit id=>cases hk1
 |ret=>cases hk1
 |panic v=>cases hk1
 |normal=>
 simp only at hk1
 obtain ⟨e,τ,hbig,hk⟩:=DU (dZ X) V S ann hC fuel b hk1
 have hsz:ops.size=more.length+1:=by have:=congrArg List.length hops;omega
 have key: ∀ {out:Out U},(∀ (w:World) (vs:Array Value) (N0:aX) (ν:Nat->Nat) (δ:Nat->Option Nat) (ο:Nat->Array Value) (hg:Given X w vs N0 ν δ ο args boxes),
   Lands X (lK w N0 boxes.length args.length ν δ ο hg.oz S.nt hlow hg.bnd X.gblk hg.glob) [] e τ (bodyPost P fn (Ret X w N0 ν δ ο boxes.length args.length out)))->ng X (n7 P u u') f args boxes out:=by
  intro out hl
  refine ⟨⟨fn,hf,hname,hbody⟩,fun w vs N0 ν δ ο hg=> ?_⟩
  suffices hgoal:n7 P u u' f vs w (Ret X w N0 ν δ ο boxes.length args.length out) from CallsD.mono hgoal fun e u2 w2 h=>⟨h.1,Ret.full h.2⟩
  refine callsD_of_wpS hf hcode fun c₀ cs hu=> ?_
  have hs:=D_ hg hargs hlow
  rw [hnt]
  have hl:=hl w vs N0 ν δ ο hg
  generalize hcx:lK w N0 boxes.length args.length ν δ ο hg.oz S.nt hlow hg.bnd X.gblk hg.glob=c at hs hl
  have hcnt:c.nt=S.nt:=by rw [<-hcx];rfl
  have hOS:rk X (dZ X) S c:=s8 hI hS fun d hd=>by grind
  obtain ⟨val,cs2,hrv,hrep⟩: ∃val cs2,(match recoverD (c₀::cs) with|some (v,cs')=>v=val/\cs'=cs2|none=>val= .nilIface/\cs2=c₀::cs)/\(∃c1:Frame,cs2={c₀ with mode:=u'}::cs)/\ ∀ (w:World) (N:aX) (g:Gh U),Rep X w N g val v:=by
   cases hv with
   |nil=>
    refine ⟨.nilIface,c₀::cs, ?_,⟨c₀, ?_⟩,fun _ _ _=> .nilIface⟩
    ·simp [recoverD,hu]
    ·rw [<-hu]
   |err t k n=>
    refine ⟨.iface t (.int k n),_, ?_,⟨c₀,rfl⟩,fun _ _ _=> .iface _ _ _ (.int _ _)⟩
    simp [recoverD,hu]
  obtain ⟨⟨_,hcs2⟩,hrep⟩:=hrep
  refine wpS_seq (wpS_region ?_)
  rw [hsz,List.range_eq_range',List.range'_succ]
  have h0:ops[0]? =some ⟨some d0,.call cl,ty,pos,after,none⟩:=by rw [<-Array.getElem?_toList,hops];rfl
  simp only [wpOpsS,h0]
  have hrun:(execOp (Act.eval ⟨vs++Array.replicate (S.nt-vs.size) undef,[]⟩) ⟨some d0,.call cl,ty,pos,after,none⟩).run P w= .ok .recover w:=by
   simp_all [Rz,builtin]
  rw [if_pos (by rfl),hrun]
  simp only
  have hnext:wpOpsS P ops (Exit.thenS (b.wpS P (bodyPostS P fn c₀ cs fun e u2 w'=>u2=u'/\Ret X w N0 ν δ ο boxes.length args.length out e w')) (bodyPostS P fn c₀ cs fun e u2 w'=>u2=u'/\Ret X w N0 ν δ ο boxes.length args.length out e w')) (List.range' (0+1) more.length)
    (Act.put ⟨vs++Array.replicate (S.nt-vs.size) undef,[]⟩ (some d0) val) cs2 w:=by
   have hs1:=hs.put (d:=d0) (by grind) (hrep w _ _)
   have hLO: ∀ {next:Act->List Frame->World->Prop},¬LetsOut (fun e a' w'=>Exit.thenS next (bodyPostS P fn c₀ cs fun e u2 w'=>u2=u'/\Ret X w N0 ν δ ο boxes.length args.length out e w') e a' cs2 w'):=by
    rintro next ⟨a',w',u2,_,hq⟩
    exact hq
   refine ak4 hLO _ _ _ ?_
   refine TF hOS more 1 _ w _ _ _ fps (by grind) (by grind) hs1 hops1 ?_
   intro a2 w2 g2 D2 hd2 hs2
   simp only [Exit.thenS]
   refine wpS_of_wp (tv hm hOS hcnt hbig a2 w2 g2 D2 _ (hs2.eqv ht1) ?_)
   intro a3 w3 g3 D3 hd3 hs3
   have hd0:a3.defers=[]:=hd3.trans hd2
   have hb:=hl a3 w3 g3 D3 hd0 hs3
   rw [hcs2]
   cases e with
   |normal=>obtain ⟨q1,v1,q2,q3⟩:=hb;exact ⟨q1,u',rfl,v1,q2,rfl,q3⟩
   |ret=>obtain ⟨q1,v1,q2,q3⟩:=hb;exact ⟨q1,u',rfl,v1,q2,rfl,q3⟩
   |exit id=>exact hb.elim
   |panic pv=>intro val' hval';obtain ⟨q1,q3⟩:=hb val' hval';exact ⟨q1,u',rfl,rfl,q3⟩
  grind
 cases e with
 |exit id=>cases hk
 |normal=>
  obtain ⟨r,τ0,τ1,gp,hr,ht,hfin⟩:=lS hC _ hk (St.eqv.refl τ)
  cases r with
  |out o=>
   refine ⟨o,hfin,key fun w vs N0 ν δ ο hg a' w' g' D' hd hs=> ?_⟩
   obtain ⟨v,h1,h2⟩:=vk px hg.dom hs hr
   exact ⟨hd,v,h1,h2⟩
  |_=>cases hfin
 |ret=>
  obtain ⟨r,τ0,τ1,gp,hr,ht,hfin⟩:=lS hC _ hk (St.eqv.refl τ)
  cases r with
  |out o=>
   refine ⟨o,hfin,key fun w vs N0 ν δ ο hg a' w' g' D' hd hs=> ?_⟩
   obtain ⟨v,h1,h2⟩:=vk px hg.dom hs hr
   exact ⟨hd,v,h1,h2⟩
  |_=>cases hfin
 |panic v=>
  obtain ⟨r,τ0,τ1,gp,hr,ht,hfin⟩:=lS hC _ hk (St.eqv.refl τ)
  cases r with
  |out o=>
   refine ⟨o,hfin,key fun w vs N0 ν δ ο hg a' w' g' D' hd hs val hval=> ?_⟩
   exact ⟨hd,HV px hg.dom hs hval hr⟩
  |_=>cases hfin
end
section
variable {U:Uni} {V:Env U} {P:Program} {X:Link V P}
def Ctx.refix (c:Ctx) (μ:Nat->Option Nat) (L:List Nat) (hnt:c.nt<=1000000) (hL: ∀id∈L,1000000<=id):Ctx:=
 {c with
  fix:=fun id=>if id∈L then μ id else c.fix id
  low:=fun id k h=>by
   split at h
   ·grind
   ·exact c.low id k h}
theorem Sim.refix {c:Ctx} {tm:Array Value} {w:World} {σ:St U} {g:Gh U} {D:Nat->Option Nat} (h:Sim X c tm w σ g D) {L:List Nat} {hnt:c.nt<=1000000} {hL: ∀id∈L,1000000<=id}:
  Sim X (c.refix g.μ L hnt hL) tm w σ g D where
 nt:=h.nt
 regs:=h.regs
 boxes:=h.boxes
 dom:=h.dom
 inj:=h.inj
 new:=h.new
 objs:=h.objs
 nobj:=h.nobj
 dinj:=h.dinj
 dnew:=h.dnew
 dbox:=h.dbox
 ext:=h.ext
 gl:=h.gl
 fix:=fun id k hk=>by
  simp only [Ctx.refix]
  by_cases hin:id∈L
  ·grind
  ·rw [if_neg hin];exact h.fix id k hk
theorem CtxOf.refix {c:Ctx} {tm:Array Value} {w:World} {σ:St U} {g:Gh U} {D:Nat->Option Nat} (h:Sim X c tm w σ g D) {L:List Nat} {hnt:c.nt<=1000000} {hL: ∀id∈L,1000000<=id} (hLμ: ∀id∈L,∃b,g.μ id=some b)
  {w0:World} {N0:aX} {n m:Nat} {ν:Nat->Nat} {δ:Nat->Option Nat} {ο:Nat->Array Value} (hc:CtxOf c w0 N0 n m ν δ ο):CtxOf (c.refix g.μ L hnt hL) w0 N0 n m ν δ ο where
 cw:=hc.cw
 cN:=hc.cN
 bl:=hc.bl
 fix i hi:=by
  simp only [Ctx.refix]
  by_cases hin:gf i∈L
  ·rw [if_pos hin]
   obtain ⟨b,hb⟩:=hLμ _ hin
   rcases h.fix _ _ hb with h1|⟨h1,_⟩
   ·rw [hb,<-h1];exact hc.fix i hi
   ·rw [hc.fix i hi] at h1;cases h1
  ·rw [if_neg hin];exact hc.fix i hi
 other id k hk:=by
  simp only [Ctx.refix] at hk
  by_cases hin:id∈L
  ·rw [if_pos hin] at hk
   rcases h.fix _ _ hk with h1|⟨_,h1⟩
   ·exact hc.other id k h1
   ·rw [hc.cw] at h1;omega
  ·rw [if_neg hin] at hk;exact hc.other id k hk
 bnd:=hc.bnd
 oo:=hc.oo
def EA (c':Ctx) (caps:List (PV U)) (us:Array Value):Prop:=us.size=caps.length/\ ∀ (j:Nat) p,caps[j]? =some p-> ∃id off b,p= .ptr id off/\c'.fix id=some b/\us.getD j undef= .pointer (some ⟨b,off,none⟩)
def EC (X:Link V P) (S:Side U) (code:Code) (σ:St U) (h:FuncId) (caps:List (PV U)) (e:Ex U) (τ:St U):Prop:=
 ∀ (c:Ctx),PinOK S c->c.nt=S.nt-> ∀ (a:Act) (w:World) (g:Gh U) (D:Nat->Option Nat) (Q:Exit->Act->World->Prop),Sim X c a.tmps w σ g D->a.defers=[]->
  (∀ (us:Array Value) (c':Ctx),(∀w0 N0 n m ν δ ο,CtxOf c w0 N0 n m ν δ ο->CtxOf c' w0 N0 n m ν δ ο)->c'.nt=c.nt->EA c' caps us->Lands X c' [{target:= .fn (.func h) us,args:= #[]}] e τ Q)->code.wp P Q a w
theorem Zg {l:List Oper} {o:Oper} {n:Tmp} (h:Gn l=some (o,n)): ∃q cl,l=[o,q]/\o.dst=some n/\o.guard=none/\q.dst=none/\q.op= .defer cl/\q.guard=none/\cl.callee= .value (.tmp n)/\cl.args= #[]:=by
 unfold Gn at h
 split at h
 case h_2=>cases h
 rename_i o' q
 split at h
 case h_2=>cases h
 rename_i m cl h1 h2 h3 h4 h5
 split at h
 case h_2=>cases h
 rename_i n' hcl
 cases hb:(aD m n'&&cl.args.isEmpty)<;>simp_all
theorem ahZ (hm:P.follows .mixedOrders=true) (hI:pC X) {S:Side U} (hS:S.rcv=none) (hlow:S.nt<=1000000) {R:Type} {C:Oracle U R} (hC:C.Tells (dZ X)) {ann:Nat->Option Ann} {fuel:Nat}:
  ∀ (code:Code) {σ:St U} {κ0:Ex U->St U->Option R} {κ1:FuncId->List (PV U)->Ex U->St U->Option R} {x:R},th V S C ann fuel code σ κ0 κ1=some x->
   (∃e τ,e≠ .normal/\κ0 e τ=some x/\ ∀c,PinOK S c->c.nt=S.nt->zw X c none code σ e τ)\/
   (∃h caps e τ,κ1 h caps e τ=some x/\EC X S code σ h caps e τ):=by
 intro code
 induction code with
 |seq a b iha ihb=>
  intro σ κ0 κ1 x h
  have step:run V S C ann fuel a σ (fun| .normal,σ'=>th V S C ann fuel b σ' κ0 κ1|e,σ'=>κ0 e σ')=some x->
    (∃e τ,e≠ .normal/\κ0 e τ=some x/\ ∀c,PinOK S c->c.nt=S.nt->zw X c none (.seq a b) σ e τ)\/
    (∃h caps e τ,κ1 h caps e τ=some x/\EC X S (.seq a b) σ h caps e τ):=by
   intro h
   obtain ⟨e,τ,hbig,hk⟩:=DU (dZ X) V S ann hC fuel a h
   have early:e≠ .normal->κ0 e τ=some x->_:=fun he hk=>(.inl ⟨e,τ,he,hk,fun c hP hnt=>tv hm (s8 hI hS hP) hnt (.seqE a b _ _ _ hbig he)⟩:
    (∃e τ,e≠ .normal/\κ0 e τ=some x/\ ∀c,PinOK S c->c.nt=S.nt->zw X c none (.seq a b) σ e τ)\/(∃h caps e τ,κ1 h caps e τ=some x/\EC X S (.seq a b) σ h caps e τ))
   cases e with
   |normal=>
    rcases ihb hk with ⟨e',τ',he',hk',hB⟩|⟨hh,caps,e',τ',hk',hB⟩
    ·exact .inl ⟨e',τ',he',hk',fun c hP hnt a' w g D Q hs hl=>wp_seq (tv hm (s8 hI hS hP) hnt hbig a' w g D _ hs fun a2 w2 g2 D2 hd2 hs2=>hB c hP hnt a2 w2 g2 D2 Q hs2 (by grind))⟩
    ·exact .inr ⟨hh,caps,e',τ',hk',fun c hP hnt a' w g D Q hs hd hl=>wp_seq (tv hm (s8 hI hS hP) hnt hbig a' w g D _ hs fun a2 w2 g2 D2 hd2 hs2=>hB c hP hnt a2 w2 g2 D2 Q hs2 (hd2.trans hd) hl)⟩
   |exit id=>grind
   |ret=>grind
   |panic v=>grind
  clear iha
  unfold th at h
  split at h
  case h_2=>grind
  rename_i id ops draw
  split at h
  case h_2=>grind
  rename_i o n hdfr
  obtain ⟨q,cl,hops,ho1,ho2,hq1,hq2,hq3,hcl,hargs⟩:=Zg hdfr
  cases hc:(!draw&&cY S.nt o) with
  |false=>grind
  |true=>
  rw [hc] at h
  simp only [cond_true] at h
  simp only [ak,j9] at hc
  obtain ⟨hdraw,hdo⟩:=hc
  subst hdraw
  obtain ⟨r,τ0,τ,gp,hrel,ht,hk⟩:=lS hC _ h (St.eqv.refl σ)
  cases r with
  |raise v=>cases hk
  |out o=>cases hk
  |done=>
  simp only at hk
  split at hk
  case h_2=>cases hk
  rename_i hh caps hfun
  cases hp:caps.all PV.pinned with
  |false=>grind
  |true=>
  rw [hp] at hk
  simp only [cond_true] at hk
  obtain ⟨e,τ2,hbig,hk2⟩:=DU (dZ X) V {S with pin:=fun _=>false} ann hC fuel b hk
  refine .inr ⟨hh,caps,e,τ2,hk2,fun c hP hnt a w g D Q hs hdef hl=>wp_seq (wp_region ?_)⟩
  have hsz:ops.size=2:=by have:=congrArg List.length hops;omega
  have h0:ops[0]? =some o:=by rw [<-Array.getElem?_toList,hops];rfl
  have h1:ops[1]? =some q:=by rw [<-Array.getElem?_toList,hops];rfl
  rw [hsz,show fY 2=[0,1] from rfl]
  simp only [wpOps,h0,h1]
  rw [if_pos (by simp [Region.wanted,ho2])]
  refine .inl (s8 hI hS hP o a w σ g D .done τ0 [] gp _ _ (by grind) hs hrel ⟨fun _ a2 w2 g2 D2 hd2 hs2=> ?_,fun v hv=>by cases hv⟩)
  rw [if_pos (by simp [Region.wanted,hq3])]
  refine .inl ?_
  have hs3:=hs2.eqv ht
  have hR:=hs3.regs n
  rw [hfun] at hR
  generalize hev:a2.tmps.getD n undef=ev at hR
  cases hR with
  |func _ _ _ vs us hvs hus hf1 hf2=>
  have hvs0:vs= #[]:=by
   grind
  subst hvs0
  obtain ⟨qd,qo,qt,qp,qa,qg⟩:=q
  simp only at hq1 hq2 hq3
  subst hq1;subst hq2;subst hq3
  have hrun:(execOp a2.eval ⟨none,.defer cl,qt,qp,qa,none⟩).run P w2= .ok (.defer {target:= .fn (.func hh) us,args:= #[]}) w2:=by
   have hev':a2.eval (.tmp n)= .func (.func hh) #[] us:=hev
   simp_all [execOp,resolve,Deferred.ofValue]
  unfold Oper.wp
  rw [hrun,Oper.upon_defer]
  have hids: ∀id∈PV.idsL caps,1000000<=id/\ ∃b,g2.μ id=some b:=by
   intro id hid
   obtain ⟨p,hpm,hpi⟩: ∃p∈caps,id∈p.ids:=by
    clear hl hk2 hbig hk hf1 hf2 hus hfun hp h step
    induction caps<;>grind [PV.idsL]
   have hpp:=d7.1 hp p hpm
   obtain ⟨j,hj⟩:=List.mem_iff_getElem?.1 hpm
   have hr:=hf2 j p hj
   cases p with
   |ptr id' off=>
    simp only [PV.ids,ju] at hpi
    subst hpi
    refine ⟨by simp_all [PV.pinned], ?_⟩
    generalize us.getD j undef=uv at hr
    cases hr<;>grind
   |_=>cases hpp
  have hcnt:c.nt<=1000000:=by omega
  refine tv (S:={S with pin:=fun _=>false}) hm (s8 hI hS fun d hd=>by cases hd) (c:=c.refix g2.μ (PV.idsL caps) hcnt fun id hid=>(hids id hid).1) hnt hbig _ w2 g2 D2 Q hs3.refix ?_
  have hld:=hl us (c.refix g2.μ (PV.idsL caps) hcnt fun id hid=>(hids id hid).1) (fun w0 N0 n m ν δ ο hc=>CtxOf.refix hs3 (fun id hid=>(hids id hid).2) hc) rfl ⟨hus,fun j p hj=> ?_⟩
  ·grind [Act.put]
  ·have hpp:=d7.1 hp p (jU hj)
   have hr:=hf2 j p hj
   cases p with
   |ptr id off=>
    have hin:id∈PV.idsL caps:=j3 hj id (by simp [PV.ids])
    generalize us.getD j undef=uv at hr
    cases hr<;>grind [Ctx.refix]
   |_=>cases hpp
 |_=>intro σ κ0 κ1 x h;cases h
end
section
variable {U:Uni} {V:Env U} {P:Program} {X:Link V P}
theorem Hf {fn:Func} {w0:World} {N0:aX} {n m:Nat} {ν:Nat->Nat} {δ:Nat->Option Nat} {c':Ctx} {ο:Nat->Array Value} (hc:CtxOf c' w0 N0 n m ν δ ο) (hdom: ∀j b,δ j=some b->j<m) {v:PV U} {u u':FrameMode} (hv:RcvOK v u u')
  {hh:FuncId} {caps:List (PV U)} {us:Array Value} (hct:EA c' caps us) {τ τ1:St U} {r:MR U} {τ0:St U} {gp gp':List Loc} {K:d4 U} {keep:Bool} {hand:List Bool} {out:Out U} {τ2:St U}
  (hrel:(mF (PV.idsL caps) fun _=>np (fun _=>0) (fun _=>[]) [] none (.func hh [] caps) []).Rel (ng X (n7 P u u')) τ [] r τ0 gp) (hr:r= .done) (ht:τ0.eqv τ1) (hret:(nV V keep hand fn.results.toList n).Rel K τ1 [] (.out out) τ2 gp')
  {a:Act} {w:World} {g:Gh U} {D:Nat->Option Nat} (hs:Sim X c' a.tmps w τ g D):
  Leaves P fn a.tmps (Ret X w0 N0 ν δ ο n m out) [{target:= .fn (.func hh) us,args:= #[]}] u w:=by
 obtain ⟨bs,fp1,hrel1,hkeys,hbs⟩:=GQ _ hrel
 have hR:Rep X w (c'.N g D) g (.func (.func hh) #[] us) (.func hh [] caps):=by
  refine .func hh [] caps #[] us rfl hct.1 (by simp) fun j p hp=> ?_
  obtain ⟨id,off,b,rfl,hfix,hus⟩:=hct.2 j p hp
  rw [hus]
  refine .ptr id off b ?_
  have hin:id∈PV.idsL caps:=j3 hp id (by simp [PV.ids])
  rw [<-hkeys] at hin
  obtain ⟨x,hx,rfl⟩:=dI.1 hin
  obtain ⟨k,hk,_⟩:=hs.boxes x.1 x.2 (hbs x hx)
  rcases hs.fix _ _ hk with h1|⟨h1,_⟩
  ·rw [hfix] at h1;injection h1 with h1;rw [h1];exact hk
  ·rw [hfix] at h1;cases h1
 obtain ⟨f,a0s,bs',hfv,⟨fnh,hfh,hnameh,hbodyh⟩,hcall⟩:=KT (X:=X) (c:=c') (a:=a) (dst:=none) (o:=⟨none,.move (.const undef),0, "",#[],none⟩) (CP:=n7 P u u') (xs:= #[])
  (next:=fun a2 w2=>Leaves P fn a2.tmps (Ret X w0 N0 ν δ ο n m out) [] .returning w2) (Q:=fun _ _ _=>False)
  (fun {f vs w R R'} h hm=>CallsD.mono h fun e u2 w2 ⟨h1,h2⟩=>⟨h1,hm e w2 h2⟩) hs hR rfl (by simp) rfl rfl hrel1
  ⟨fun _ a2 w2 g2 D2 _ hs2=>by
   obtain ⟨v,h1,h2⟩:=vk hc hdom (hs2.eqv ht) hret
   exact ⟨v,h1,h2⟩,fun v hv=>by rw [hr] at hv;cases hv⟩
 injection hfv with e1 e2 e3
 injection e1 with e1
 subst e1;subst e2;subst e3
 have hun:u≠ .run:=by cases hv<;>simp
 refine leaves_cons hun (f:=hh) (args:= #[]++us) (by simp only [invoke];exact RA hfh hnameh hbodyh _ w) ?_
 have hcall2:CallsD P hh (#[]++us) u w fun e u2 w'=>u2=u'/\(match e,w' with
    | .returned v,w''=>Leaves P fn (a.put none v).tmps (Ret X w0 N0 ν δ ο n m out) [] .returning w''
    | .panicked chain,w''=>False
    | .outgrown,_=>LetsOut (fun _ _ _=>False)):=by
  have:=hcall
  simp only [Array.append_empty] at this
  exact this.mono fun e u2 w2 ⟨h1,h2⟩=>⟨h1,by cases e<;>exact h2⟩
 refine hcall2.mono fun e u2 w2 ⟨h1,h2⟩=> ?_
 subst h1
 cases e with
 |returned rv=>
  simp only [Act.put] at h2
  have hset:settle u2= .returning:=by cases hv<;>rfl
  simp only [hset]
  exact h2
 |panicked chain=>exact h2.elim
 |outgrown=>obtain ⟨_,_,h⟩:=h2;exact h.elim
theorem ahY (hm:P.follows .mixedOrders=true) (hI:pC X) {S:Side U} (hS:S.rcv=none) {R:Type} {C:Oracle U R} (hC:C.Tells (dZ X)) {Cd:PV U->Oracle U R} (hCd: ∀v u u',RcvOK v u u'->(Cd v).Tells (ng X (n7 P u u')))
  {f:FuncId} {fn:Func} (hf:P.funcs[f]? =some fn)
  (hname:(fn.name== "runtime.NumGoroutine")=false) (hbody:fn.body.isNone=false) (hnt:fn.ntmps=S.nt) (hlow:S.nt<=1000000) {args:List (PV U)} {boxes:List (Box U)} (hargs:args.length<=S.nt) (hboxes:boxes.length<=1000000)
  {ann:Nat->Option Ann} {fuel:Nat} {keep:Bool} {hand:List Bool} {κ:Out U->Option R} {x:R} (h:IJ V S C ann fuel Cd keep hand fn args boxes κ=some x): ∃out,κ out=some x/\dZ X f args boxes out:=by
 obtain ⟨code,hcode⟩: ∃code,fn.body=some code:=by
  cases hb:fn.body with
  |none=>rw [hb] at hbody;cases hbody
  |some code=>exact ⟨code,rfl⟩
 unfold IJ lR at h
 rw [hcode] at h
 have hpin: ∀ {w:World} {vs:Array Value} {N0:aX} {ν:Nat->Nat} {δ:Nat->Option Nat} {ο:Nat->Array Value} (hg:Given X w vs N0 ν δ ο args boxes),PinOK S (lK w N0 boxes.length args.length ν δ ο hg.oz S.nt hlow hg.bnd X.gblk hg.glob):=by
  intro w vs N0 ν δ ο hg d _
  simp only [lK]
  rw [if_neg (by omega)]
 rcases ahZ (X:=X) hm hI hS hlow hC code h with ⟨e,τ,he,hk,hB⟩|⟨hh,caps,e,τ,hk,hB⟩
 ·have key: ∀ {out:Out U},(∀ (w:World) (vs:Array Value) (N0:aX) (ν:Nat->Nat) (δ:Nat->Option Nat) (ο:Nat->Array Value) (hg:Given X w vs N0 ν δ ο args boxes),
    Lands X (lK w N0 boxes.length args.length ν δ ο hg.oz S.nt hlow hg.bnd X.gblk hg.glob) [] e τ (bodyPost P fn (Ret X w N0 ν δ ο boxes.length args.length out)))->dZ X f args boxes out:=by
   intro out hl
   refine ⟨⟨fn,hf,hname,hbody⟩,fun w vs N0 ν δ ο hg=>Calls.mono (calls_of_wp (R:=Ret X w N0 ν δ ο boxes.length args.length out) hf hcode ?_) fun e w h=>Ret.full h⟩
   have hs:=D_ hg hargs hlow
   rw [hnt]
   exact hB _ (hpin hg) rfl _ w _ _ _ hs (hl w vs N0 ν δ ο hg)
  cases e with
  |exit id=>cases hk
  |normal=>exact absurd rfl he
  |ret=>
   obtain ⟨r,τ0,τ1,gp,hr,ht,hfin⟩:=lS hC _ hk (St.eqv.refl τ)
   cases r with
   |out o=>
    refine ⟨o,hfin,key fun w vs N0 ν δ ο hg a' w' g' D' hd hs=> ?_⟩
    obtain ⟨v,h1,h2⟩:=vk px hg.dom hs hr
    exact ⟨hd,v,h1,h2⟩
   |_=>cases hfin
  |panic v=>
   obtain ⟨r,τ0,τ1,gp,hr,ht,hfin⟩:=lS hC _ hk (St.eqv.refl τ)
   cases r with
   |out o=>
    refine ⟨o,hfin,key fun w vs N0 ν δ ο hg a' w' g' D' hd hs val hval=> ?_⟩
    exact ⟨hd,HV px hg.dom hs hval hr⟩
   |_=>cases hfin
 ·have key: ∀ {out:Out U},(∀ (w:World) (vs:Array Value) (N0:aX) (ν:Nat->Nat) (δ:Nat->Option Nat) (ο:Nat->Array Value) (hg:Given X w vs N0 ν δ ο args boxes) (us:Array Value) (c':Ctx),CtxOf c' w N0 boxes.length args.length ν δ ο->EA c' caps us->
    Lands X c' [{target:= .fn (.func hh) us,args:= #[]}] e τ (bodyPostD P fn (Ret X w N0 ν δ ο boxes.length args.length out)))->dZ X f args boxes out:=by
   intro out hl
   refine ⟨⟨fn,hf,hname,hbody⟩,fun w vs N0 ν δ ο hg=>Calls.mono (calls_of_wp_defers (R:=Ret X w N0 ν δ ο boxes.length args.length out) hf hcode ?_) fun e w h=>Ret.full h⟩
   have hs:=D_ hg hargs hlow
   rw [hnt]
   exact hB _ (hpin hg) rfl _ w _ _ _ hs rfl fun us c' hcx _ hct=>hl w vs N0 ν δ ο hg us c' (hcx _ _ _ _ _ _ _ px) hct
  have fin: ∀ {v:PV U} {u u':FrameMode},RcvOK v u u'->(mF (PV.idsL caps) fun _=>np (fun _=>0) (fun _=>[]) [] none (.func hh [] caps) []).cps (Cd v) τ [] (fun| .done,σ',_=>(nV V keep hand fn.results.toList boxes.length).cps C σ' [] (Go.Proofs.YtgajalidbabccaaGreatDoor.PI.fin κ)|_,_,_=>none)=some x->
    ∃ (out:Out U) (r:MR U) (τ0 τ1 τ2:St U) (gp gp':List Loc),κ out=some x/\(mF (PV.idsL caps) fun _=>np (fun _=>0) (fun _=>[]) [] none (.func hh [] caps) []).Rel (ng X (n7 P u u')) τ [] r τ0 gp/\r= .done/\τ0.eqv τ1/\(nV V keep hand fn.results.toList boxes.length).Rel (dZ X) τ1 [] (.out out) τ2 gp':=by
   intro v u u' hv hk
   obtain ⟨r,τ0,τ1,gp,hr,ht,hk1⟩:=lS (hCd v u u' hv) _ hk (St.eqv.refl τ)
   cases r with
   |raise v=>cases hk1
   |out o=>cases hk1
   |done=>
    obtain ⟨r',τ2,τ3,gp',hr',ht',hk2⟩:=lS hC _ hk1 (St.eqv.refl τ1)
    cases r' with
    |out o=>exact ⟨o,.done,τ0,τ1,τ2,gp,gp',hk2,hr,rfl,ht,hr'⟩
    |_=>cases hk2
  cases e with
  |exit id=>cases hk
  |normal=>
   obtain ⟨out,r,τ0,τ1,τ2,gp,gp',h1,h2,h3,h4,h5⟩:=fin .nil hk
   refine ⟨out,h1,key fun w vs N0 ν δ ο hg us c' hcx hct a' w' g' D' hd hs=> ?_⟩
   simp only [bodyPostD,hd]
   exact Hf hcx hg.dom .nil hct h2 h3 h4 h5 hs
  |ret=>
   obtain ⟨out,r,τ0,τ1,τ2,gp,gp',h1,h2,h3,h4,h5⟩:=fin .nil hk
   refine ⟨out,h1,key fun w vs N0 ν δ ο hg us c' hcx hct a' w' g' D' hd hs=> ?_⟩
   simp only [bodyPostD,hd]
   exact Hf hcx hg.dom .nil hct h2 h3 h4 h5 hs
  |panic v=>
   simp only [kD] at hk
   split at hk
   case h_2=>cases hk
   rename_i t k n'
   obtain ⟨out,r,τ0,τ1,τ2,gp,gp',h1,h2,h3,h4,h5⟩:=fin (.err t k n') hk
   refine ⟨out,h1,key fun w vs N0 ν δ ο hg us c' hcx hct a' w' g' D' hd hs val hval=> ?_⟩
   simp only [bodyPostD,hd]
   cases hval with
   |iface _ u _ hu=>cases hu;exact Hf hcx hg.dom (.err t k n') hct h2 h3 h4 h5 hs
end
end Go.Proofs.YtgajalidbabccaaGreatDoor.PI
namespace Go.Proofs.YtgajalidbabccaaGreatDoor
open Go PI
set_option maxRecDepth 100000
noncomputable section
noncomputable def xE:ET->TypeId
 | .C=>53
 | .T=>26
 | .B=>48
 | .I=>3
 | .F=>22
noncomputable def t7:ET->Nat
 | .C=>2
 | .T=>6
 | .B=>2
 | .I=>1
 | .F=>1
noncomputable def Ck:ET->Nat
 | .C=>8
 | .T=>104
 | .B=>48
 | .I=>8
 | .F=>24
noncomputable def Cw (e:ET):Value:=((Tryz.prog.info? (xE e)).bind (·.zero)).getD undef
noncomputable def GF (e:ET):Bool:=match Tryz.prog.info? (xE e) with
 |some i=>i.zero.isSome&&(aD i.size (t7 e)&&aD i.bytes (Ck e))&&aD (Cw e).cells.size (t7 e)
 | .none=>false
theorem LR (e:ET):GF e=true:=by cases e<;>kernel_rfl
theorem SY: ∀t r,zj t=some r->J9 Tryz.prog xE t r=true:=by
 intro t r h
 unfold zj at h
 split at h<;>first|(injection h with h;subst h;kernel_rfl)|cases h
theorem adC: ∀t r e,zj t=some r->r.keys=some e->e= .C:=by
 intro t r e h hk
 unfold zj at h
 split at h<;>first|(injection h with h;subst h;cases hk;done)|(injection h with h;subst h;injection hk with hk;exact hk.symm)|cases h
theorem akh: ∀e cs y,SW e cs=some y->cs.length=t7 e/\cs.all PV.isCell=true/\ ∀ (k:Nat) p,cs[k]? =some p-> ∃q,(hX e y)[k]? =some q/\p.less q:=by
 have hC: ∀ {p:PU} {l},vT p=some l-> ∃o,p= .sl (U:=UU) ET.C l o:=by
  intro p l h;unfold vT at h;split at h<;>first|(injection h with h;subst h;exact ⟨_,rfl⟩)|cases h
 have hT: ∀ {p:PU} {l},zI p=some l-> ∃o,p= .sl (U:=UU) ET.T l o:=by
  intro p l h;unfold zI at h;split at h<;>first|(injection h with h;subst h;exact ⟨_,rfl⟩)|cases h
 have hB: ∀ {p:PU} {l},Fl p=some l-> ∃o,p= .sl (U:=UU) ET.B l o:=by
  intro p l h;unfold Fl at h;split at h<;>first|(injection h with h;subst h;exact ⟨_,rfl⟩)|cases h
 intro e cs y h
 cases e
 ·have h:J5 cs=some y:=h
  unfold J5 at h
  split at h
  case h_2=>cases h
  injection h with h;subst h
  refine ⟨rfl,rfl,fun k p hp=> ?_⟩
  match k,hp with
  |0,hp=>exact ⟨_,rfl,.inl (Option.some.inj hp).symm⟩
  |1,hp=>exact ⟨_,rfl,.inl (Option.some.inj hp).symm⟩
  |k+2,hp=>simp at hp
 ·have h:J8 cs=some y:=h
  unfold J8 at h
  split at h
  case h_2=>cases h
  split at h
  case h_2=>cases h
  rename_i h1 h2 h3
  injection h with h;subst h
  obtain ⟨o1,rfl⟩:=hC h1;obtain ⟨o2,rfl⟩:=hT h2;obtain ⟨o3,rfl⟩:=hB h3
  refine ⟨rfl,rfl,fun k p hp=> ?_⟩
  match k,hp with
  |0,hp=>exact ⟨_,rfl,.inl (Option.some.inj hp).symm⟩
  |1,hp=>exact ⟨_,rfl,.inl (Option.some.inj hp).symm⟩
  |2,hp=>exact ⟨_,rfl,.inl (Option.some.inj hp).symm⟩
  |3,hp=>exact ⟨_,rfl,.inr ⟨_,_,_,(Option.some.inj hp).symm,rfl⟩⟩
  |4,hp=>exact ⟨_,rfl,.inr ⟨_,_,_,(Option.some.inj hp).symm,rfl⟩⟩
  |5,hp=>exact ⟨_,rfl,.inr ⟨_,_,_,(Option.some.inj hp).symm,rfl⟩⟩
  |k+6,hp=>simp at hp
 ·have h:J4 cs=some y:=h
  unfold J4 at h
  split at h
  case h_2=>cases h
  split at h
  case h_2=>cases h
  rename_i h1 h2
  injection h with h;subst h
  obtain ⟨o1,rfl⟩:=hC h1;obtain ⟨o2,rfl⟩:=hT h2
  refine ⟨rfl,rfl,fun k p hp=> ?_⟩
  match k,hp with
  |0,hp=>exact ⟨_,rfl,.inr ⟨_,_,_,(Option.some.inj hp).symm,rfl⟩⟩
  |1,hp=>exact ⟨_,rfl,.inr ⟨_,_,_,(Option.some.inj hp).symm,rfl⟩⟩
  |k+2,hp=>simp at hp
 ·have h:J7 cs=some y:=h
  unfold J7 at h
  split at h
  case h_2=>cases h
  injection h with h;subst h
  refine ⟨rfl,rfl,fun k p hp=> ?_⟩
  match k,hp with
  |0,hp=>exact ⟨_,rfl,.inl (Option.some.inj hp).symm⟩
  |k+1,hp=>simp at hp
 ·have h:J6 cs=some y:=h
  unfold J6 at h
  split at h
  case h_2=>cases h
  obtain ⟨o1,rfl⟩:=hC h
  refine ⟨rfl,rfl,fun k p hp=> ?_⟩
  match k,hp with
  |0,hp=>exact ⟨_,rfl,.inr ⟨_,_,_,(Option.some.inj hp).symm,rfl⟩⟩
  |k+1,hp=>simp at hp
theorem abr (e:ET): ∃i,Tryz.prog.info? (xE e)=some i/\i.zero=some (Cw e)/\i.size=t7 e/\i.bytes=Ck e:=by
 have h:=LR e
 unfold GF at h
 split at h
 ·rename_i i hi
  simp only [ak] at h
  obtain ⟨⟨h1,h2,h3⟩,h4⟩:=h
  refine ⟨i,hi, ?_,by simpa using h2,by simpa using h3⟩
  unfold Cw
  rw [hi]
  obtain ⟨z,hz⟩:=Option.isSome_iff_exists.1 h1
  simp [hz]
 ·cases h
noncomputable def LL (o:Obj):Link VV Tryz.prog where
 gblk:=[(0,o)]
 etid:=xE
 esize:=t7
 ebytes:=Ck
 ezero:=Cw
 einfo:=abr
 zsize:=fun e=>by
  have h:=LR e
  unfold GF at h
  split at h
  ·simp only [ak] at h
   exact by simpa using h.2
  ·cases h
 epos:=fun e=>by cases e<;>decide
 broom:=fun e n h=>by
  have h':n<=1099511627776:=h
  cases e<;>simp only [Ck,maxLen]<;>omega
 len:=fun e x=>by cases e<;>rfl
 small:=fun e=>by cases e<;>decide
 ecell':=fun e x=>by cases e<;>rfl
 toEl:=akh
 ty:=fun t r h=>SX (SY t r h)
 keyT:=fun t r e h hk=>by
  have he:=adC t r e h hk
  subst he
  obtain ⟨fs,h1,h2,_,h4,h5⟩:=(SX (SY 53 _ rfl)).isInts rfl
  exact ⟨⟨fs,h1,h2,h4,h5⟩,fun x y=>⟨_,by simp only [VV,hX,PV.eqvI];rfl⟩⟩
theorem C4:Tryz.prog.follows .mixedOrders=true:=by kernel_rfl
theorem sw {A B:Out UU->Prop} (h: ∃out,A out/\B out): ∃out,B out/\A out:=by obtain ⟨o,a,b⟩:=h;exact ⟨o,b,a⟩
theorem Yv {S:Type} {b:Bool} {x y:Option S} {v:S} (h:(bif b then x else y)=some v):x=some v\/y=some v:=by
 cases b
 ·exact .inr h
 ·exact .inl h
end
end Go.Proofs.YtgajalidbabccaaGreatDoor
namespace Go.Proofs.YtgajalidbabccaaGreatDoor
open Go PI
def U32 (s:Int):Prop:=0<=s/\s<4294967296
theorem U32.nat {s:Int} (h:U32 s): ∃n:Nat,n<4294967296/\s=n:=⟨s.toNat,by have:=h.1;have:=h.2;omega,by have:=h.1;omega⟩
theorem tx {n:Nat} (h:n<4294967296):(BitVec.ofInt 32 (n:Int)).toNat=n:=by
 grind
theorem qV (n:Nat) (h:n<4294967296):af .u32 (n:Int)=n:=by
 grind [af,IntKind.bits,IntKind.signed]
theorem nf (n:Nat) (h:n<18446744073709551616):af .u64 (n:Int)=n:=by
 grind [af,IntKind.bits,IntKind.signed]
theorem TH {n:Int} (h1: -9223372036854775808<=n) (h2:n<9223372036854775808):af .i64 n=n:=by
 grind [af,IntKind.bits,IntKind.signed]
theorem zH {a b n:Nat} (h:a<2^n):a&&&b<2^n:=Nat.lt_of_le_of_lt Nat.and_le_left h
theorem pF {a b:Nat} (ha:a<4294967296) (hb:b<4294967296):cP .and .u32 (a:Int) (b:Int)=((a&&&b:Nat):Int):=by
 have h1:=tx ha;have h2:=tx hb
 simp only [cP]
 show af .u32 (((BitVec.ofInt 32 (a:Int))&&&(BitVec.ofInt 32 (b:Int))).toNat:Int)=_
 rw [BitVec.toNat_and,h1,h2]
 exact qV _ (zH (n:=32) ha)
theorem zK {a b:Nat} (ha:a<4294967296) (hb:b<4294967296):cP .or .u32 (a:Int) (b:Int)=((a|||b:Nat):Int):=by
 have h1:=tx ha;have h2:=tx hb
 simp only [cP]
 show af .u32 (((BitVec.ofInt 32 (a:Int))|||(BitVec.ofInt 32 (b:Int))).toNat:Int)=_
 rw [BitVec.toNat_or,h1,h2]
 exact qV _ (Nat.or_lt_two_pow (n:=32) ha hb)
def o_ (a b:Nat):Nat:=a^^^(a&&&b)
theorem uV (a b i:Nat):(o_ a b).testBit i=(a.testBit i&& !b.testBit i):=by
 grind [o_]
theorem HH {a b n:Nat} (h:a<2^n):o_ a b<2^n:=Nat.xor_lt_two_pow h (zH h)
theorem Fo {a b:Nat} (ha:a<4294967296) (hb:b<4294967296):cP .andNot .u32 (a:Int) (b:Int)=((o_ a b:Nat):Int):=by
 have h1:=tx ha;have h2:=tx hb
 simp only [cP]
 show af .u32 (((BitVec.ofInt 32 (a:Int))&&& ~~~(BitVec.ofInt 32 (b:Int))).toNat:Int)=_
 have e:((BitVec.ofInt 32 (a:Int))&&& ~~~(BitVec.ofInt 32 (b:Int))).toNat=o_ a b:=by
  apply Nat.eq_of_testBit_eq
  intro i
  rw [uV,BitVec.toNat_and,Nat.testBit_and,h1]
  by_cases hi:i<32
  ·grind
  ·have:a.testBit i=false:=Nat.testBit_lt_two_pow (Nat.lt_of_lt_of_le ha (by exact Nat.pow_le_pow_right (n:=2) (by decide) (show 32<=i by omega)))
   grind
 rw [e]
 exact qV _ (HH (n:=32) ha)
theorem eJ {α:Type} (p:Prop) [Decidable p] (x y:α):ac (decide p) x y=if p then x else y:=by
 grind [al,ae]
theorem kH {α:Type} (c:Bool) (x y:α):ac c x y=if c=true then x else y:=by
 grind [ae,al]
abbrev Fu (k:Nat):Prop:=4294967296<=k
theorem ap {R S:Type} {k:Nat} (h:Fu k) (f:(R->OS S)->OS S) (g:R->OS S):aa k f g=f g:=KV (by omega) f g
theorem cX {S:Type} {n m:Nat} (h:n+m<=1099511627776) (f:Unit->OS S):ag (bQ 1099511627776 n m) f=f ():=by
 grind [bQ]
theorem bM {α:Type} {l p r:List α} {x:α} (h:l=p++x::r) (hl:l.length<4611686018427387904):
  decide ((p.length:Int)<(l.length:Int))=true/\ao l (p.length:Int)=some x/\af .i64 ((p.length:Int)+1)=((p++[x]).length:Int)/\l=(p++[x])++r:=by
 subst h
 rw [List.length_append,dv] at hl
 refine ⟨decide_eq_true (by grind), ?_, ?_,by simp⟩
 all_goals grind [ao,af,IntKind.bits]
theorem eP {α:Type} {l p:List α} (h:l=p++[]):decide ((p.length:Int)<(l.length:Int))=false:=by
 grind
theorem aw {n m:Nat} (h:n<m): ∃q,m=q+1/\n<=q:=⟨m-1,by omega,by omega⟩
theorem oi {S:Type} (p:Prop) [Decidable p] (h:p) (f:Unit->OS S):ag (fA p) f=f ():=by simp [fA,h]
theorem ab9 {α:Type} (l:List α) (i:Nat):ao l (i:Int)=l[i]? :=by rfl
end Go.Proofs.YtgajalidbabccaaGreatDoor
namespace Go.Proofs.YtgajalidbabccaaGreatDoor
open Go PI
set_option maxRecDepth 100000
noncomputable section
variable {S:Type}
abbrev mq (S:Type):=Tm->Int->(Int->OS S)->OS S
def Aw (hd:mq S) (k:Nat) (J:Int->OS S) (t:Tm) (most i7:Int) (rec1:Int->Int->OS S) (rec2:Int->Int->OS S) (v5'' v8:Int):OS S:=ag (ao t.sys i7) fun x5=>ac (decide ((v8:Int)<(x5.kids.length:Int))) (ac (decide ((v5'':Int)<=most)) (ag (ao t.sys i7) fun x6=>ag (ao x6.kids v8) fun x7=>hd (ad x7) (af .i64 (most-v5'')) fun r8=>rec2 (af .i64 (v5''+r8)) (af .i64 (v8+1))) (rec1 v5'' (af .i64 (i7+1)))) (rec1 v5'' (af .i64 (i7+1)))
def oU (hd:mq S) (k:Nat) (J:Int->OS S) (rec1:Int->Int->OS S) (t:Tm) (most i7:Int):Nat->Int->Int->OS S
 |0=>fun _ _=> .none
 |m+1=>fun v5'' v8=>Aw hd k J t most i7 rec1 (oU hd k J rec1 t most i7 m) v5'' v8
def wk (hd:mq S) (k:Nat) (J:Int->OS S) (t:Tm) (most:Int) (J2:Int->Int->Int->OS S) (rec1:Int->Int->OS S) (v5' i7:Int):OS S:=ac (decide ((i7:Int)<(t.sys.length:Int))) (ac (decide ((v5':Int)<=most)) (ag (ao t.sys i7) fun x3=>ac (decide (((x3.face.length:Int):Int)>most)) (J (af .i64 (most+1))) (ag (ao t.sys i7) fun x4=>J2 i7 (af .i64 ((af .i64 (v5'+1))+(x4.face.length:Int))) 0)) (J v5')) (J v5')
def nL (hd:mq S) (k:Nat) (J:Int->OS S) (t:Tm) (most:Int):Nat->Int->Int->OS S
 |0=>fun _ _=> .none
 |m+1=>fun v5' i7=>wk hd k J t most (fun i7 v5'' v8=>oU hd k J (nL hd k J t most m) t most i7 k v5'' v8) (nL hd k J t most m) v5' i7
def wj (hd:mq S) (k:Nat) (J:Int->OS S) (t:Tm) (most:Int) (J1:Int->Int->OS S) (rec0:Int->Int->OS S) (v5 i6:Int):OS S:=ac (decide ((i6:Int)<(t.kids.length:Int))) (ac (decide ((v5:Int)<=most)) (ag (ao t.kids i6) fun x1=>hd (ad x1) (af .i64 (most-v5)) fun r2=>rec0 (af .i64 (v5+r2)) (af .i64 (i6+1))) (J1 v5 0)) (J1 v5 0)
def sA (hd:mq S) (k:Nat) (J:Int->OS S) (t:Tm) (most:Int):Nat->Int->Int->OS S
 |0=>fun _ _=> .none
 |m+1=>fun v5 i6=>wj hd k J t most (fun v5' i7=>nL hd k J t most k v5' i7) (sA hd k J t most m) v5 i6
def JI (hd:mq S) (k:Nat) (J:Int->OS S) (J0:Int->Int->OS S) (t:Tm) (most:Int):OS S:=ac (decide (((t.r.length:Int):Int)>most)) (J (af .i64 (most+1))) (ac (decide (((t.name.size:Int):Int)>most)) (J (af .i64 (most+1))) (J0 (af .i64 ((af .i64 (1+(t.r.length:Int)))+(t.name.size:Int))) 0))
def lZ:Nat->Tm->Int->(Int->OS S)->OS S
 |0=>fun _ _ _=> .none
 |k+1=>fun t most J=>JI (lZ k) k J (fun v5 i6=>sA (lZ k) k J t most k v5 i6) t most
def k_ (k:Nat) (kind:Int) (kids:LT) (J:Int×Int×BA×LT->OS S):OS S:=J (kind,0,au,kids)
def la (k:Nat) (kind kid:Int) (J:Int×Int->OS S):OS S:=ac (kind==4) (ac (kid==1) (J (1,0)) (J (0,0))) (ac (kind==7) (ac (kid==1) (J (1,0)) (J (0,0))) (ac (kind==5) (ac (kid==0) (J (1,0)) (J (0,0))) (ac (kind==22) (ac (kid==0) (J (1,0)) (J (0,0))) (ac (kind==27) (ac (kid==0) (J (1,0)) (J (0,0))) (ac (kind==11) (ac (kid==0) (J (0,1)) (J (0,0))) (ac (kind==12) (ac (kid==0) (J (0,1)) (J (0,0))) (ac (kind==14) (ac (kid==0) (J (0,1)) (J (0,0))) (J (0,0)))))))))
abbrev gL (S:Type):=Tm->Int->(Bool->OS S)->OS S
def xk (hd:gL S) (k:Nat) (a_k:Tm) (p p' c0:Int) (J:Bool->OS S):OS S:=hd (ad a_k) (af .i64 (c0-1)) fun r1=>J r1
def AH (hd:gL S) (k:Nat) (J:Bool->OS S) (c0:Int) (t:Tm) (v42:Int) (x4:(Br Tm)) (more9:Int) (rec1:Int->Int->OS S) (rec2:Int->OS S) (v49:Int):OS S:=ac (decide ((v49:Int)<(x4.kids.length:Int))) (ag (ao x4.kids v49) fun x5=>aa k (xk hd k (ad x5) 0 more9 c0) fun r6=>ac (!r6) (J false) (rec2 (af .i64 (v49+1)))) (rec1 (af .i64 (v42+1)) more9)
def sH (hd:gL S) (k:Nat) (J:Bool->OS S) (rec1:Int->Int->OS S) (c0:Int) (t:Tm) (v42:Int) (x4:(Br Tm)) (more9:Int):Nat->Int->OS S
 |0=>fun _=> .none
 |m+1=>fun v49=>AH hd k J c0 t v42 x4 more9 rec1 (sH hd k J rec1 c0 t v42 x4 more9 m) v49
def wy (hd:gL S) (k:Nat) (J:Bool->OS S) (c0:Int) (t:Tm) (J2:Int->(Br Tm)->Int->Int->OS S) (rec1:Int->Int->OS S) (v42 more9:Int):OS S:=ac (decide ((v42:Int)<(t.sys.length:Int))) (ag (ao t.sys v42) fun x4=>J2 v42 x4 more9 0) (J true)
def nM (hd:gL S) (k:Nat) (J:Bool->OS S) (c0:Int) (t:Tm):Nat->Int->Int->OS S
 |0=>fun _ _=> .none
 |m+1=>fun v42 more9=>wy hd k J c0 t (fun v42 x4 more9 v49=>sH hd k J (nM hd k J c0 t m) c0 t v42 x4 more9 k v49) (nM hd k J c0 t m) v42 more9
def wx (hd:gL S) (k:Nat) (J:Bool->OS S) (c0:Int) (t:Tm) (J1:Int->Int->OS S) (rec0:Int->OS S) (v17:Int):OS S:=ac (decide ((v17:Int)<(t.kids.length:Int))) (ag (ao t.kids v17) fun x1=>aa k (la k t.kind v17) fun r2=>aa k (xk hd k (ad x1) r2.1 r2.2 c0) fun r3=>ac (!r3) (J false) (rec0 (af .i64 (v17+1)))) (ac (t.kind==15) (J1 0 1) (J1 0 0))
def uM (hd:gL S) (k:Nat) (J:Bool->OS S) (c0:Int) (t:Tm):Nat->Int->OS S
 |0=>fun _=> .none
 |m+1=>fun v17=>wx hd k J c0 t (fun v42 more9=>nM hd k J c0 t k v42 more9) (uM hd k J c0 t m) v17
def JS (hd:gL S) (k:Nat) (J:Bool->OS S) (J0:Int->OS S) (t:Tm) (c0:Int):OS S:=J0 0
def Gj (hd:gL S) (k:Nat) (t:Tm) (c0:Int) (J:Bool->OS S):OS S:=JS hd k J (fun v17=>uM hd k J c0 t k v17) t c0
def SR (hd:gL S) (k:Nat) (J:Bool->OS S) (t:Tm) (left:Int):OS S:=ac (decide ((left:Int)>0)) (aa k (Gj hd k (ad t) left) fun r1=>J r1) (J false)
def nz:Nat->Tm->Int->(Bool->OS S)->OS S
 |0=>fun _ _ _=> .none
 |k+1=>fun t left J=>SR (nz k) k J t left
abbrev iq (S:Type):=Tm->Int->(Bool×Int->OS S)->OS S
def tT (hd:iq S) (k:Nat) (t:Tm) (c0:Int) (J:Bool×Int->OS S):OS S:=ac (decide ((af .i64 (c0-1):Int)>=0)) (hd (ad t) (af .i64 (c0-1)) fun r1=>J (r1.1,r1.2)) (J (false,af .i64 (c0-1)))
def xm (hd:iq S) (k:Nat) (a_k:Tm) (p p' c1:Int) (J:Bool×Int->OS S):OS S:=aa k (tT hd k (ad a_k) c1) fun r1=>J (r1.1,r1.2)
def AF (hd:iq S) (k:Nat) (J:Bool×Int->OS S) (t:Tm) (v42:Int) (x4:(Br Tm)) (more9:Int) (rec1:Int->Int->Int->OS S) (rec2:Int->Int->OS S) (e1_0'' v49:Int):OS S:=ac (decide ((v49:Int)<(x4.kids.length:Int))) (ag (ao x4.kids v49) fun x5=>aa k (xm hd k (ad x5) 0 more9 e1_0'') fun r6=>ac (!r6.1) (J (false,r6.2)) (rec2 r6.2 (af .i64 (v49+1)))) (rec1 e1_0'' (af .i64 (v42+1)) more9)
def oV (hd:iq S) (k:Nat) (J:Bool×Int->OS S) (rec1:Int->Int->Int->OS S) (t:Tm) (v42:Int) (x4:(Br Tm)) (more9:Int):Nat->Int->Int->OS S
 |0=>fun _ _=> .none
 |m+1=>fun e1_0'' v49=>AF hd k J t v42 x4 more9 rec1 (oV hd k J rec1 t v42 x4 more9 m) e1_0'' v49
def wm (hd:iq S) (k:Nat) (J:Bool×Int->OS S) (t:Tm) (J2:Int->(Br Tm)->Int->Int->Int->OS S) (rec1:Int->Int->Int->OS S) (e1_0' v42 more9:Int):OS S:=ac (decide ((v42:Int)<(t.sys.length:Int))) (ag (ao t.sys v42) fun x4=>J2 v42 x4 more9 e1_0' 0) (J (true,e1_0'))
def mH (hd:iq S) (k:Nat) (J:Bool×Int->OS S) (t:Tm):Nat->Int->Int->Int->OS S
 |0=>fun _ _ _=> .none
 |m+1=>fun e1_0' v42 more9=>wm hd k J t (fun v42 x4 more9 e1_0'' v49=>oV hd k J (mH hd k J t m) t v42 x4 more9 k e1_0'' v49) (mH hd k J t m) e1_0' v42 more9
def wl (hd:iq S) (k:Nat) (J:Bool×Int->OS S) (t:Tm) (J1:Int->Int->Int->OS S) (rec0:Int->Int->OS S) (dl v17:Int):OS S:=ac (decide ((v17:Int)<(t.kids.length:Int))) (ag (ao t.kids v17) fun x1=>aa k (la k t.kind v17) fun r2=>aa k (xm hd k (ad x1) r2.1 r2.2 dl) fun r3=>ac (!r3.1) (J (false,r3.2)) (rec0 r3.2 (af .i64 (v17+1)))) (ac (t.kind==15) (J1 dl 0 1) (J1 dl 0 0))
def sD (hd:iq S) (k:Nat) (J:Bool×Int->OS S) (t:Tm):Nat->Int->Int->OS S
 |0=>fun _ _=> .none
 |m+1=>fun dl v17=>wl hd k J t (fun e1_0' v42 more9=>mH hd k J t k e1_0' v42 more9) (sD hd k J t m) dl v17
def JQ (hd:iq S) (k:Nat) (J:Bool×Int->OS S) (J0:Int->Int->OS S) (t:Tm) (c1:Int):OS S:=J0 c1 0
def kj:Nat->Tm->Int->(Bool×Int->OS S)->OS S
 |0=>fun _ _ _=> .none
 |k+1=>fun t c1 J=>JQ (kj k) k J (fun dl v17=>sD (kj k) k J t k dl v17) t c1
def B3 (k:Nat) (t:Tm) (most:Int) (J:Bool->OS S):OS S:=aa k (tT (kj k) k (ad t) most) fun r1=>J r1.1
def xl (k:Nat) (t:Tm) (J:Int->OS S):OS S:=nz k (ad t) 200 fun r1=>ac (!r1) (J 62) (aa k (B3 k (ad t) 20000) fun r2=>ac (!r2) (J 221) (J 0))
def BZ (k:Nat) (kind:Int) (J:Int->OS S):OS S:=ac (kind==1) (J 0) (ac (kind==2) (J 0) (ac (kind==3) (J 0) (ac (kind==19) (J 0) (ac (kind==20) (J 0) (ac (kind==24) (J 0) (ac (kind==25) (J 0) (ac (kind==21) (J 0) (ac (kind==5) (J 1) (ac (kind==9) (J 1) (ac (kind==10) (J 1) (ac (kind==23) (J 1) (ac (kind==12) (J 1) (ac (kind==16) (J 1) (ac (kind==17) (J 1) (ac (kind==18) (J 1) (ac (kind==26) (J 1) (ac (kind==4) (J 2) (ac (kind==7) (J 2) (ac (kind==6) (J 2) (ac (kind==8) (J 2) (ac (kind==14) (J 2) (ac (kind==15) (J 2) (ac (kind==28) (J 2) (ac (kind==11) (J 3) (ac (kind==13) (J 3) (ac (kind==22) (J 4) (ac (kind==27) (J 5) (J (-1)))))))))))))))))))))))))))))
def pR (k:Nat) (kind:Int) (J:Int->OS S):OS S:=ac (kind==15) (J 1) (ac (kind==17) (J 1) (ac (kind==18) (J 1) (ac (kind==16) (J 2) (J 0))))
def Fq (k:Nat) (J:Bool->OS S) (s:BA) (v8:Int) (x1:UInt8) (rec0:Int->OS S) (letter5:Bool):OS S:=ac (!letter5) (ac (v8==0) (J false) (ac (decide (((x1.toNat:Int):Int)<48)) (J false) (ac (decide (((x1.toNat:Int):Int)>57)) (J false) (rec0 (af .i64 (v8+1)))))) (rec0 (af .i64 (v8+1)))
def CS (k:Nat) (J:Bool->OS S) (rec0:Int->OS S) (s:BA) (v8:Int) (x1:UInt8):Nat->Bool->OS S
 |0=>fun _=> .none
 |_+1=>fun letter5=>Fq k J s v8 x1 rec0 letter5
def wD (k:Nat) (J:Bool->OS S) (s:BA) (J1:Int->UInt8->Bool->OS S) (rec0:Int->OS S) (v8:Int):OS S:=ac (decide ((v8:Int)<(s.size:Int))) (ag (ao s.data.toList v8) fun x1=>ac (decide (((x1.toNat:Int):Int)>=97)) (ac (decide (((x1.toNat:Int):Int)<=122)) (J1 v8 x1 true) (ac (decide (((x1.toNat:Int):Int)>=65)) (ac (decide (((x1.toNat:Int):Int)<=90)) (J1 v8 x1 true) (J1 v8 x1 ((x1.toNat:Int)==95))) (J1 v8 x1 ((x1.toNat:Int)==95)))) (ac (decide (((x1.toNat:Int):Int)>=65)) (ac (decide (((x1.toNat:Int):Int)<=90)) (J1 v8 x1 true) (J1 v8 x1 ((x1.toNat:Int)==95))) (J1 v8 x1 ((x1.toNat:Int)==95)))) (J (!(s==au)))
def sK (k:Nat) (J:Bool->OS S) (s:BA):Nat->Int->OS S
 |0=>fun _=> .none
 |m+1=>fun v8=>wD k J s (fun v8 x1 letter5=>CS k J (sK k J s m) s v8 x1 k letter5) (sK k J s m) v8
def JV (k:Nat) (J:Bool->OS S) (J0:Int->OS S) (s:BA):OS S:=J0 0
def B2 (k:Nat) (s:BA) (J:Bool->OS S):OS S:=JV k J (fun v8=>sK k J s k v8) s
def tP (k:Nat) (s:Int) (J:Bool->OS S):OS S:=J ((cP .andNot .u32 s 16777215)==0)
def wP (k:Nat) (c:Cl) (J:Bool->OS S):OS S:=aa k (tP k c.pos) fun r1=>ac (r1) (aa k (tP k c.neg) fun r2=>J r2) (J false)
def tB (k:Nat) (a b:Cl) (J:Cl->OS S):OS S:=J (Cl.mk (cP .or .u32 a.pos b.pos) (cP .or .u32 a.neg b.neg))
def A8 (k:Nat) (a b:Cl) (J:Bool->OS S):OS S:=aa k (tB k a b) fun r1=>J ((r1.pos==a.pos)&&((r1.neg==a.neg)&&true))
def A_ (k:Nat) (d c0:Cl) (J:Bool->OS S):OS S:=ac (!((c0.pos==d.pos)&&((c0.neg==d.neg)&&true))) (aa k (A8 k c0 d) fun r1=>J r1) (J false)
def AB (k:Nat) (J:Int->OS S) (c0:Cl) (s:LC) (rec0:Int->OS S) (v8:Int):OS S:=ac (decide ((v8:Int)<(s.length:Int))) (ag (ao s v8) fun x1=>aa k (A_ k x1 c0) fun r2=>ac (r2) (J v8) (rec0 (af .i64 (v8+1)))) (J (-1))
def uI (k:Nat) (J:Int->OS S) (c0:Cl) (s:LC):Nat->Int->OS S
 |0=>fun _=> .none
 |m+1=>fun v8=>AB k J c0 s (uI k J c0 s m) v8
def JM (k:Nat) (J:Int->OS S) (J0:Int->OS S) (s:LC) (c0:Cl):OS S:=J0 0
def Gg (k:Nat) (s:LC) (c0:Cl) (J:Int->OS S):OS S:=JM k J (fun v8=>uI k J c0 s k v8) s c0
def Ge (k:Nat) (s:LC) (c0:Cl) (J:Bool->OS S):OS S:=aa k (Gg k s c0) fun r1=>J (decide ((r1:Int)>=0))
def A9 (k:Nat) (c:Cl) (c0:LC) (J:Bool->OS S):OS S:=aa k (Ge k c0 c) fun r1=>J r1
def zN (k:Nat) (J:LC×Int->OS S) (b5_0:LC) (rec1:Int->(LC)->OS S) (v36:Int) (kept9:LC):OS S:=ac (decide ((v36:Int)<(b5_0.length:Int))) (ag (ao b5_0 v36) fun x4=>aa k (A9 k x4 b5_0) fun r5=>ac (!r5) (ag (bQ 1099511627776 kept9.length [x4].length) fun x6=>rec1 (af .i64 (v36+1)) (kept9++[x4])) (rec1 (af .i64 (v36+1)) kept9)) (ac (decide (((kept9.length:Int):Int)>64)) (J (([]:LC),3)) (J (sortCl kept9,0)))
def rT (k:Nat) (J:LC×Int->OS S) (b5_0:LC):Nat->Int->(LC)->OS S
 |0=>fun _ _=> .none
 |m+1=>fun v36 kept9=>zN k J b5_0 (rT k J b5_0 m) v36 kept9
def vV (k:Nat) (J:LC×Int->OS S) (l:LC) (J1:(LC)->Int->(LC)->OS S) (rec0:(List (Cl×Bool))->(LC)->Int->OS S) (iR:List (Cl×Bool)) (b5_0:LC) (v15:Int):OS S:=ac (decide ((v15:Int)<(l.length:Int))) (ag (ao l v15) fun x1=>aa k (wP k x1) fun r2=>ac (!r2) (J (([]:LC),2)) (ac (!((iM VV ET.C iR x1).getD false)) (ag (bQ 1099511627776 b5_0.length [x1].length) fun x3=>rec0 (kw VV ET.C iR x1 true) (b5_0++[x1]) (af .i64 (v15+1))) (rec0 iR b5_0 (af .i64 (v15+1))))) (J1 b5_0 0 ([]:LC))
def ug (k:Nat) (J:LC×Int->OS S) (l:LC):Nat->(List (Cl×Bool))->(LC)->Int->OS S
 |0=>fun _ _ _=> .none
 |m+1=>fun iR b5_0 v15=>vV k J l (fun b5_0 v36 kept9=>rT k J b5_0 k v36 kept9) (ug k J l m) iR b5_0 v15
def Jc (k:Nat) (J:LC×Int->OS S) (J0:(List (Cl×Bool))->(LC)->Int->OS S) (l:LC):OS S:=J0 ([]:List (Cl×Bool)) ([]:LC) 0
def kZ (k:Nat) (l:LC) (J:LC×Int->OS S):OS S:=Jc k J (fun iR b5_0 v15=>ug k J l k iR b5_0 v15) l
def Az (k:Nat) (J:Bool->OS S) (s1 s2:LC) (rec0:Int->OS S) (v13:Int):OS S:=ac (decide ((v13:Int)<(s1.length:Int))) (ag (ao s1 v13) fun x1=>ag (ao s2 v13) fun x2=>ac (!((x1.pos==x2.pos)&&((x1.neg==x2.neg)&&true))) (J false) (rec0 (af .i64 (v13+1)))) (J true)
def uH (k:Nat) (J:Bool->OS S) (s1 s2:LC):Nat->Int->OS S
 |0=>fun _=> .none
 |m+1=>fun v13=>Az k J s1 s2 (uH k J s1 s2 m) v13
def JL (k:Nat) (J:Bool->OS S) (J0:Int->OS S) (s1 s2:LC):OS S:=ac (!((s1.length:Int)==(s2.length:Int))) (J false) (J0 0)
def BY (k:Nat) (s1 s2:LC) (J:Bool->OS S):OS S:=JL k J (fun v13=>uH k J s1 s2 k v13) s1 s2
def mA (k:Nat) (f:LC) (J:Bool->OS S):OS S:=aa k (kZ k f) fun r1=>ac (r1.2==0) (aa k (BY k r1.1 f) fun r2=>J r2) (J false)
def rH (k:Nat) (i:Int) (J:Bool->OS S):OS S:=ac (decide ((i:Int)>=0)) (J (decide ((i:Int)<24))) (J false)
def oy (k:Nat) (s i:Int) (J:Int->OS S):OS S:=aa k (rH k i) fun r1=>ac (!r1) (J (cP .and .u32 s 16777215)) (ag (fA (0<=(af .u64 i))) fun x2=>J (cP .andNot .u32 (cP .and .u32 s 16777215) (af .u32 (1*2^min (Int.toNat (af .u64 i)) 32))))
def z8 (k:Nat) (J:Int->OS S) (f:LC) (rec0:Int->Int->OS S) (s3 v8:Int):OS S:=ac (decide ((v8:Int)<(f.length:Int))) (ag (ao f v8) fun x1=>rec0 (cP .or .u32 s3 (cP .or .u32 x1.pos x1.neg)) (af .i64 (v8+1))) (aa k (oy k s3 (-1)) fun r2=>J r2)
def uq (k:Nat) (J:Int->OS S) (f:LC):Nat->Int->Int->OS S
 |0=>fun _ _=> .none
 |m+1=>fun s3 v8=>z8 k J f (uq k J f m) s3 v8
def Jq (k:Nat) (J:Int->OS S) (J0:Int->Int->OS S) (f:LC):OS S:=J0 0 0
def tF (k:Nat) (f:LC) (J:Int->OS S):OS S:=Jq k J (fun s3 v8=>uq k J f k s3 v8) f
def pS (k:Nat) (f:LC) (dims:Int) (J:Bool->OS S):OS S:=ac (decide ((dims:Int)>=24)) (J true) (aa k (tF k f) fun r1=>ag (fA (0<=(af .u64 dims))) fun x2=>J ((Int.fdiv r1 (2^min (Int.toNat (af .u64 dims)) 32))==0))
def wO (k:Nat) (c:Cl) (J:Bool->OS S):OS S:=J (!((cP .and .u32 c.pos c.neg)==0))
def AC (k:Nat) (J:Int->OS S) (s:LC) (rec0:Int->OS S) (v8:Int):OS S:=ac (decide ((v8:Int)<(s.length:Int))) (ag (ao s v8) fun x1=>aa k (wO k x1) fun r2=>ac (r2) (J v8) (rec0 (af .i64 (v8+1)))) (J (-1))
def uJ (k:Nat) (J:Int->OS S) (s:LC):Nat->Int->OS S
 |0=>fun _=> .none
 |m+1=>fun v8=>AC k J s (uJ k J s m) v8
def JN (k:Nat) (J:Int->OS S) (J0:Int->OS S) (s:LC):OS S:=J0 0
def Gi (k:Nat) (s:LC) (J:Int->OS S):OS S:=JN k J (fun v8=>uJ k J s k v8) s
def Gf (k:Nat) (s:LC) (J:Bool->OS S):OS S:=aa k (Gi k s) fun r1=>J (decide ((r1:Int)>=0))
def ol (k:Nat) (f:LC) (J:Bool->OS S):OS S:=aa k (mA k f) fun r1=>ac (r1) (aa k (Gf k f) fun r2=>J (!r2)) (J false)
def AK (k:Nat) (J:Bool->OS S) (t:Tm) (dims:Int) (rec1:Int->OS S) (v109:Int):OS S:=ac (decide ((v109:Int)<(t.sys.length:Int))) (ag (ao t.sys v109) fun x12=>aa k (pR k t.kind) fun r13=>ac (!((x12.kids.length:Int)==r13)) (J false) (aa k (ol k x12.face) fun r14=>ac (!r14) (J false) (aa k (pS k x12.face dims) fun r15=>ac (!r15) (J false) (rec1 (af .i64 (v109+1)))))) (J ((t.r.length:Int)==0))
def oY (k:Nat) (J:Bool->OS S) (t:Tm) (dims:Int):Nat->Int->OS S
 |0=>fun _=> .none
 |m+1=>fun v109=>AK k J t dims (oY k J t dims m) v109
def wE (k:Nat) (J:Bool->OS S) (t:Tm) (vars dims:Int) (J1:Int->OS S):OS S:=ac (t.kind==1) (ac ((t.r.length:Int)==0) (ac (decide ((t.n:Int)>=0)) (ac (decide ((vars:Int)<0)) (J true) (J (decide ((t.n:Int)<vars)))) (J false)) (J false)) (ac (t.kind==2) (ac ((t.r.length:Int)==0) (aa k (B2 k t.name) fun r3=>J r3) (J false)) (ac (t.kind==13) (aa k (mA k t.r) fun r4=>ac (r4) (aa k (pS k t.r dims) fun r5=>J r5) (J false)) (ac (t.kind==21) (aa k (mA k t.r) fun r6=>ac (r6) (aa k (pS k t.r dims) fun r7=>J r7) (J false)) (ac (t.kind==26) (aa k (mA k t.r) fun r8=>ac (r8) (aa k (pS k t.r dims) fun r9=>J r9) (J false)) (ac (t.kind==14) (aa k (ol k t.r) fun r10=>ac (r10) (aa k (pS k t.r dims) fun r11=>J r11) (J false)) (J1 0))))))
def CT (k:Nat) (J:Bool->OS S) (t:Tm) (vars dims:Int):Nat->OS S
 |0=> .none
 |_+1=>wE k J t vars dims (fun v109=>oY k J t dims k v109)
def JW (k:Nat) (J:Bool->OS S) (J0:OS S) (t:Tm) (vars dims:Int):OS S:=aa k (BZ k t.kind) fun r1=>ac (!(r1==(t.kids.length:Int))) (J false) (ac (!(t.kind==1)) (ac (!(t.n==0)) (J false) (ac (!(t.kind==2)) (ac (!(t.name==au)) (J false) (aa k (pR k t.kind) fun r2=>ac (r2==0) (ac (decide (((t.sys.length:Int):Int)>0)) (J false) (J0)) (J0))) (aa k (pR k t.kind) fun r16=>ac (r16==0) (ac (decide (((t.sys.length:Int):Int)>0)) (J false) (J0)) (J0)))) (ac (!(t.kind==2)) (ac (!(t.name==au)) (J false) (aa k (pR k t.kind) fun r17=>ac (r17==0) (ac (decide (((t.sys.length:Int):Int)>0)) (J false) (J0)) (J0))) (aa k (pR k t.kind) fun r18=>ac (r18==0) (ac (decide (((t.sys.length:Int):Int)>0)) (J false) (J0)) (J0))))
def xj (k:Nat) (t:Tm) (vars dims:Int) (J:Bool->OS S):OS S:=JW k J (CT k J t vars dims k) t vars dims
abbrev gK (S:Type):=Tm->Int->Int->Bool->(Bool->OS S)->OS S
def xg (hd:gK S) (k:Nat) (a_k:Tm) (v d c0 c1:Int) (c2:Bool) (J:Bool->OS S):OS S:=ac (decide ((c0:Int)<0)) (hd (ad a_k) (af .i64 (c0+0)) (af .i64 (c1+d)) c2 fun r1=>J r1) (hd (ad a_k) (af .i64 (c0+v)) (af .i64 (c1+d)) c2 fun r2=>J r2)
def AG (hd:gK S) (k:Nat) (J:Bool->OS S) (c0 c1:Int) (c2:Bool) (t:Tm) (v42:Int) (x4:(Br Tm)) (more9:Int) (rec1:Int->Int->OS S) (rec2:Int->OS S) (v49:Int):OS S:=ac (decide ((v49:Int)<(x4.kids.length:Int))) (ag (ao x4.kids v49) fun x5=>aa k (xg hd k (ad x5) 0 more9 c0 c1 c2) fun r6=>ac (!r6) (J false) (rec2 (af .i64 (v49+1)))) (rec1 (af .i64 (v42+1)) more9)
def ql (hd:gK S) (k:Nat) (J:Bool->OS S) (rec1:Int->Int->OS S) (c0 c1:Int) (c2:Bool) (t:Tm) (v42:Int) (x4:(Br Tm)) (more9:Int):Nat->Int->OS S
 |0=>fun _=> .none
 |m+1=>fun v49=>AG hd k J c0 c1 c2 t v42 x4 more9 rec1 (ql hd k J rec1 c0 c1 c2 t v42 x4 more9 m) v49
def ww (hd:gK S) (k:Nat) (J:Bool->OS S) (c0 c1:Int) (c2:Bool) (t:Tm) (J2:Int->(Br Tm)->Int->Int->OS S) (rec1:Int->Int->OS S) (v42 more9:Int):OS S:=ac (decide ((v42:Int)<(t.sys.length:Int))) (ag (ao t.sys v42) fun x4=>J2 v42 x4 more9 0) (J true)
def mI (hd:gK S) (k:Nat) (J:Bool->OS S) (c0 c1:Int) (c2:Bool) (t:Tm):Nat->Int->Int->OS S
 |0=>fun _ _=> .none
 |m+1=>fun v42 more9=>ww hd k J c0 c1 c2 t (fun v42 x4 more9 v49=>ql hd k J (mI hd k J c0 c1 c2 t m) c0 c1 c2 t v42 x4 more9 k v49) (mI hd k J c0 c1 c2 t m) v42 more9
def wq (hd:gK S) (k:Nat) (J:Bool->OS S) (c0 c1:Int) (c2:Bool) (t:Tm) (J1:Int->Int->OS S) (rec0:Int->OS S) (v17:Int):OS S:=ac (decide ((v17:Int)<(t.kids.length:Int))) (ag (ao t.kids v17) fun x1=>aa k (la k t.kind v17) fun r2=>aa k (xg hd k (ad x1) r2.1 r2.2 c0 c1 c2) fun r3=>ac (!r3) (J false) (rec0 (af .i64 (v17+1)))) (ac (t.kind==15) (J1 0 1) (J1 0 0))
def sE (hd:gK S) (k:Nat) (J:Bool->OS S) (c0 c1:Int) (c2:Bool) (t:Tm):Nat->Int->OS S
 |0=>fun _=> .none
 |m+1=>fun v17=>wq hd k J c0 c1 c2 t (fun v42 more9=>mI hd k J c0 c1 c2 t k v42 more9) (sE hd k J c0 c1 c2 t m) v17
def JR (hd:gK S) (k:Nat) (J:Bool->OS S) (J0:Int->OS S) (t:Tm) (c0 c1:Int) (c2:Bool):OS S:=J0 0
def B1 (hd:gK S) (k:Nat) (t:Tm) (c0 c1:Int) (c2:Bool) (J:Bool->OS S):OS S:=JR hd k J (fun v17=>sE hd k J c0 c1 c2 t k v17) t c0 c1 c2
def SQ (hd:gK S) (k:Nat) (J:Bool->OS S) (t:Tm) (vars dims:Int) (bound:Bool):OS S:=ac (bound) (ac (decide ((dims:Int)>24)) (J false) (aa k (xj k (ad t) vars dims) fun r1=>ac (!r1) (J false) (aa k (B1 hd k (ad t) vars dims bound) fun r2=>J r2))) (aa k (xj k (ad t) vars dims) fun r3=>ac (!r3) (J false) (aa k (B1 hd k (ad t) vars dims bound) fun r4=>J r4))
def kh:Nat->Tm->Int->Int->Bool->(Bool->OS S)->OS S
 |0=>fun _ _ _ _ _=> .none
 |k+1=>fun t vars dims bound J=>SQ (kh k) k J t vars dims bound
def j0 (k:Nat) (t:Tm) (J:Int->OS S):OS S:=aa k (xl k (ad t)) fun r1=>ac (!(r1==0)) (J r1) (kh k (ad t) (-1) 24 false fun r2=>ac (!r2) (J 100) (J 0))
abbrev jS (S:Type):=Tm->(Tm->OS S)->OS S
def AE (hd:jS S) (k:Nat) (J:LT->OS S) (l:LT) (rec0:(LT)->Int->OS S) (out3:LT) (v8:Int):OS S:=ac (decide ((v8:Int)<(l.length:Int))) (ag (ao l v8) fun x1=>hd (ad x1) fun r2=>ag (bQ 1099511627776 out3.length [(ad r2)].length) fun x3=>rec0 (out3++[(ad r2)]) (af .i64 (v8+1))) (J out3)
def uL (hd:jS S) (k:Nat) (J:LT->OS S) (l:LT):Nat->(LT)->Int->OS S
 |0=>fun _ _=> .none
 |m+1=>fun out3 v8=>AE hd k J l (uL hd k J l m) out3 v8
def JP (hd:jS S) (k:Nat) (J:LT->OS S) (J0:(LT)->Int->OS S) (l:LT):OS S:=J0 ([]:LT) 0
def xh (hd:jS S) (k:Nat) (l:LT) (J:LT->OS S):OS S:=JP hd k J (fun out3 v8=>uL hd k J l k out3 v8) l
def AD (hd:jS S) (k:Nat) (J:Tm->OS S) (t:Tm) (r1:LC) (r2:LT) (rec0:(LB)->Int->OS S) (b3_5:LB) (v22:Int):OS S:=ac (decide ((v22:Int)<(t.sys.length:Int))) (ag (ao t.sys v22) fun x3=>u4 x3.face fun r4=>aa k (xh hd k x3.kids) fun r5=>ag (bQ 1099511627776 b3_5.length [(Br.mk r4 r5)].length) fun x6=>rec0 (b3_5++[(Br.mk r4 r5)]) (af .i64 (v22+1))) (J (Tm.mk t.kind t.n t.name r1 r2 b3_5))
def uK (hd:jS S) (k:Nat) (J:Tm->OS S) (t:Tm) (r1:LC) (r2:LT):Nat->(LB)->Int->OS S
 |0=>fun _ _=> .none
 |m+1=>fun b3_5 v22=>AD hd k J t r1 r2 (uK hd k J t r1 r2 m) b3_5 v22
def JO (hd:jS S) (k:Nat) (J:Tm->OS S) (J0:(LC)->(LT)->(LB)->Int->OS S) (t:Tm):OS S:=u4 t.r fun r1=>aa k (xh hd k t.kids) fun r2=>J0 r1 r2 ([]:LB) 0
def fH:Nat->Tm->(Tm->OS S)->OS S
 |0=>fun _ _=> .none
 |k+1=>fun t J=>JO (fH k) k J (fun r1 r2 b3_5 v22=>uK (fH k) k J t r1 r2 k b3_5 v22) t
def jh (k:Nat) (t:Tm) (a_e c0:Int) (J:Tm×Int->OS S):OS S:=ac (c0==0) (ac (!(a_e==0)) (J ((Tm.mk 0 0 au [] [] []),a_e)) (J ((ad t),a_e))) (ac (!(c0==0)) (J ((Tm.mk 0 0 au [] [] []),c0)) (J ((ad t),c0)))
def ef (k:Nat) (c0:Int) (J:Bool->OS S):OS S:=J (c0==0)
def hY (k:Nat) (t:Tm) (c0:Int) (J:Tm×Bool×Int×Int->OS S):OS S:=aa k (j0 k (ad t)) fun r1=>aa k (jh k (ad t) r1 c0) fun r2=>fH k (ad r2.1) fun r3=>aa k (ef k r2.2) fun r4=>J ((ad r3),r4,r2.2,r2.2)
def Ae (k:Nat) (J:Int->OS S) (l:List (LC)) (rec0:Int->OS S) (v7:Int):OS S:=ac (decide ((v7:Int)<(l.length:Int))) (ag (ao l v7) fun x1=>aa k (mA k x1) fun r2=>ac (!r2) (J 2) (rec0 (af .i64 (v7+1)))) (J 0)
def ux (k:Nat) (J:Int->OS S) (l:List (LC)):Nat->Int->OS S
 |0=>fun _=> .none
 |m+1=>fun v7=>Ae k J l (ux k J l m) v7
def Jw (k:Nat) (J:Int->OS S) (J0:Int->OS S) (l:List (LC)):OS S:=J0 0
def tH (k:Nat) (l:List (LC)) (J:Int->OS S):OS S:=Jw k J (fun v7=>ux k J l k v7) l
def rE (k:Nat) (J:LC->OS S):OS S:=J ([]:LC)
def tQ (k:Nat) (i:Int) (J:Int->OS S):OS S:=ag (fA (0<=(af .u64 (if 24<i then 24 else i)))) fun x1=>J (af .u32 (af .u64 ((af .u64 (1*2^min (Int.toNat (af .u64 (if 24<i then 24 else i))) 64))-1)))
def pO (k:Nat) (s a_from a_by:Int) (J:Int×Int->OS S):OS S:=ac (decide ((a_from:Int)<0)) (J (0,2)) (ac (decide ((a_by:Int)<0)) (J (0,2)) (aa k (tQ k a_from) fun r1=>aa k (tQ k a_from) fun r2=>ac ((af .u64 (cP .andNot .u32 (cP .and .u32 s 16777215) r2))==0) (J (cP .and .u32 (cP .and .u32 s 16777215) r1,0)) (ac (decide ((a_by:Int)>=24)) (J (0,10)) (ag (fA (0<=(af .u64 a_by))) fun x3=>ac (decide ((af .u64 ((af .u64 (cP .andNot .u32 (cP .and .u32 s 16777215) r2))*2^min (Int.toNat (af .u64 a_by)) 64):Int)>16777215)) (J (0,10)) (ag (fA (0<=(af .u64 a_by))) fun x4=>J (cP .or .u32 (cP .and .u32 (cP .and .u32 s 16777215) r1) (af .u32 (af .u64 ((af .u64 (cP .andNot .u32 (cP .and .u32 s 16777215) r2))*2^min (Int.toNat (af .u64 a_by)) 64))),0))))))
def Ba (k:Nat) (c:Cl) (a_from a_by:Int) (J:Cl×Int->OS S):OS S:=aa k (wP k c) fun r1=>ac (!r1) (J ((Cl.mk 0 0),2)) (aa k (pO k c.pos a_from a_by) fun r2=>ac (!(r2.2==0)) (J ((Cl.mk 0 0),r2.2)) (aa k (pO k c.neg a_from a_by) fun r3=>ac (!(r3.2==0)) (J ((Cl.mk 0 0),r3.2)) (J ((Cl.mk r2.1 r3.1),0))))
def F1 (k:Nat) (a_have:LC) (c:Cl) (c0 c1:Int) (J:LC×Int->OS S):OS S:=aa k (Ba k c c0 c1) fun r1=>ag (bQ 1099511627776 a_have.length [r1.1].length) fun x2=>J (a_have++[r1.1],r1.2)
def Ab (k:Nat) (J:LC×Int->OS S) (c0 c1:Int) (l:LC) (rec0:(LC)->Int->OS S) (v1:LC) (v15:Int):OS S:=ac (decide ((v15:Int)<(l.length:Int))) (ag (ao l v15) fun x1=>aa k (F1 k v1 x1 c0 c1) fun r2=>ac (!(r2.2==0)) (J (([]:LC),r2.2)) (rec0 r2.1 (af .i64 (v15+1)))) (J (v1,0))
def uu (k:Nat) (J:LC×Int->OS S) (c0 c1:Int) (l:LC):Nat->(LC)->Int->OS S
 |0=>fun _ _=> .none
 |m+1=>fun v1 v15=>Ab k J c0 c1 l (uu k J c0 c1 l m) v1 v15
def Jt (k:Nat) (J:LC×Int->OS S) (J0:(LC)->Int->OS S) (l a_from:LC) (c0 c1:Int):OS S:=J0 a_from 0
def Bx (k:Nat) (l a_from:LC) (c0 c1:Int) (J:LC×Int->OS S):OS S:=Jt k J (fun v1 v15=>uu k J c0 c1 l k v1 v15) l a_from c0 c1
def om (k:Nat) (f:LC) (a_from a_by:Int) (J:LC×Int->OS S):OS S:=aa k (tH k [f]) fun r1=>ac (!(r1==0)) (J (([]:LC),r1)) (aa k (rE k) fun r2=>aa k (Bx k f r2 a_from a_by) fun r3=>ac (!(r3.2==0)) (J (([]:LC),r3.2)) (aa k (kZ k r3.1) fun r4=>J (r4.1,r4.2)))
def w6 (k:Nat) (l_0 l_1:Int) (f:LC) (a_from:Int) (J:Pan Int (LC)->OS S):OS S:=ac (l_1==0) (ag (bQ 1099511627776 0 f.length) fun x1=>J (.ok f)) (ac (decide ((a_from:Int)>=24)) (ag (bQ 1099511627776 0 f.length) fun x2=>J (.ok f)) (aa k (om k f a_from l_1) fun r3=>ac (!(r3.2==0)) (J (.pan r3.2)) (J (.ok r3.1))))
abbrev kK (S:Type):=Int->Int->Tm->Int->Int->(Pan Int Tm->OS S)->OS S
def Aq (hd:kK S) (k:Nat) (J:Pan Int Tm->OS S) (r12:LC) (l_0 l_1:Int) (t:Tm) (bX:Int) (r2:LC) (b9_4:LT) (b9_5:LB) (x10:(Br Tm)) (more14 v d v90:Int) (rec2:(LB)->Int->Int->OS S) (rec3:(LT)->Int->OS S) (b17_1:LT) (v103:Int):OS S:=ac (decide ((v103:Int)<(x10.kids.length:Int))) (ag (ao x10.kids v103) fun x14=>hd l_0 l_1 (ad x14) v (af .i64 (d+more14)) fun r16=>Pan.elim r16 (fun r16=>ag (bQ 1099511627776 b17_1.length [(ad r16)].length) fun x18=>rec3 (b17_1++[(ad r16)]) (af .i64 (v103+1))) (fun e17=>J (.pan e17))) (ag (bQ 1099511627776 b9_5.length [(Br.mk r12 b17_1)].length) fun x19=>rec2 (b9_5++[(Br.mk r12 b17_1)]) more14 (af .i64 (v90+1)))
def qk (hd:kK S) (k:Nat) (J:Pan Int Tm->OS S) (rec2:(LB)->Int->Int->OS S) (r12:LC) (l_0 l_1:Int) (t:Tm) (bX:Int) (r2:LC) (b9_4:LT) (b9_5:LB) (x10:(Br Tm)) (more14 v d v90:Int):Nat->(LT)->Int->OS S
 |0=>fun _ _=> .none
 |m+1=>fun b17_1 v103=>Aq hd k J r12 l_0 l_1 t bX r2 b9_4 b9_5 x10 more14 v d v90 rec2 (qk hd k J rec2 r12 l_0 l_1 t bX r2 b9_4 b9_5 x10 more14 v d v90 m) b17_1 v103
def wa (hd:kK S) (k:Nat) (J:Pan Int Tm->OS S) (l_0 l_1:Int) (t:Tm) (bX:Int) (r2:LC) (b9_4:LT) (v d:Int) (J3:(LC)->(LB)->(Br Tm)->Int->Int->(LT)->Int->OS S) (rec2:(LB)->Int->Int->OS S) (b9_5:LB) (more14 v90:Int):OS S:=ac (decide ((v90:Int)<(t.sys.length:Int))) (ag (ao t.sys v90) fun x10=>aa k (w6 k l_0 l_1 x10.face d) fun r12=>Pan.elim r12 (fun r12=>J3 r12 b9_5 x10 more14 v90 ([]:LT) 0) (fun e13=>J (.pan e13))) (J (.ok (Tm.mk t.kind bX t.name r2 b9_4 b9_5)))
def mG (hd:kK S) (k:Nat) (J:Pan Int Tm->OS S) (l_0 l_1:Int) (t:Tm) (bX:Int) (r2:LC) (b9_4:LT) (v d:Int):Nat->(LB)->Int->Int->OS S
 |0=>fun _ _ _=> .none
 |m+1=>fun b9_5 more14 v90=>wa hd k J l_0 l_1 t bX r2 b9_4 v d (fun r12 b9_5 x10 more14 v90 b17_1 v103=>qk hd k J (mG hd k J l_0 l_1 t bX r2 b9_4 v d m) r12 l_0 l_1 t bX r2 b9_4 b9_5 x10 more14 v d v90 k b17_1 v103) (mG hd k J l_0 l_1 t bX r2 b9_4 v d m) b9_5 more14 v90
def v_ (hd:kK S) (k:Nat) (J:Pan Int Tm->OS S) (l_0 l_1:Int) (t:Tm) (bX:Int) (r2:LC) (v d:Int) (J2:(LT)->(LB)->Int->Int->OS S) (rec1:(LT)->Int->OS S) (b9_4:LT) (v57:Int):OS S:=ac (decide ((v57:Int)<(t.kids.length:Int))) (ag (ao t.kids v57) fun x4=>aa k (la k t.kind v57) fun r5=>hd l_0 l_1 (ad x4) (af .i64 (v+r5.1)) (af .i64 (d+r5.2)) fun r7=>Pan.elim r7 (fun r7=>ag (bQ 1099511627776 b9_4.length [(ad r7)].length) fun x9=>rec1 (b9_4++[(ad r7)]) (af .i64 (v57+1))) (fun e8=>J (.pan e8))) (ac (t.kind==15) (J2 b9_4 ([]:LB) 1 0) (J2 b9_4 ([]:LB) 0 0))
def oR (hd:kK S) (k:Nat) (J:Pan Int Tm->OS S) (l_0 l_1:Int) (t:Tm) (bX:Int) (r2:LC) (v d:Int):Nat->(LT)->Int->OS S
 |0=>fun _ _=> .none
 |m+1=>fun b9_4 v57=>v_ hd k J l_0 l_1 t bX r2 v d (fun b9_4 b9_5 more14 v90=>mG hd k J l_0 l_1 t bX r2 b9_4 v d k b9_5 more14 v90) (oR hd k J l_0 l_1 t bX r2 v d m) b9_4 v57
def Fp (hd:kK S) (k:Nat) (J:Pan Int Tm->OS S) (l_0 l_1:Int) (t:Tm) (r2:LC) (v d:Int) (J1:Int->(LT)->Int->OS S) (bX:Int):OS S:=J1 bX ([]:LT) 0
def xP (hd:kK S) (k:Nat) (J:Pan Int Tm->OS S) (l_0 l_1:Int) (t:Tm) (r2:LC) (v d:Int):Nat->Int->OS S
 |0=>fun _=> .none
 |_+1=>fun bX=>Fp hd k J l_0 l_1 t r2 v d (fun bX b9_4 v57=>oR hd k J l_0 l_1 t bX r2 v d k b9_4 v57) bX
def JF (hd:kK S) (k:Nat) (J:Pan Int Tm->OS S) (J0:(LC)->Int->OS S) (l_0 l_1:Int) (t:Tm) (v d:Int):OS S:=aa k (w6 k l_0 l_1 t.r d) fun r2=>Pan.elim r2 (fun r2=>ac (t.kind==1) (ac (decide ((t.n:Int)>=v)) (ac (decide ((t.n:Int)>(af .i64 (1000000000-l_0)))) (J (.pan 100)) (J0 r2 (af .i64 (t.n+l_0)))) (J0 r2 t.n)) (J0 r2 t.n)) (fun e3=>J (.pan e3))
def f_:Nat->Int->Int->Tm->Int->Int->(Pan Int Tm->OS S)->OS S
 |0=>fun _ _ _ _ _ _=> .none
 |k+1=>fun l_0 l_1 t v d J=>JF (f_ k) k J (fun r2 bX=>xP (f_ k) k J l_0 l_1 t r2 v d k bX) l_0 l_1 t v d
def BM (k:Nat) (c0 c1:Int) (c2:Tm) (J:Pan Int Tm->OS S):OS S:=f_ k c1 0 (ad c2) 0 0 fun r2=>Pan.elim r2 (fun r2=>f_ k 0 c0 (ad r2) 0 0 fun r5=>Pan.elim r5 (fun r5=>J (.ok (ad r5))) (fun e6=>J (.pan e6))) (fun e3=>J (.pan e3))
def Ap (k:Nat) (J:Tm×Int->OS S) (c0 c1:Int) (c2:Tm) (numbers:List Int) (rec0:Int->OS S) (v19:Int):OS S:=ac (decide ((v19:Int)<(numbers.length:Int))) (ag (ao numbers v19) fun x2=>ac (decide ((x2:Int)<0)) (J ((Tm.mk 0 0 au [] [] []),2)) (rec0 (af .i64 (v19+1)))) (aa k (BM k c0 c1 (ad c2)) fun r4=>Pan.elim r4 (fun r4=>J ((ad r4),0)) (fun e5=>J ((Tm.mk 0 0 au [] [] []),e5)))
def sh (k:Nat) (J:Tm×Int->OS S) (c0 c1:Int) (c2:Tm) (numbers:List Int):Nat->Int->OS S
 |0=>fun _=> .none
 |m+1=>fun v19=>Ap k J c0 c1 c2 numbers (sh k J c0 c1 c2 numbers m) v19
def Ed (k:Nat) (J:Tm×Int->OS S) (J0:Int->OS S) (t:Tm) (numbers:List Int) (c0 c1:Int) (c2:Tm):OS S:=aa k (j0 k (ad t)) fun r1=>ac (!(r1==0)) (J ((Tm.mk 0 0 au [] [] []),r1)) (J0 0)
def BR (k:Nat) (t:Tm) (numbers:List Int) (c0 c1:Int) (c2:Tm) (J:Tm×Int->OS S):OS S:=Ed k J (fun v19=>sh k J c0 c1 c2 numbers k v19) t numbers c0 c1 c2
def pM (k:Nat) (t:Tm) (vars dims:Int) (J:Tm×Int->OS S):OS S:=aa k (BR k (ad t) [vars,dims,af .i64 (1000000-vars)] dims vars (ad t)) fun r1=>J ((ad r1.1),r1.2)
def jC (k:Nat) (t:Tm) (vars dims c0:Int) (J:Tm×Int->OS S):OS S:=aa k (ef k c0) fun r1=>ac (!r1) (J ((Tm.mk 0 0 au [] [] []),c0)) (aa k (pM k (ad t) vars dims) fun r2=>aa k (jh k (ad r2.1) r2.2 c0) fun r3=>J ((ad r3.1),r3.2))
def Gc (k:Nat) (a_n:Int) (J:Int×Int×BA->OS S):OS S:=J (1,a_n,au)
def lU (k:Nat) (a_e c0:Int) (J:Int->OS S):OS S:=ac (c0==0) (J a_e) (J c0)
def zM (k:Nat) (J:Int->OS S) (l:LT) (rec0:Int->Int->OS S) (kV v10:Int):OS S:=ac (decide ((v10:Int)<(l.length:Int))) (ag (ao l v10) fun x1=>aa k (j0 k (ad x1)) fun r2=>aa k (lU k r2 kV) fun r3=>rec0 r3 (af .i64 (v10+1))) (J kV)
def uf (k:Nat) (J:Int->OS S) (l:LT):Nat->Int->Int->OS S
 |0=>fun _ _=> .none
 |m+1=>fun kV v10=>zM k J l (uf k J l m) kV v10
def Jb (k:Nat) (J:Int->OS S) (J0:Int->Int->OS S) (l:LT):OS S:=J0 0 0
def rC (k:Nat) (l:LT) (J:Int->OS S):OS S:=Jb k J (fun kV v10=>uf k J l k kV v10) l
def fE (k:Nat) (c0:Int) (J:Bool->OS S):OS S:=J (c0==0)
def pL (k:Nat) (f:LC) (c0:Int) (J:LC×Int->OS S):OS S:=aa k (fE k c0) fun r1=>ac (!r1) (J (([]:LC),c0)) (aa k (om k f 0 1) fun r2=>aa k (lU k r2.2 c0) fun r3=>J (r2.1,r3))
def z7 (k:Nat) (J:Int->OS S) (l:List (LC)) (rec0:Int->OS S) (v7:Int):OS S:=ac (decide ((v7:Int)<(l.length:Int))) (ag (ao l v7) fun x1=>aa k (ol k x1) fun r2=>ac (!r2) (J 2) (rec0 (af .i64 (v7+1)))) (J 0)
def uo (k:Nat) (J:Int->OS S) (l:List (LC)):Nat->Int->OS S
 |0=>fun _=> .none
 |m+1=>fun v7=>z7 k J l (uo k J l m) v7
def Jp (k:Nat) (J:Int->OS S) (J0:Int->OS S) (l:List (LC)):OS S:=J0 0
def Bq (k:Nat) (l:List (LC)) (J:Int->OS S):OS S:=Jp k J (fun v7=>uo k J l k v7) l
def wX (k:Nat) (f g:LC) (J:LC×Int->OS S):OS S:=ag (bQ 1099511627776 ([]:LC).length f.length) fun x1=>ag (bQ 1099511627776 (([]:LC)++f).length g.length) fun x2=>aa k (kZ k ((([]:LC)++f)++g)) fun r3=>J (r3.1,r3.2)
def Bh (k:Nat) (f g:LC) (J:LC×Int->OS S):OS S:=aa k (Bq k [f,g]) fun r1=>ac (!(r1==0)) (J (([]:LC),r1)) (aa k (wX k f g) fun r2=>J (r2.1,r2.2))
def pK (k:Nat) (f g:LC) (c0:Int) (J:LC×Int->OS S):OS S:=aa k (fE k c0) fun r1=>ac (!r1) (J (([]:LC),c0)) (aa k (Bh k f g) fun r2=>aa k (lU k r2.2 c0) fun r3=>J (r2.1,r3))
def BN (k:Nat) (c0:Int) (c1:Tm) (c2:Int) (J:Pan Int Tm->OS S):OS S:=f_ k 0 c0 (ad c1) 0 (if 24<c2 then 24 else c2) fun r2=>Pan.elim r2 (fun r2=>J (.ok (ad r2))) (fun e3=>J (.pan e3))
def An (k:Nat) (J:Tm×Int->OS S) (c0:Int) (c1:Tm) (c2:Int) (numbers:List Int) (rec0:Int->OS S) (v19:Int):OS S:=ac (decide ((v19:Int)<(numbers.length:Int))) (ag (ao numbers v19) fun x2=>ac (decide ((x2:Int)<0)) (J ((Tm.mk 0 0 au [] [] []),2)) (rec0 (af .i64 (v19+1)))) (aa k (BN k c0 (ad c1) c2) fun r4=>Pan.elim r4 (fun r4=>J ((ad r4),0)) (fun e5=>J ((Tm.mk 0 0 au [] [] []),e5)))
def rZ (k:Nat) (J:Tm×Int->OS S) (c0:Int) (c1:Tm) (c2:Int) (numbers:List Int):Nat->Int->OS S
 |0=>fun _=> .none
 |m+1=>fun v19=>An k J c0 c1 c2 numbers (rZ k J c0 c1 c2 numbers m) v19
def Eb (k:Nat) (J:Tm×Int->OS S) (J0:Int->OS S) (t:Tm) (numbers:List Int) (c0:Int) (c1:Tm) (c2:Int):OS S:=aa k (j0 k (ad t)) fun r1=>ac (!(r1==0)) (J ((Tm.mk 0 0 au [] [] []),r1)) (J0 0)
def BP (k:Nat) (t:Tm) (numbers:List Int) (c0:Int) (c1:Tm) (c2:Int) (J:Tm×Int->OS S):OS S:=Eb k J (fun v19=>rZ k J c0 c1 c2 numbers k v19) t numbers c0 c1 c2
def ox (k:Nat) (t:Tm) (a_from a_by:Int) (J:Tm×Int->OS S):OS S:=aa k (BP k (ad t) [a_from,a_by] a_by (ad t) a_from) fun r1=>J ((ad r1.1),r1.2)
def nx (k:Nat) (s i:Int) (J:Int->OS S):OS S:=aa k (rH k i) fun r1=>ac (!r1) (J (cP .and .u32 s 16777215)) (ag (fA (0<=(af .u64 i))) fun x2=>J (cP .or .u32 (cP .and .u32 s 16777215) (af .u32 (1*2^min (Int.toNat (af .u64 i)) 32))))
def Lb (k:Nat) (a_x:Int) (J:Int->OS S):OS S:=ag (ao (ByteArray.mk #[0,1,1,2,1,2,2,3,1,2,2,3,2,3,3,4,1,2,2,3,2,3,3,4,2,3,3,4,3,4,4,5,1,2,2,3,2,3,3,4,2,3,3,4,3,4,4,5,2,3,3,4,3,4,4,5,3,4,4,5,4,5,5,6,1,2,2,3,2,3,3,4,2,3,3,4,3,4,4,5,2,3,3,4,3,4,4,5,3,4,4,5,4,5,5,6,2,3,3,4,3,4,4,5,3,4,4,5,4,5,5,6,3,4,4,5,4,5,5,6,4,5,5,6,5,6,6,7,1,2,2,3,2,3,3,4,2,3,3,4,3,4,4,5,2,3,3,4,3,4,4,5,3,4,4,5,4,5,5,6,2,3,3,4,3,4,4,5,3,4,4,5,4,5,5,6,3,4,4,5,4,5,5,6,4,5,5,6,5,6,6,7,2,3,3,4,3,4,4,5,3,4,4,5,4,5,5,6,3,4,4,5,4,5,5,6,4,5,5,6,5,6,6,7,3,4,4,5,4,5,5,6,4,5,5,6,5,6,6,7,4,5,5,6,5,6,6,7,5,6,6,7,6,7,7,8]).data.toList (Int.fdiv a_x (2^min (Int.toNat 24) 32))) fun x1=>ag (ao (ByteArray.mk #[0,1,1,2,1,2,2,3,1,2,2,3,2,3,3,4,1,2,2,3,2,3,3,4,2,3,3,4,3,4,4,5,1,2,2,3,2,3,3,4,2,3,3,4,3,4,4,5,2,3,3,4,3,4,4,5,3,4,4,5,4,5,5,6,1,2,2,3,2,3,3,4,2,3,3,4,3,4,4,5,2,3,3,4,3,4,4,5,3,4,4,5,4,5,5,6,2,3,3,4,3,4,4,5,3,4,4,5,4,5,5,6,3,4,4,5,4,5,5,6,4,5,5,6,5,6,6,7,1,2,2,3,2,3,3,4,2,3,3,4,3,4,4,5,2,3,3,4,3,4,4,5,3,4,4,5,4,5,5,6,2,3,3,4,3,4,4,5,3,4,4,5,4,5,5,6,3,4,4,5,4,5,5,6,4,5,5,6,5,6,6,7,2,3,3,4,3,4,4,5,3,4,4,5,4,5,5,6,3,4,4,5,4,5,5,6,4,5,5,6,5,6,6,7,3,4,4,5,4,5,5,6,4,5,5,6,5,6,6,7,4,5,5,6,5,6,6,7,5,6,6,7,6,7,7,8]).data.toList (cP .and .u32 (Int.fdiv a_x (2^min (Int.toNat 16) 32)) 255)) fun x2=>ag (ao (ByteArray.mk #[0,1,1,2,1,2,2,3,1,2,2,3,2,3,3,4,1,2,2,3,2,3,3,4,2,3,3,4,3,4,4,5,1,2,2,3,2,3,3,4,2,3,3,4,3,4,4,5,2,3,3,4,3,4,4,5,3,4,4,5,4,5,5,6,1,2,2,3,2,3,3,4,2,3,3,4,3,4,4,5,2,3,3,4,3,4,4,5,3,4,4,5,4,5,5,6,2,3,3,4,3,4,4,5,3,4,4,5,4,5,5,6,3,4,4,5,4,5,5,6,4,5,5,6,5,6,6,7,1,2,2,3,2,3,3,4,2,3,3,4,3,4,4,5,2,3,3,4,3,4,4,5,3,4,4,5,4,5,5,6,2,3,3,4,3,4,4,5,3,4,4,5,4,5,5,6,3,4,4,5,4,5,5,6,4,5,5,6,5,6,6,7,2,3,3,4,3,4,4,5,3,4,4,5,4,5,5,6,3,4,4,5,4,5,5,6,4,5,5,6,5,6,6,7,3,4,4,5,4,5,5,6,4,5,5,6,5,6,6,7,4,5,5,6,5,6,6,7,5,6,6,7,6,7,7,8]).data.toList (cP .and .u32 (Int.fdiv a_x (2^min (Int.toNat 8) 32)) 255)) fun x3=>ag (ao (ByteArray.mk #[0,1,1,2,1,2,2,3,1,2,2,3,2,3,3,4,1,2,2,3,2,3,3,4,2,3,3,4,3,4,4,5,1,2,2,3,2,3,3,4,2,3,3,4,3,4,4,5,2,3,3,4,3,4,4,5,3,4,4,5,4,5,5,6,1,2,2,3,2,3,3,4,2,3,3,4,3,4,4,5,2,3,3,4,3,4,4,5,3,4,4,5,4,5,5,6,2,3,3,4,3,4,4,5,3,4,4,5,4,5,5,6,3,4,4,5,4,5,5,6,4,5,5,6,5,6,6,7,1,2,2,3,2,3,3,4,2,3,3,4,3,4,4,5,2,3,3,4,3,4,4,5,3,4,4,5,4,5,5,6,2,3,3,4,3,4,4,5,3,4,4,5,4,5,5,6,3,4,4,5,4,5,5,6,4,5,5,6,5,6,6,7,2,3,3,4,3,4,4,5,3,4,4,5,4,5,5,6,3,4,4,5,4,5,5,6,4,5,5,6,5,6,6,7,3,4,4,5,4,5,5,6,4,5,5,6,5,6,6,7,4,5,5,6,5,6,6,7,5,6,6,7,6,7,7,8]).data.toList (cP .and .u32 a_x 255)) fun x4=>J (af .i64 (af .u8 ((af .u8 ((af .u8 ((x1.toNat:Int)+(x2.toNat:Int)))+(x3.toNat:Int)))+(x4.toNat:Int))))
def pN (k:Nat) (s:Int) (J:Int->OS S):OS S:=aa k (Lb k (cP .and .u32 s 16777215)) fun r1=>J r1
def Bb (k:Nat) (i:Int) (J:Bool->OS S):OS S:=aa k (nx k 0 i) fun r1=>aa k (pN k r1) fun r2=>J (r2==1)
def Bf (k:Nat) (t:Tm) (i:Int) (a_r:LC) (J:Int->OS S):OS S:=aa k (j0 k (ad t)) fun r1=>ac (!(r1==0)) (J r1) (aa k (Bb k i) fun r2=>ac (!r2) (J 2) (aa k (mA k a_r) fun r3=>ac (!r3) (J 2) (J 0)))
def FT (k:Nat) (c0:Int) (c1:LC) (J:Unit->OS S):OS S:=J ()
def FU (k:Nat) (c0:Int) (c1:LC) (J:Unit->OS S):OS S:=J ()
def FS (k:Nat) (i:Int) (a_r:LC) (J:Int×LC->OS S):OS S:=aa k (FT k i a_r) fun r1=>aa k (FU k i a_r) fun r2=>J (i,a_r)
def lW (k:Nat) (s i:Int) (J:Bool->OS S):OS S:=aa k (rH k i) fun r1=>ac (r1) (ag (fA (0<=(af .u64 i))) fun x2=>J ((cP .and .u32 (Int.fdiv s (2^min (Int.toNat (af .u64 i)) 32)) 1)==1)) (J false)
def wQ (k:Nat) (f:LC) (J:LC->OS S):OS S:=ag (bQ 1099511627776 0 f.length) fun x1=>J f
def wW (k:Nat) (i:Int) (J:Bool->OS S):OS S:=aa k (nx k 0 i) fun r1=>aa k (pN k r1) fun r2=>J (r2==1)
def wV (k:Nat) (c:Cl) (J:Cl×Bool->OS S):OS S:=aa k (wO k c) fun r1=>J (c,!r1)
def zX (k:Nat) (J:LC->OS S) (l:LC) (rec0:Int->(LC)->OS S) (v12:Int) (out5:LC):OS S:=ac (decide ((v12:Int)<(l.length:Int))) (ag (ao l v12) fun x1=>aa k (wV k x1) fun r2=>ac (r2.2) (ag (bQ 1099511627776 out5.length [r2.1].length) fun x3=>rec0 (af .i64 (v12+1)) (out5++[r2.1])) (rec0 (af .i64 (v12+1)) out5)) (J out5)
def uk (k:Nat) (J:LC->OS S) (l:LC):Nat->Int->(LC)->OS S
 |0=>fun _ _=> .none
 |m+1=>fun v12 out5=>zX k J l (uk k J l m) v12 out5
def Jm (k:Nat) (J:LC->OS S) (J0:Int->(LC)->OS S) (l:LC):OS S:=J0 0 ([]:LC)
def Bn (k:Nat) (l:LC) (J:LC->OS S):OS S:=Jm k J (fun v12 out5=>uk k J l k v12 out5) l
def wU (k:Nat) (f:LC) (J:LC×Int->OS S):OS S:=aa k (mA k f) fun r1=>ac (!r1) (J (([]:LC),2)) (aa k (Bn k f) fun r2=>aa k (kZ k r2) fun r3=>J (r3.1,r3.2))
def Bp (k:Nat) (b c0:Cl) (J:Cl×Bool->OS S):OS S:=aa k (tB k c0 b) fun r1=>aa k (wV k r1) fun r2=>J (r2.1,r2.2)
def zW (k:Nat) (J:LC->OS S) (c0:Cl) (l:LC) (rec0:Int->(LC)->OS S) (v12:Int) (out5:LC):OS S:=ac (decide ((v12:Int)<(l.length:Int))) (ag (ao l v12) fun x1=>aa k (Bp k x1 c0) fun r2=>ac (r2.2) (ag (bQ 1099511627776 out5.length [r2.1].length) fun x3=>rec0 (af .i64 (v12+1)) (out5++[r2.1])) (rec0 (af .i64 (v12+1)) out5)) (J out5)
def uj (k:Nat) (J:LC->OS S) (c0:Cl) (l:LC):Nat->Int->(LC)->OS S
 |0=>fun _ _=> .none
 |m+1=>fun v12 out5=>zW k J c0 l (uj k J c0 l m) v12 out5
def Jl (k:Nat) (J:LC->OS S) (J0:Int->(LC)->OS S) (l:LC) (c0:Cl):OS S:=J0 0 ([]:LC)
def Bm (k:Nat) (l:LC) (c0:Cl) (J:LC->OS S):OS S:=Jl k J (fun v12 out5=>uj k J c0 l k v12 out5) l c0
def zZ (k:Nat) (J:LC×Int->OS S) (g f:LC) (rec0:Int->(LC)->OS S) (v11:Int) (out6:LC):OS S:=ac (decide ((v11:Int)<(f.length:Int))) (ag (ao f v11) fun x1=>aa k (Bm k g x1) fun r2=>ag (bQ 1099511627776 out6.length r2.length) fun x3=>rec0 (af .i64 (v11+1)) (out6++r2)) (aa k (kZ k out6) fun r4=>J (r4.1,r4.2))
def um (k:Nat) (J:LC×Int->OS S) (g f:LC):Nat->Int->(LC)->OS S
 |0=>fun _ _=> .none
 |m+1=>fun v11 out6=>zZ k J g f (um k J g f m) v11 out6
def Jo (k:Nat) (J:LC×Int->OS S) (J0:Int->(LC)->OS S) (f g:LC):OS S:=J0 0 ([]:LC)
def tD (k:Nat) (f g:LC) (J:LC×Int->OS S):OS S:=Jo k J (fun v11 out6=>um k J g f k v11 out6) f g
def rD (k:Nat) (J:LC->OS S):OS S:=J [(Cl.mk 0 0)]
def Ad (k:Nat) (J:LC×Int->OS S) (r5:List Int) (rec1:Int->(LC)->OS S) (v28:Int) (out4':LC):OS S:=ac (decide ((v28:Int)<(r5.length:Int))) (ag (ao r5 v28) fun x6=>aa k (nx k 0 x6) fun r7=>ag (bQ 1099511627776 out4'.length [(Cl.mk r7 0)].length) fun x8=>rec1 (af .i64 (v28+1)) (out4'++[(Cl.mk r7 0)])) (aa k (kZ k out4') fun r9=>J (r9.1,r9.2))
def rV (k:Nat) (J:LC×Int->OS S) (r5:List Int):Nat->Int->(LC)->OS S
 |0=>fun _ _=> .none
 |m+1=>fun v28 out4'=>Ad k J r5 (rV k J r5 m) v28 out4'
def vY (k:Nat) (J:LC×Int->OS S) (c:Cl) (r1:List Int) (J1:(List Int)->Int->(LC)->OS S) (rec0:Int->(LC)->OS S) (v13:Int) (out4:LC):OS S:=ac (decide ((v13:Int)<(r1.length:Int))) (ag (ao r1 v13) fun x2=>aa k (nx k 0 x2) fun r3=>ag (bQ 1099511627776 out4.length [(Cl.mk 0 r3)].length) fun x4=>rec0 (af .i64 (v13+1)) (out4++[(Cl.mk 0 r3)])) (yF c.neg fun r5=>J1 r5 0 out4)
def uw (k:Nat) (J:LC×Int->OS S) (c:Cl) (r1:List Int):Nat->Int->(LC)->OS S
 |0=>fun _ _=> .none
 |m+1=>fun v13 out4=>vY k J c r1 (fun r5 v28 out4'=>rV k J r5 k v28 out4') (uw k J c r1 m) v13 out4
def Jv (k:Nat) (J:LC×Int->OS S) (J0:(List Int)->Int->(LC)->OS S) (c:Cl):OS S:=yF c.pos fun r1=>J0 r1 0 ([]:LC)
def Bz (k:Nat) (c:Cl) (J:LC×Int->OS S):OS S:=Jv k J (fun r1 v13 out4=>uw k J c r1 k v13 out4) c
def Ac (k:Nat) (J:LC×Int->OS S) (x1:Cl) (g f:LC) (v13:Int) (rec0:Int->(LC)->OS S) (rec1:Int->(LC)->OS S) (v19:Int) (out6':LC):OS S:=ac (decide ((v19:Int)<(g.length:Int))) (ag (ao g v19) fun x2=>aa k (tB k x1 x2) fun r3=>ag (bQ 1099511627776 out6'.length [r3].length) fun x4=>rec1 (af .i64 (v19+1)) (out6'++[r3])) (rec0 (af .i64 (v13+1)) out6')
def rU (k:Nat) (J:LC×Int->OS S) (rec0:Int->(LC)->OS S) (x1:Cl) (g f:LC) (v13:Int):Nat->Int->(LC)->OS S
 |0=>fun _ _=> .none
 |m+1=>fun v19 out6'=>Ac k J x1 g f v13 rec0 (rU k J rec0 x1 g f v13 m) v19 out6'
def vX (k:Nat) (J:LC×Int->OS S) (g f:LC) (J1:Cl->Int->Int->(LC)->OS S) (rec0:Int->(LC)->OS S) (v13:Int) (out6:LC):OS S:=ac (decide ((v13:Int)<(f.length:Int))) (ag (ao f v13) fun x1=>J1 x1 v13 0 out6) (aa k (kZ k out6) fun r5=>J (r5.1,r5.2))
def qi (k:Nat) (J:LC×Int->OS S) (g f:LC):Nat->Int->(LC)->OS S
 |0=>fun _ _=> .none
 |m+1=>fun v13 out6=>vX k J g f (fun x1 v13 v19 out6'=>rU k J (qi k J g f m) x1 g f v13 k v19 out6') (qi k J g f m) v13 out6
def Ju (k:Nat) (J:LC×Int->OS S) (J0:Int->(LC)->OS S) (f g:LC):OS S:=J0 0 ([]:LC)
def oq (k:Nat) (f g:LC) (J:LC×Int->OS S):OS S:=Ju k J (fun v13 out6=>qi k J g f k v13 out6) f g
def By (k:Nat) (a_have:LC) (c:Cl) (J:LC×Int->OS S):OS S:=aa k (Bz k c) fun r1=>ac (!(r1.2==0)) (J (([]:LC),r1.2)) (aa k (oq k a_have r1.1) fun r2=>J (r2.1,r2.2))
def Aa (k:Nat) (J:LC×Int->OS S) (l:LC) (rec0:(LC)->Int->OS S) (v1:LC) (v15:Int):OS S:=ac (decide ((v15:Int)<(l.length:Int))) (ag (ao l v15) fun x1=>aa k (By k v1 x1) fun r2=>ac (!(r2.2==0)) (J (([]:LC),r2.2)) (rec0 r2.1 (af .i64 (v15+1)))) (J (v1,0))
def ut (k:Nat) (J:LC×Int->OS S) (l:LC):Nat->(LC)->Int->OS S
 |0=>fun _ _=> .none
 |m+1=>fun v1 v15=>Aa k J l (ut k J l m) v1 v15
def Js (k:Nat) (J:LC×Int->OS S) (J0:(LC)->Int->OS S) (l a_from:LC):OS S:=J0 a_from 0
def F6 (k:Nat) (l a_from:LC) (J:LC×Int->OS S):OS S:=Js k J (fun v1 v15=>ut k J l k v1 v15) l a_from
def tG (k:Nat) (f:LC) (J:LC×Int->OS S):OS S:=aa k (rD k) fun r1=>aa k (F6 k f r1) fun r2=>J (r2.1,r2.2)
def Bu (k:Nat) (f:LC) (J:LC×Int->OS S):OS S:=aa k (tH k [f]) fun r1=>ac (!(r1==0)) (J (([]:LC),r1)) (aa k (tG k f) fun r2=>J (r2.1,r2.2))
def Bj (k:Nat) (f:LC) (J:LC×Int->OS S):OS S:=aa k (Bu k f) fun r1=>ac (!(r1.2==0)) (J (([]:LC),r1.2)) (aa k (wU k r1.1) fun r2=>J (r2.1,r2.2))
def zV (k:Nat) (J:LC×Int->OS S) (i:Int) (a_r f:LC) (v29:Int) (v8:LC) (rec0:Int->(LC)->OS S) (g11:LC) (v13:Int):OS S:=ac (v13==0) (aa k (wX k v8 g11) fun r10=>ac (!(r10.2==0)) (J (([]:LC),r10.2)) (rec0 (af .i64 (v29+1)) r10.1)) (ac (!(v13==0)) (J (([]:LC),v13)) (rec0 (af .i64 (v29+1)) v8))
def ui (k:Nat) (J:LC×Int->OS S) (rec0:Int->(LC)->OS S) (i:Int) (a_r f:LC) (v29:Int) (v8:LC):Nat->(LC)->Int->OS S
 |0=>fun _ _=> .none
 |_+1=>fun g11 v13=>zV k J i a_r f v29 v8 rec0 g11 v13
def vW (k:Nat) (J:LC×Int->OS S) (i:Int) (a_r f:LC) (J1:Int->(LC)->(LC)->Int->OS S) (rec0:Int->(LC)->OS S) (v29:Int) (v8:LC):OS S:=ac (decide ((v29:Int)<(f.length:Int))) (ag (ao f v29) fun x4=>aa k (oy k x4.pos i) fun r5=>aa k (oy k x4.neg i) fun r6=>aa k (lW k x4.pos i) fun r7=>ac (r7) (aa k (wU k a_r) fun r8=>ac (r8.2==0) (aa k (tD k [(Cl.mk r5 r6)] r8.1) fun r9=>J1 v29 v8 r9.1 r9.2) (J1 v29 v8 [(Cl.mk r5 r6)] r8.2)) (aa k (lW k x4.neg i) fun r11=>ac (r11) (aa k (Bj k a_r) fun r12=>ac (r12.2==0) (aa k (tD k [(Cl.mk r5 r6)] r12.1) fun r13=>J1 v29 v8 r13.1 r13.2) (J1 v29 v8 [(Cl.mk r5 r6)] r12.2)) (J1 v29 v8 [(Cl.mk r5 r6)] 0))) (J (v8,0))
def qh (k:Nat) (J:LC×Int->OS S) (i:Int) (a_r f:LC):Nat->Int->(LC)->OS S
 |0=>fun _ _=> .none
 |m+1=>fun v29 v8=>vW k J i a_r f (fun v29 v8 g11 v13=>ui k J (qh k J i a_r f m) i a_r f v29 v8 k g11 v13) (qh k J i a_r f m) v29 v8
def Jk (k:Nat) (J:LC×Int->OS S) (J0:Int->(LC)->OS S) (f:LC) (i:Int) (a_r:LC):OS S:=aa k (ol k f) fun r1=>ac (!r1) (J (([]:LC),2)) (aa k (wW k i) fun r2=>ac (!r2) (J (([]:LC),2)) (aa k (mA k a_r) fun r3=>ac (!r3) (J (([]:LC),2)) (J0 0 [])))
def Bk (k:Nat) (f:LC) (i:Int) (a_r:LC) (J:LC×Int->OS S):OS S:=Jk k J (fun v29 v8=>qh k J i a_r f k v29 v8) f i a_r
def wR (k:Nat) (f:LC) (depth c0:Int) (c1:LC) (J:LC×Int->OS S):OS S:=aa k (tF k f) fun r1=>aa k (lW k r1 (af .i64 (c0+depth))) fun r2=>ac (!r2) (aa k (wQ k f) fun r3=>J (r3,0)) (aa k (om k c1 0 depth) fun r4=>ac (!(r4.2==0)) (J (([]:LC),r4.2)) (aa k (Bk k f (af .i64 (c0+depth)) r4.1) fun r5=>J (r5.1,r5.2)))
def Bt (k:Nat) (i:Int) (J:LC×Int->OS S):OS S:=aa k (nx k 0 i) fun r1=>aa k (pN k r1) fun r2=>ac (r2==0) (J (([]:LC),2)) (aa k (nx k 0 i) fun r3=>J ([(Cl.mk r3 0)],0))
def rF (k:Nat) (f g:LC) (J:LC×Int->OS S):OS S:=ag (bQ 1099511627776 ([]:LC).length f.length) fun x1=>ag (bQ 1099511627776 (([]:LC)++f).length g.length) fun x2=>aa k (kZ k ((([]:LC)++f)++g)) fun r3=>J (r3.1,r3.2)
def Bw (k:Nat) (a_have:LC) (c:Cl) (c0:Int) (c1:LC) (J:LC×Int->OS S):OS S:=aa k (oy k c.pos c0) fun r1=>aa k (oy k c.neg c0) fun r2=>aa k (lW k c.pos c0) fun r3=>ac (r3) (aa k (oq k [(Cl.mk r1 r2)] c1) fun r4=>ac (!(r4.2==0)) (J (([]:LC),r4.2)) (aa k (lW k c.neg c0) fun r5=>ac (r5) (aa k (tG k c1) fun r6=>ac (!(r6.2==0)) (J (([]:LC),r6.2)) (aa k (oq k r4.1 r6.1) fun r7=>ac (!(r7.2==0)) (J (([]:LC),r7.2)) (aa k (rF k a_have r7.1) fun r8=>J (r8.1,r8.2)))) (aa k (rF k a_have r4.1) fun r9=>J (r9.1,r9.2)))) (aa k (lW k c.neg c0) fun r10=>ac (r10) (aa k (tG k c1) fun r11=>ac (!(r11.2==0)) (J (([]:LC),r11.2)) (aa k (oq k [(Cl.mk r1 r2)] r11.1) fun r12=>ac (!(r12.2==0)) (J (([]:LC),r12.2)) (aa k (rF k a_have r12.1) fun r13=>J (r13.1,r13.2)))) (aa k (rF k a_have [(Cl.mk r1 r2)]) fun r14=>J (r14.1,r14.2)))
def z_ (k:Nat) (J:LC×Int->OS S) (c0:Int) (c1 l:LC) (rec0:(LC)->Int->OS S) (v1:LC) (v15:Int):OS S:=ac (decide ((v15:Int)<(l.length:Int))) (ag (ao l v15) fun x1=>aa k (Bw k v1 x1 c0 c1) fun r2=>ac (!(r2.2==0)) (J (([]:LC),r2.2)) (rec0 r2.1 (af .i64 (v15+1)))) (J (v1,0))
def ur (k:Nat) (J:LC×Int->OS S) (c0:Int) (c1 l:LC):Nat->(LC)->Int->OS S
 |0=>fun _ _=> .none
 |m+1=>fun v1 v15=>z_ k J c0 c1 l (ur k J c0 c1 l m) v1 v15
def Jr (k:Nat) (J:LC×Int->OS S) (J0:(LC)->Int->OS S) (l a_from:LC) (c0:Int) (c1:LC):OS S:=J0 a_from 0
def F5 (k:Nat) (l a_from:LC) (c0:Int) (c1:LC) (J:LC×Int->OS S):OS S:=Jr k J (fun v1 v15=>ur k J c0 c1 l k v1 v15) l a_from c0 c1
def Bv (k:Nat) (f:LC) (i:Int) (a_r:LC) (J:LC×Int->OS S):OS S:=aa k (tH k [f,a_r]) fun r1=>ac (!(r1==0)) (J (([]:LC),r1)) (aa k (Bt k i) fun r2=>ac (!(r2.2==0)) (J (([]:LC),r2.2)) (aa k (rE k) fun r3=>aa k (F5 k f r3 i a_r) fun r4=>J (r4.1,r4.2)))
def Bc (k:Nat) (f:LC) (depth c0:Int) (c1:LC) (J:LC×Int->OS S):OS S:=aa k (tF k f) fun r1=>aa k (lW k r1 (af .i64 (c0+depth))) fun r2=>ac (!r2) (aa k (wQ k f) fun r3=>J (r3,0)) (aa k (om k c1 0 depth) fun r4=>ac (!(r4.2==0)) (J (([]:LC),r4.2)) (aa k (Bv k f (af .i64 (c0+depth)) r4.1) fun r5=>J (r5.1,r5.2)))
def Bd (k:Nat) (t:Tm) (depth c0:Int) (c1:LC) (J:LC×Int->OS S):OS S:=ac (t.kind==14) (aa k (wR k t.r depth c0 c1) fun r1=>J (r1.1,r1.2)) (aa k (Bc k t.r depth c0 c1) fun r2=>J (r2.1,r2.2))
def wS (k:Nat) (i:Int) (c0:Tm) (J:Int->OS S):OS S:=aa k (la k c0.kind i) fun r1=>J r1.2
def wT (k:Nat) (p c0:Int) (J:Int->OS S):OS S:=J c0
abbrev fJ (S:Type):=Tm->Int->Int->(LC)->(Tm×Int->OS S)->OS S
def zR (hd:fJ S) (k:Nat) (J:LT×Int->OS S) (c0:Int) (c1:LC) (c4:Int) (l:LT) (depth:Int) (rec0:(LT)->Int->OS S) (out10:LT) (v17:Int):OS S:=ac (decide ((v17:Int)<(l.length:Int))) (ag (ao l v17) fun x1=>aa k (wT k v17 c4) fun r2=>hd (ad x1) (af .i64 (depth+r2)) c0 c1 fun r3=>ac (!(r3.2==0)) (J (([]:LT),r3.2)) (ag (bQ 1099511627776 out10.length [(ad r3.1)].length) fun x4=>rec0 (out10++[(ad r3.1)]) (af .i64 (v17+1)))) (J (out10,0))
def qe (hd:fJ S) (k:Nat) (J:LT×Int->OS S) (c0:Int) (c1:LC) (c4:Int) (l:LT) (depth:Int):Nat->(LT)->Int->OS S
 |0=>fun _ _=> .none
 |m+1=>fun out10 v17=>zR hd k J c0 c1 c4 l depth (qe hd k J c0 c1 c4 l depth m) out10 v17
def Jg (hd:fJ S) (k:Nat) (J:LT×Int->OS S) (J0:(LT)->Int->OS S) (l:LT) (depth c0:Int) (c1:LC) (c4:Int):OS S:=J0 ([]:LT) 0
def FX (hd:fJ S) (k:Nat) (l:LT) (depth c0:Int) (c1:LC) (c4:Int) (J:LT×Int->OS S):OS S:=Jg hd k J (fun out10 v17=>qe hd k J c0 c1 c4 l depth k out10 v17) l depth c0 c1 c4
def zS (hd:fJ S) (k:Nat) (J:LT×Int->OS S) (c0:Int) (c1:LC) (c4:Tm) (l:LT) (depth:Int) (rec0:(LT)->Int->OS S) (out10:LT) (v17:Int):OS S:=ac (decide ((v17:Int)<(l.length:Int))) (ag (ao l v17) fun x1=>aa k (wS k v17 (ad c4)) fun r2=>hd (ad x1) (af .i64 (depth+r2)) c0 c1 fun r3=>ac (!(r3.2==0)) (J (([]:LT),r3.2)) (ag (bQ 1099511627776 out10.length [(ad r3.1)].length) fun x4=>rec0 (out10++[(ad r3.1)]) (af .i64 (v17+1)))) (J (out10,0))
def qf (hd:fJ S) (k:Nat) (J:LT×Int->OS S) (c0:Int) (c1:LC) (c4:Tm) (l:LT) (depth:Int):Nat->(LT)->Int->OS S
 |0=>fun _ _=> .none
 |m+1=>fun out10 v17=>zS hd k J c0 c1 c4 l depth (qf hd k J c0 c1 c4 l depth m) out10 v17
def Jh (hd:fJ S) (k:Nat) (J:LT×Int->OS S) (J0:(LT)->Int->OS S) (l:LT) (depth c0:Int) (c1:LC) (c4:Tm):OS S:=J0 ([]:LT) 0
def FY (hd:fJ S) (k:Nat) (l:LT) (depth c0:Int) (c1:LC) (c4:Tm) (J:LT×Int->OS S):OS S:=Jh hd k J (fun out10 v17=>qf hd k J c0 c1 c4 l depth k out10 v17) l depth c0 c1 c4
def zT (hd:fJ S) (k:Nat) (J:Tm×Int->OS S) (c0:Int) (c1:LC) (t:Tm) (r1:LC×Int) (r2:LT×Int) (depth:Int) (rec0:Int->(LB)->Int->OS S) (ew:Int) (b8_5:LB) (v55:Int):OS S:=ac (decide ((v55:Int)<(t.sys.length:Int))) (ag (ao t.sys v55) fun x3=>aa k (wR k x3.face depth c0 c1) fun r4=>ac (!(r4.2==0)) (J ((Tm.mk 0 0 au [] [] []),r4.2)) (ac ((r4.1.length:Int)==0) (rec0 ew b8_5 (af .i64 (v55+1))) (aa k (FX hd k x3.kids depth c0 c1 ew) fun r5=>ac (!(r5.2==0)) (J ((Tm.mk 0 0 au [] [] []),r5.2)) (ag (bQ 1099511627776 b8_5.length [(Br.mk r4.1 r5.1)].length) fun x6=>rec0 ew (b8_5++[(Br.mk r4.1 r5.1)]) (af .i64 (v55+1)))))) (J ((Tm.mk t.kind t.n t.name r1.1 r2.1 b8_5),0))
def lh (hd:fJ S) (k:Nat) (J:Tm×Int->OS S) (c0:Int) (c1:LC) (t:Tm) (r1:LC×Int) (r2:LT×Int) (depth:Int):Nat->Int->(LB)->Int->OS S
 |0=>fun _ _ _=> .none
 |m+1=>fun ew b8_5 v55=>zT hd k J c0 c1 t r1 r2 depth (lh hd k J c0 c1 t r1 r2 depth m) ew b8_5 v55
def Ji (hd:fJ S) (k:Nat) (J:Tm×Int->OS S) (J0:(LC×Int)->(LT×Int)->Int->(LB)->Int->OS S) (t:Tm) (depth c0:Int) (c1:LC):OS S:=aa k (Bd k (ad t) depth c0 c1) fun r1=>ac (!(r1.2==0)) (J ((Tm.mk 0 0 au [] [] []),r1.2)) (aa k (FY hd k t.kids depth c0 c1 (ad t)) fun r2=>ac (!(r2.2==0)) (J ((Tm.mk 0 0 au [] [] []),r2.2)) (ac (t.kind==15) (J0 r1 r2 1 ([]:LB) 0) (J0 r1 r2 0 ([]:LB) 0)))
def iW:Nat->Tm->Int->Int->(LC)->(Tm×Int->OS S)->OS S
 |0=>fun _ _ _ _ _=> .none
 |k+1=>fun t depth c0 c1 J=>Ji (iW k) k J (fun r1 r2 ew b8_5 v55=>lh (iW k) k J c0 c1 t r1 r2 depth k ew b8_5 v55) t depth c0 c1
def FR (k:Nat) (i:Int) (J:Int->OS S):OS S:=J i
def tO (k:Nat) (s i:Int) (J:Int->OS S):OS S:=aa k (rH k i) fun r1=>ac (!r1) (J (cP .and .u32 s 16777215)) (aa k (tQ k i) fun r2=>ag (fA (0<=(af .u64 (af .i64 (i+1))))) fun x3=>ag (fA (0<=(af .u64 i))) fun x4=>J (cP .or .u32 (cP .and .u32 (cP .and .u32 s 16777215) r2) (af .u32 ((Int.fdiv (cP .and .u32 s 16777215) (2^min (Int.toNat (af .u64 (af .i64 (i+1)))) 32))*2^min (Int.toNat (af .u64 i)) 32))))
def zO (k:Nat) (J:LC×Int->OS S) (c0 depth:Int) (f:LC) (rec0:Int->(LC)->OS S) (v12:Int) (out7:LC):OS S:=ac (decide ((v12:Int)<(f.length:Int))) (ag (ao f v12) fun x1=>aa k (tO k x1.pos (af .i64 (c0+depth))) fun r2=>aa k (tO k x1.neg (af .i64 (c0+depth))) fun r3=>ag (bQ 1099511627776 out7.length [(Cl.mk r2 r3)].length) fun x4=>rec0 (af .i64 (v12+1)) (out7++[(Cl.mk r2 r3)])) (aa k (kZ k out7) fun r5=>J (r5.1,r5.2))
def uh (k:Nat) (J:LC×Int->OS S) (c0 depth:Int) (f:LC):Nat->Int->(LC)->OS S
 |0=>fun _ _=> .none
 |m+1=>fun v12 out7=>zO k J c0 depth f (uh k J c0 depth f m) v12 out7
def Jd (k:Nat) (J:LC×Int->OS S) (J0:Int->(LC)->OS S) (f:LC) (depth c0:Int):OS S:=J0 0 ([]:LC)
def tC (k:Nat) (f:LC) (depth c0:Int) (J:LC×Int->OS S):OS S:=Jd k J (fun v12 out7=>uh k J c0 depth f k v12 out7) f depth c0
def Be (k:Nat) (t:Tm) (depth c0:Int) (J:LC×Int->OS S):OS S:=ac (t.kind==14) (aa k (tC k t.r depth c0) fun r1=>J (r1.1,r1.2)) (aa k (tC k t.r depth c0) fun r2=>J (r2.1,r2.2))
abbrev fK (S:Type):=Tm->Int->Int->(Tm×Int->OS S)->OS S
def zP (hd:fK S) (k:Nat) (J:LT×Int->OS S) (c0 c1:Int) (l:LT) (depth:Int) (rec0:(LT)->Int->OS S) (out10:LT) (v17:Int):OS S:=ac (decide ((v17:Int)<(l.length:Int))) (ag (ao l v17) fun x1=>aa k (wT k v17 c1) fun r2=>hd (ad x1) (af .i64 (depth+r2)) c0 fun r3=>ac (!(r3.2==0)) (J (([]:LT),r3.2)) (ag (bQ 1099511627776 out10.length [(ad r3.1)].length) fun x4=>rec0 (out10++[(ad r3.1)]) (af .i64 (v17+1)))) (J (out10,0))
def qb (hd:fK S) (k:Nat) (J:LT×Int->OS S) (c0 c1:Int) (l:LT) (depth:Int):Nat->(LT)->Int->OS S
 |0=>fun _ _=> .none
 |m+1=>fun out10 v17=>zP hd k J c0 c1 l depth (qb hd k J c0 c1 l depth m) out10 v17
def Je (hd:fK S) (k:Nat) (J:LT×Int->OS S) (J0:(LT)->Int->OS S) (l:LT) (depth c0 c1:Int):OS S:=J0 ([]:LT) 0
def FV (hd:fK S) (k:Nat) (l:LT) (depth c0 c1:Int) (J:LT×Int->OS S):OS S:=Je hd k J (fun out10 v17=>qb hd k J c0 c1 l depth k out10 v17) l depth c0 c1
def zQ (hd:fK S) (k:Nat) (J:LT×Int->OS S) (c0:Int) (c1:Tm) (l:LT) (depth:Int) (rec0:(LT)->Int->OS S) (out10:LT) (v17:Int):OS S:=ac (decide ((v17:Int)<(l.length:Int))) (ag (ao l v17) fun x1=>aa k (wS k v17 (ad c1)) fun r2=>hd (ad x1) (af .i64 (depth+r2)) c0 fun r3=>ac (!(r3.2==0)) (J (([]:LT),r3.2)) (ag (bQ 1099511627776 out10.length [(ad r3.1)].length) fun x4=>rec0 (out10++[(ad r3.1)]) (af .i64 (v17+1)))) (J (out10,0))
def qc (hd:fK S) (k:Nat) (J:LT×Int->OS S) (c0:Int) (c1:Tm) (l:LT) (depth:Int):Nat->(LT)->Int->OS S
 |0=>fun _ _=> .none
 |m+1=>fun out10 v17=>zQ hd k J c0 c1 l depth (qc hd k J c0 c1 l depth m) out10 v17
def Jf (hd:fK S) (k:Nat) (J:LT×Int->OS S) (J0:(LT)->Int->OS S) (l:LT) (depth c0:Int) (c1:Tm):OS S:=J0 ([]:LT) 0
def FW (hd:fK S) (k:Nat) (l:LT) (depth c0:Int) (c1:Tm) (J:LT×Int->OS S):OS S:=Jf hd k J (fun out10 v17=>qc hd k J c0 c1 l depth k out10 v17) l depth c0 c1
def zU (hd:fK S) (k:Nat) (J:Tm×Int->OS S) (c0:Int) (t:Tm) (r1:LC×Int) (r2:LT×Int) (depth:Int) (rec0:Int->(LB)->Int->OS S) (ew:Int) (b8_5:LB) (v55:Int):OS S:=ac (decide ((v55:Int)<(t.sys.length:Int))) (ag (ao t.sys v55) fun x3=>aa k (tC k x3.face depth c0) fun r4=>ac (!(r4.2==0)) (J ((Tm.mk 0 0 au [] [] []),r4.2)) (ac ((r4.1.length:Int)==0) (rec0 ew b8_5 (af .i64 (v55+1))) (aa k (FV hd k x3.kids depth c0 ew) fun r5=>ac (!(r5.2==0)) (J ((Tm.mk 0 0 au [] [] []),r5.2)) (ag (bQ 1099511627776 b8_5.length [(Br.mk r4.1 r5.1)].length) fun x6=>rec0 ew (b8_5++[(Br.mk r4.1 r5.1)]) (af .i64 (v55+1)))))) (J ((Tm.mk t.kind t.n t.name r1.1 r2.1 b8_5),0))
def li (hd:fK S) (k:Nat) (J:Tm×Int->OS S) (c0:Int) (t:Tm) (r1:LC×Int) (r2:LT×Int) (depth:Int):Nat->Int->(LB)->Int->OS S
 |0=>fun _ _ _=> .none
 |m+1=>fun ew b8_5 v55=>zU hd k J c0 t r1 r2 depth (li hd k J c0 t r1 r2 depth m) ew b8_5 v55
def Jj (hd:fK S) (k:Nat) (J:Tm×Int->OS S) (J0:(LC×Int)->(LT×Int)->Int->(LB)->Int->OS S) (t:Tm) (depth c0:Int):OS S:=aa k (Be k (ad t) depth c0) fun r1=>ac (!(r1.2==0)) (J ((Tm.mk 0 0 au [] [] []),r1.2)) (aa k (FW hd k t.kids depth c0 (ad t)) fun r2=>ac (!(r2.2==0)) (J ((Tm.mk 0 0 au [] [] []),r2.2)) (ac (t.kind==15) (J0 r1 r2 1 ([]:LB) 0) (J0 r1 r2 0 ([]:LB) 0)))
def iE:Nat->Tm->Int->Int->(Tm×Int->OS S)->OS S
 |0=>fun _ _ _ _=> .none
 |k+1=>fun t depth c0 J=>Jj (iE k) k J (fun r1 r2 ew b8_5 v55=>li (iE k) k J c0 t r1 r2 depth k ew b8_5 v55) t depth c0
def mz (k:Nat) (t:Tm) (i:Int) (a_r:LC) (J:Tm×Int->OS S):OS S:=aa k (Bf k (ad t) i a_r) fun r1=>ac (!(r1==0)) (J ((Tm.mk 0 0 au [] [] []),r1)) (aa k (om k a_r i 1) fun r2=>ac (!(r2.2==0)) (J ((Tm.mk 0 0 au [] [] []),r2.2)) (aa k (FS k i r2.1) fun r3=>iW k (ad t) 0 r3.1 r3.2 fun r4=>ac (!(r4.2==0)) (J ((Tm.mk 0 0 au [] [] []),r4.2)) (aa k (FR k i) fun r5=>iE k (ad r4.1) 0 r5 fun r6=>J ((ad r6.1),r6.2))))
def nw (k:Nat) (line:Tm) (a_r:LC) (c0:Int) (J:Tm×Int->OS S):OS S:=aa k (fE k c0) fun r1=>ac (!r1) (J ((Tm.mk 0 0 au [] [] []),c0)) (aa k (ox k (ad line) 1 2) fun r2=>aa k (lU k r2.2 c0) fun r3=>aa k (fE k r3) fun r4=>ac (!r4) (J ((Tm.mk 0 0 au [] [] []),r3)) (aa k (mz k (ad r2.1) 0 a_r) fun r5=>aa k (lU k r5.2 r3) fun r6=>J ((ad r5.1),r6)))
def kg (k:Nat) (t:Tm) (vars dims c0:Int) (J:Tm×Int->OS S):OS S:=aa k (fE k c0) fun r1=>ac (!r1) (J ((Tm.mk 0 0 au [] [] []),c0)) (aa k (pM k (ad t) vars dims) fun r2=>aa k (lU k r2.2 c0) fun r3=>J ((ad r2.1),r3))
def fF (k:Nat) (kind:Int) (kids:LT) (J:Int×Int×BA×LT->OS S):OS S:=J (kind,0,au,kids)
def jB (k:Nat) (t:Tm) (c0:Int) (J:Tm×Int×Int->OS S):OS S:=aa k (fE k c0) fun r1=>ac (r1) (aa k (j0 k (ad t)) fun r2=>aa k (lU k r2 c0) fun r3=>aa k (fE k r3) fun r4=>ac (!r4) (J ((Tm.mk 0 0 au [] [] []),r3,r3)) (J ((ad t),0,r3))) (aa k (fE k c0) fun r5=>ac (!r5) (J ((Tm.mk 0 0 au [] [] []),c0,c0)) (J ((ad t),0,c0)))
def wM (k:Nat) (line:Tm) (phi:LC) (a:Tm) (a_end:Cl) (a_r:LC) (J:Tm×Int->OS S):OS S:=aa k (rC k [(ad line),(ad a)]) fun r1=>aa k (ol k phi) fun r2=>ac (!r2) (aa k (lU k 2 r1) fun r3=>aa k (pL k phi r3) fun r4=>aa k (pK k r4.1 [a_end] r4.2) fun r5=>aa k (nw k (ad line) a_r r5.2) fun r6=>aa k (kg k (ad a) 0 1 r6.2) fun r7=>aa k (fF k 14 [(ad r6.1),(ad r7.1)]) fun r8=>aa k (jB k (Tm.mk r8.1 r8.2.1 r8.2.2.1 r5.1 r8.2.2.2 []) r7.2) fun r9=>J ((ad r9.1),r9.2.1)) (aa k (pL k phi r1) fun r10=>aa k (pK k r10.1 [a_end] r10.2) fun r11=>aa k (nw k (ad line) a_r r11.2) fun r12=>aa k (kg k (ad a) 0 1 r12.2) fun r13=>aa k (fF k 14 [(ad r12.1),(ad r13.1)]) fun r14=>aa k (jB k (Tm.mk r14.1 r14.2.1 r14.2.2.1 r11.1 r14.2.2.2 []) r13.2) fun r15=>J ((ad r15.1),r15.2.1))
def A2 (k:Nat) (line:Tm) (phi:LC) (a:Tm) (J:Tm×Int->OS S):OS S:=aa k (wM k (ad line) phi (ad a) (Cl.mk 1 0) [(Cl.mk 0 1),(Cl.mk 2 0)]) fun r1=>J ((ad r1.1),r1.2)
def BT (k:Nat) (line:Tm) (phi:LC) (a:Tm) (c0:Int) (J:Tm×Int->OS S):OS S:=aa k (ef k c0) fun r1=>ac (!r1) (J ((Tm.mk 0 0 au [] [] []),c0)) (aa k (A2 k (ad line) phi (ad a)) fun r2=>aa k (jh k (ad r2.1) r2.2 c0) fun r3=>J ((ad r3.1),r3.2))
def BO (k:Nat) (c0:Int) (c1:Tm) (c2:Int) (J:Pan Int Tm->OS S):OS S:=f_ k c0 0 (ad c1) (if 2000000000<c2 then 2000000000 else c2) 0 fun r2=>Pan.elim r2 (fun r2=>J (.ok (ad r2))) (fun e3=>J (.pan e3))
def Ao (k:Nat) (J:Tm×Int->OS S) (c0:Int) (c1:Tm) (c2:Int) (numbers:List Int) (rec0:Int->OS S) (v19:Int):OS S:=ac (decide ((v19:Int)<(numbers.length:Int))) (ag (ao numbers v19) fun x2=>ac (decide ((x2:Int)<0)) (J ((Tm.mk 0 0 au [] [] []),2)) (rec0 (af .i64 (v19+1)))) (aa k (BO k c0 (ad c1) c2) fun r4=>Pan.elim r4 (fun r4=>J ((ad r4),0)) (fun e5=>J ((Tm.mk 0 0 au [] [] []),e5)))
def r_ (k:Nat) (J:Tm×Int->OS S) (c0:Int) (c1:Tm) (c2:Int) (numbers:List Int):Nat->Int->OS S
 |0=>fun _=> .none
 |m+1=>fun v19=>Ao k J c0 c1 c2 numbers (r_ k J c0 c1 c2 numbers m) v19
def Ec (k:Nat) (J:Tm×Int->OS S) (J0:Int->OS S) (t:Tm) (numbers:List Int) (c0:Int) (c1:Tm) (c2:Int):OS S:=aa k (j0 k (ad t)) fun r1=>ac (!(r1==0)) (J ((Tm.mk 0 0 au [] [] []),r1)) (J0 0)
def BQ (k:Nat) (t:Tm) (numbers:List Int) (c0:Int) (c1:Tm) (c2:Int) (J:Tm×Int->OS S):OS S:=Ec k J (fun v19=>r_ k J c0 c1 c2 numbers k v19) t numbers c0 c1 c2
def tN (k:Nat) (t:Tm) (a_from a_by:Int) (J:Tm×Int->OS S):OS S:=aa k (BQ k (ad t) [a_from,a_by,af .i64 (1000000-a_by)] a_by (ad t) a_from) fun r1=>J ((ad r1.1),r1.2)
def BU (k:Nat) (t:Tm) (vars dims c0:Int) (J:Tm×Int->OS S):OS S:=aa k (ef k c0) fun r1=>ac (!r1) (J ((Tm.mk 0 0 au [] [] []),c0)) (aa k (tN k (ad t) 1 vars) fun r2=>aa k (jh k (ad r2.1) r2.2 c0) fun r3=>aa k (ef k r3.2) fun r4=>ac (!r4) (J ((Tm.mk 0 0 au [] [] []),r3.2)) (aa k (ox k (ad r3.1) 0 dims) fun r5=>aa k (jh k (ad r5.1) r5.2 r3.2) fun r6=>J ((ad r6.1),r6.2)))
abbrev gJ (S:Type):=Tm->(Int->OS S)->OS S
def xe (hd:gJ S) (k:Nat) (a_k:Tm) (p p' c0:Int) (J:Bool×Int->OS S):OS S:=hd (ad a_k) fun r1=>J (true,af .i64 (c0+r1))
def AI (hd:gJ S) (k:Nat) (J:Bool×Int->OS S) (t:Tm) (v42:Int) (x4:(Br Tm)) (more9:Int) (rec1:Int->Int->Int->OS S) (rec2:Int->Int->OS S) (e0_0'' v49:Int):OS S:=ac (decide ((v49:Int)<(x4.kids.length:Int))) (ag (ao x4.kids v49) fun x5=>aa k (xe hd k (ad x5) 0 more9 e0_0'') fun r6=>ac (!r6.1) (J (false,r6.2)) (rec2 r6.2 (af .i64 (v49+1)))) (rec1 e0_0'' (af .i64 (v42+1)) more9)
def sI (hd:gJ S) (k:Nat) (J:Bool×Int->OS S) (rec1:Int->Int->Int->OS S) (t:Tm) (v42:Int) (x4:(Br Tm)) (more9:Int):Nat->Int->Int->OS S
 |0=>fun _ _=> .none
 |m+1=>fun e0_0'' v49=>AI hd k J t v42 x4 more9 rec1 (sI hd k J rec1 t v42 x4 more9 m) e0_0'' v49
def wA (hd:gJ S) (k:Nat) (J:Bool×Int->OS S) (t:Tm) (J2:Int->(Br Tm)->Int->Int->Int->OS S) (rec1:Int->Int->Int->OS S) (e0_0' v42 more9:Int):OS S:=ac (decide ((v42:Int)<(t.sys.length:Int))) (ag (ao t.sys v42) fun x4=>J2 v42 x4 more9 e0_0' 0) (J (true,e0_0'))
def oW (hd:gJ S) (k:Nat) (J:Bool×Int->OS S) (t:Tm):Nat->Int->Int->Int->OS S
 |0=>fun _ _ _=> .none
 |m+1=>fun e0_0' v42 more9=>wA hd k J t (fun v42 x4 more9 e0_0'' v49=>sI hd k J (oW hd k J t m) t v42 x4 more9 k e0_0'' v49) (oW hd k J t m) e0_0' v42 more9
def wz (hd:gJ S) (k:Nat) (J:Bool×Int->OS S) (t:Tm) (J1:Int->Int->Int->OS S) (rec0:Int->Int->OS S) (cV v17:Int):OS S:=ac (decide ((v17:Int)<(t.kids.length:Int))) (ag (ao t.kids v17) fun x1=>aa k (la k t.kind v17) fun r2=>aa k (xe hd k (ad x1) r2.1 r2.2 cV) fun r3=>ac (!r3.1) (J (false,r3.2)) (rec0 r3.2 (af .i64 (v17+1)))) (ac (t.kind==15) (J1 cV 0 1) (J1 cV 0 0))
def uN (hd:gJ S) (k:Nat) (J:Bool×Int->OS S) (t:Tm):Nat->Int->Int->OS S
 |0=>fun _ _=> .none
 |m+1=>fun cV v17=>wz hd k J t (fun e0_0' v42 more9=>oW hd k J t k e0_0' v42 more9) (uN hd k J t m) cV v17
def JT (hd:gJ S) (k:Nat) (J:Bool×Int->OS S) (J0:Int->Int->OS S) (t:Tm) (c0:Int):OS S:=J0 c0 0
def Gk (hd:gJ S) (k:Nat) (t:Tm) (c0:Int) (J:Bool×Int->OS S):OS S:=JT hd k J (fun cV v17=>uN hd k J t k cV v17) t c0
def SP (hd:gJ S) (k:Nat) (J:Int->OS S) (t:Tm):OS S:=aa k (Gk hd k (ad t) 1) fun r1=>J r1.2
def oB:Nat->Tm->(Int->OS S)->OS S
 |0=>fun _ _=> .none
 |k+1=>fun t J=>SP (oB k) k J t
abbrev kL (S:Type):=Tm->Int->(Int->OS S)->OS S
def As (hd:kL S) (k:Nat) (J:Int->OS S) (a_n:Int) (t:Tm) (v49:Int) (x4:(Br Tm)) (rec2:Int->Int->OS S) (rec3:Int->Int->OS S) (sum5'' v56:Int):OS S:=ac (decide ((v56:Int)<(x4.kids.length:Int))) (ag (ao x4.kids v56) fun x5=>hd (ad x5) a_n fun r6=>rec3 (af .i64 (sum5''+r6)) (af .i64 (v56+1))) (rec2 (af .i64 (v49+1)) sum5'')
def sn (hd:kL S) (k:Nat) (J:Int->OS S) (rec2:Int->Int->OS S) (a_n:Int) (t:Tm) (v49:Int) (x4:(Br Tm)):Nat->Int->Int->OS S
 |0=>fun _ _=> .none
 |m+1=>fun sum5'' v56=>As hd k J a_n t v49 x4 rec2 (sn hd k J rec2 a_n t v49 x4 m) sum5'' v56
def we (hd:kL S) (k:Nat) (J:Int->OS S) (a_n:Int) (t:Tm) (J3:Int->(Br Tm)->Int->Int->OS S) (rec2:Int->Int->OS S) (v49 sum5':Int):OS S:=ac (decide ((v49:Int)<(t.sys.length:Int))) (ag (ao t.sys v49) fun x4=>J3 v49 x4 sum5' 0) (J sum5')
def oS (hd:kL S) (k:Nat) (J:Int->OS S) (a_n:Int) (t:Tm):Nat->Int->Int->OS S
 |0=>fun _ _=> .none
 |m+1=>fun v49 sum5'=>we hd k J a_n t (fun v49 x4 sum5'' v56=>sn hd k J (oS hd k J a_n t m) a_n t v49 x4 k sum5'' v56) (oS hd k J a_n t m) v49 sum5'
def wc (hd:kL S) (k:Nat) (J:Int->OS S) (t:Tm) (a_n:Int) (J2:Int->Int->OS S) (rec1:Int->Int->OS S) (v26 sum5:Int):OS S:=ac (decide ((v26:Int)<(t.kids.length:Int))) (ag (ao t.kids v26) fun x1=>aa k (la k t.kind v26) fun r2=>hd (ad x1) (af .i64 (a_n+r2.1)) fun r3=>rec1 (af .i64 (v26+1)) (af .i64 (sum5+r3))) (J2 0 sum5)
def si (hd:kL S) (k:Nat) (J:Int->OS S) (t:Tm) (a_n:Int):Nat->Int->Int->OS S
 |0=>fun _ _=> .none
 |m+1=>fun v26 sum5=>wc hd k J t a_n (fun v49 sum5'=>oS hd k J a_n t k v49 sum5') (si hd k J t a_n m) v26 sum5
def Ar (hd:kL S) (k:Nat) (J:Int->OS S) (t:Tm) (a_n:Int) (J1:Int->Int->OS S):OS S:=J1 0 0
def CR (hd:kL S) (k:Nat) (J:Int->OS S) (t:Tm) (a_n:Int):Nat->OS S
 |0=> .none
 |_+1=>Ar hd k J t a_n (fun v26 sum5=>si hd k J t a_n k v26 sum5)
def Ee (hd:kL S) (k:Nat) (J:Int->OS S) (J0:OS S) (t:Tm) (a_n:Int):OS S:=ac (t.kind==1) (ac (t.n==a_n) (J 1) (J0)) (J0)
def lX:Nat->Tm->Int->(Int->OS S)->OS S
 |0=>fun _ _ _=> .none
 |k+1=>fun t a_n J=>Ee (lX k) k J (CR (lX k) k J t a_n k) t a_n
def BX (k:Nat) (t:Tm) (J:Int->OS S):OS S:=ac (t.kind==15) (J 1) (J 0)
abbrev mo (S:Type):=Tm->Int->Tm->Int->Int->(Pan Int Tm->OS S)->OS S
def Au (hd:mo S) (k:Nat) (J:Pan Int Tm->OS S) (t:Tm) (b13_4:LT) (b13_5:LB) (x9:(Br Tm)) (u:Tm) (a_n vars dims v99:Int) (rec1:(LB)->Int->OS S) (rec2:(LT)->Int->OS S) (b20_1:LT) (v110:Int):OS S:=ac (decide ((v110:Int)<(x9.kids.length:Int))) (ag (ao x9.kids v110) fun x11=>aa k (BX k (ad t)) fun r12=>hd (ad x11) a_n (ad u) vars (af .i64 (dims+r12)) fun r14=>Pan.elim r14 (fun r14=>ag (bQ 1099511627776 b20_1.length [(ad r14)].length) fun x16=>rec2 (b20_1++[(ad r14)]) (af .i64 (v110+1))) (fun e15=>J (.pan e15))) (ag (bQ 1099511627776 b13_5.length [(Br.mk x9.face b20_1)].length) fun x17=>rec1 (b13_5++[(Br.mk x9.face b20_1)]) (af .i64 (v99+1)))
def sz (hd:mo S) (k:Nat) (J:Pan Int Tm->OS S) (rec1:(LB)->Int->OS S) (t:Tm) (b13_4:LT) (b13_5:LB) (x9:(Br Tm)) (u:Tm) (a_n vars dims v99:Int):Nat->(LT)->Int->OS S
 |0=>fun _ _=> .none
 |m+1=>fun b20_1 v110=>Au hd k J t b13_4 b13_5 x9 u a_n vars dims v99 rec1 (sz hd k J rec1 t b13_4 b13_5 x9 u a_n vars dims v99 m) b20_1 v110
def wi (hd:mo S) (k:Nat) (J:Pan Int Tm->OS S) (t:Tm) (b13_4:LT) (u:Tm) (a_n vars dims:Int) (J2:(LB)->(Br Tm)->Int->(LT)->Int->OS S) (rec1:(LB)->Int->OS S) (b13_5:LB) (v99:Int):OS S:=ac (decide ((v99:Int)<(t.sys.length:Int))) (ag (ao t.sys v99) fun x9=>ag (bQ 1099511627776 0 x9.face.length) fun x10=>J2 b13_5 x9 v99 ([]:LT) 0) (J (.ok (Tm.mk t.kind 0 t.name t.r b13_4 b13_5)))
def oT (hd:mo S) (k:Nat) (J:Pan Int Tm->OS S) (t:Tm) (b13_4:LT) (u:Tm) (a_n vars dims:Int):Nat->(LB)->Int->OS S
 |0=>fun _ _=> .none
 |m+1=>fun b13_5 v99=>wi hd k J t b13_4 u a_n vars dims (fun b13_5 x9 v99 b20_1 v110=>sz hd k J (oT hd k J t b13_4 u a_n vars dims m) t b13_4 b13_5 x9 u a_n vars dims v99 k b20_1 v110) (oT hd k J t b13_4 u a_n vars dims m) b13_5 v99
def wg (hd:mo S) (k:Nat) (J:Pan Int Tm->OS S) (t u:Tm) (a_n vars dims:Int) (J1:(LT)->(LB)->Int->OS S) (rec0:(LT)->Int->OS S) (b13_4:LT) (v68:Int):OS S:=ac (decide ((v68:Int)<(t.kids.length:Int))) (ag (ao t.kids v68) fun x3=>aa k (la k t.kind v68) fun r4=>hd (ad x3) a_n (ad u) (af .i64 (vars+r4.1)) (af .i64 (dims+r4.2)) fun r6=>Pan.elim r6 (fun r6=>ag (bQ 1099511627776 b13_4.length [(ad r6)].length) fun x8=>rec0 (b13_4++[(ad r6)]) (af .i64 (v68+1))) (fun e7=>J (.pan e7))) (J1 b13_4 ([]:LB) 0)
def uD (hd:mo S) (k:Nat) (J:Pan Int Tm->OS S) (t u:Tm) (a_n vars dims:Int):Nat->(LT)->Int->OS S
 |0=>fun _ _=> .none
 |m+1=>fun b13_4 v68=>wg hd k J t u a_n vars dims (fun b13_4 b13_5 v99=>oT hd k J t b13_4 u a_n vars dims k b13_5 v99) (uD hd k J t u a_n vars dims m) b13_4 v68
def JG (hd:mo S) (k:Nat) (J:Pan Int Tm->OS S) (J0:(LT)->Int->OS S) (t:Tm) (a_n:Int) (u:Tm) (vars dims:Int):OS S:=ac (t.kind==1) (ac (t.n==(af .i64 (a_n+vars))) (aa k (pM k (ad u) vars dims) fun r1=>ac (!(r1.2==0)) (J (.pan r1.2)) (J (.ok (ad r1.1)))) (ac (decide ((t.n:Int)>(af .i64 (a_n+vars)))) (J (.ok (Tm.mk 1 (af .i64 (t.n-1)) au [] [] []))) (J (.ok (ad t))))) (ag (bQ 1099511627776 0 t.r.length) fun x2=>J0 ([]:LT) 0)
def lY:Nat->Tm->Int->Tm->Int->Int->(Pan Int Tm->OS S)->OS S
 |0=>fun _ _ _ _ _ _=> .none
 |k+1=>fun t a_n u vars dims J=>JG (lY k) k J (fun b13_4 v68=>uD (lY k) k J t u a_n vars dims k b13_4 v68) t a_n u vars dims
abbrev gI (S:Type):=Tm->(Int->OS S)->OS S
def xd (hd:gI S) (k:Nat) (a_k:Tm) (p p' c0:Int) (J:Bool×Int->OS S):OS S:=hd (ad a_k) fun r1=>J (true,if r1>c0 then r1 else c0)
def AJ (hd:gI S) (k:Nat) (J:Bool×Int->OS S) (t:Tm) (v42:Int) (x4:(Br Tm)) (more9:Int) (rec1:Int->Int->Int->OS S) (rec2:Int->Int->OS S) (e0_0'' v49:Int):OS S:=ac (decide ((v49:Int)<(x4.kids.length:Int))) (ag (ao x4.kids v49) fun x5=>aa k (xd hd k (ad x5) 0 more9 e0_0'') fun r6=>ac (!r6.1) (J (false,r6.2)) (rec2 r6.2 (af .i64 (v49+1)))) (rec1 e0_0'' (af .i64 (v42+1)) more9)
def sJ (hd:gI S) (k:Nat) (J:Bool×Int->OS S) (rec1:Int->Int->Int->OS S) (t:Tm) (v42:Int) (x4:(Br Tm)) (more9:Int):Nat->Int->Int->OS S
 |0=>fun _ _=> .none
 |m+1=>fun e0_0'' v49=>AJ hd k J t v42 x4 more9 rec1 (sJ hd k J rec1 t v42 x4 more9 m) e0_0'' v49
def wC (hd:gI S) (k:Nat) (J:Bool×Int->OS S) (t:Tm) (J2:Int->(Br Tm)->Int->Int->Int->OS S) (rec1:Int->Int->Int->OS S) (e0_0' v42 more9:Int):OS S:=ac (decide ((v42:Int)<(t.sys.length:Int))) (ag (ao t.sys v42) fun x4=>J2 v42 x4 more9 e0_0' 0) (J (true,e0_0'))
def oX (hd:gI S) (k:Nat) (J:Bool×Int->OS S) (t:Tm):Nat->Int->Int->Int->OS S
 |0=>fun _ _ _=> .none
 |m+1=>fun e0_0' v42 more9=>wC hd k J t (fun v42 x4 more9 e0_0'' v49=>sJ hd k J (oX hd k J t m) t v42 x4 more9 k e0_0'' v49) (oX hd k J t m) e0_0' v42 more9
def wB (hd:gI S) (k:Nat) (J:Bool×Int->OS S) (t:Tm) (J1:Int->Int->Int->OS S) (rec0:Int->Int->OS S) (cV v17:Int):OS S:=ac (decide ((v17:Int)<(t.kids.length:Int))) (ag (ao t.kids v17) fun x1=>aa k (la k t.kind v17) fun r2=>aa k (xd hd k (ad x1) r2.1 r2.2 cV) fun r3=>ac (!r3.1) (J (false,r3.2)) (rec0 r3.2 (af .i64 (v17+1)))) (ac (t.kind==15) (J1 cV 0 1) (J1 cV 0 0))
def uO (hd:gI S) (k:Nat) (J:Bool×Int->OS S) (t:Tm):Nat->Int->Int->OS S
 |0=>fun _ _=> .none
 |m+1=>fun cV v17=>wB hd k J t (fun e0_0' v42 more9=>oX hd k J t k e0_0' v42 more9) (uO hd k J t m) cV v17
def JU (hd:gI S) (k:Nat) (J:Bool×Int->OS S) (J0:Int->Int->OS S) (t:Tm) (c0:Int):OS S:=J0 c0 0
def Gl (hd:gI S) (k:Nat) (t:Tm) (c0:Int) (J:Bool×Int->OS S):OS S:=JU hd k J (fun cV v17=>uO hd k J t k cV v17) t c0
def SO (hd:gI S) (k:Nat) (J:Int->OS S) (t:Tm):OS S:=aa k (Gl hd k (ad t) 0) fun r1=>J (af .i64 (r1.2+1))
def oA:Nat->Tm->(Int->OS S)->OS S
 |0=>fun _ _=> .none
 |k+1=>fun t J=>SO (oA k) k J t
def BW (k:Nat) (t:Tm) (a_n:Int) (u:Tm) (J:Tm×Int->OS S):OS S:=aa k (j0 k (ad t)) fun r1=>ac (!(r1==0)) (J ((Tm.mk 0 0 au [] [] []),r1)) (aa k (j0 k (ad u)) fun r2=>ac (!(r2==0)) (J ((Tm.mk 0 0 au [] [] []),r2)) (ac (decide ((a_n:Int)<0)) (J ((Tm.mk 0 0 au [] [] []),2)) (oB k (ad t) fun r3=>lX k (ad t) (if 1099511627776<a_n then 1099511627776 else a_n) fun r4=>oB k (ad u) fun r5=>ac (decide ((af .i64 (r3+(af .i64 (r4*(af .i64 (r5-1))))):Int)>20000)) (J ((Tm.mk 0 0 au [] [] []),221)) (lY k (ad t) (if 1099511627776<a_n then 1099511627776 else a_n) (ad u) 0 0 fun r7=>Pan.elim r7 (fun r7=>oA k (ad r7) fun r9=>ac (decide ((r9:Int)>200)) (J ((Tm.mk 0 0 au [] [] []),62)) (J ((ad r7),0))) (fun e8=>J ((Tm.mk 0 0 au [] [] []),e8))))))
def w8 (k:Nat) (t u:Tm) (c0:Int) (J:Tm×Int->OS S):OS S:=aa k (ef k c0) fun r1=>ac (!r1) (J ((Tm.mk 0 0 au [] [] []),c0)) (aa k (BW k (ad t) 0 (ad u)) fun r2=>aa k (jh k (ad r2.1) r2.2 c0) fun r3=>J ((ad r3.1),r3.2))
def pQ (k:Nat) (t:Tm) (a_r:LC) (c0:Int) (J:Tm×Int->OS S):OS S:=aa k (ef k c0) fun r1=>ac (!r1) (J ((Tm.mk 0 0 au [] [] []),c0)) (aa k (mz k (ad t) 0 a_r) fun r2=>aa k (jh k (ad r2.1) r2.2 c0) fun r3=>J ((ad r3.1),r3.2))
def d8 (k:Nat) (kind:Int) (kids:LT) (J:Int×Int×BA×LT->OS S):OS S:=J (kind,0,au,kids)
def iF (k:Nat) (kind:Int) (a_r:LC) (kids:LT) (J:Int×Int×BA×LC×LT->OS S):OS S:=J (kind,0,au,a_r,kids)
def oC (k:Nat) (line a:Tm) (bS:Int) (c0_1:LC) (aG aH:Int) (aI:BA) (aJ:LC) (aK:LT) (aL:LB) (J:Int×Int×BA×LC×LT->OS S):OS S:=aa k (iF k 14 c0_1 [(ad line),(ad a)]) fun r1=>J (r1.1,r1.2.1,r1.2.2.1,r1.2.2.2.1,r1.2.2.2.2)
def B6 (k:Nat) (l:Tm) (bS:Int) (c0_1:LC) (aG aH:Int) (aI:BA) (aJ:LC) (aK:LT) (aL:LB) (J:Int×Int×BA×LT×Int->OS S):OS S:=ag (ao l.kids 0) fun x1=>aa k (jC k (ad x1) 1 0 bS) fun r2=>aa k (Gc k 0) fun r3=>aa k (BT k (ad r2.1) c0_1 (Tm.mk r3.1 r3.2.1 r3.2.2 [] [] []) r2.2) fun r4=>ag (ao l.kids 1) fun x5=>aa k (BU k (ad x5) 1 0 r4.2) fun r6=>aa k (w8 k (ad r6.1) (ad r4.1) r6.2) fun r7=>aa k (jC k (Tm.mk aG aH aI aJ aK aL) 1 0 r7.2) fun r8=>aa k (pQ k (ad r4.1) ([]:LC) r8.2) fun r9=>aa k (d8 k 6 [(ad r8.1),(ad r9.1)]) fun r10=>aa k (oC k (ad r7.1) (Tm.mk r10.1 r10.2.1 r10.2.2.1 [] r10.2.2.2 []) r9.2 c0_1 aG aH aI aJ aK aL) fun r11=>aa k (d8 k 5 [(Tm.mk r11.1 r11.2.1 r11.2.2.1 r11.2.2.2.1 r11.2.2.2.2 [])]) fun r12=>J (r12.1,r12.2.1,r12.2.2.1,r12.2.2.2,r9.2)
def A5 (k:Nat) (line:Tm) (phi:LC) (a:Tm) (J:Tm×Int->OS S):OS S:=aa k (wM k (ad line) phi (ad a) (Cl.mk 0 1) [(Cl.mk 3 0)]) fun r1=>J ((ad r1.1),r1.2)
def w_ (k:Nat) (line:Tm) (phi:LC) (a:Tm) (c0:Int) (J:Tm×Int->OS S):OS S:=aa k (ef k c0) fun r1=>ac (!r1) (J ((Tm.mk 0 0 au [] [] []),c0)) (aa k (A5 k (ad line) phi (ad a)) fun r2=>aa k (jh k (ad r2.1) r2.2 c0) fun r3=>J ((ad r3.1),r3.2))
def B7 (k:Nat) (l:Tm) (bS:Int) (c0_1:LC) (aG aH:Int) (aI:BA) (aJ:LC) (aK:LT) (aL:LB) (J:Int×Int×BA×LT×Int->OS S):OS S:=aa k (d8 k 9 [(Tm.mk aG aH aI aJ aK aL)]) fun r1=>ag (ao l.kids 1) fun x2=>ag (ao l.kids 0) fun x3=>aa k (w_ k (ad x3) c0_1 (Tm.mk r1.1 r1.2.1 r1.2.2.1 [] r1.2.2.2 []) bS) fun r4=>aa k (w8 k (ad x2) (ad r4.1) r4.2) fun r5=>ag (ao l.kids 0) fun x6=>aa k (oC k (ad x6) (Tm.mk r1.1 r1.2.1 r1.2.2.1 [] r1.2.2.2 []) r5.2 c0_1 aG aH aI aJ aK aL) fun r7=>aa k (d8 k 10 [(Tm.mk aG aH aI aJ aK aL)]) fun r8=>aa k (oC k (ad r5.1) (Tm.mk r8.1 r8.2.1 r8.2.2.1 [] r8.2.2.2 []) r5.2 c0_1 aG aH aI aJ aK aL) fun r9=>aa k (d8 k 8 [(Tm.mk r7.1 r7.2.1 r7.2.2.1 r7.2.2.2.1 r7.2.2.2.2 []),(Tm.mk r9.1 r9.2.1 r9.2.2.1 r9.2.2.2.1 r9.2.2.2.2 [])]) fun r10=>J (r10.1,r10.2.1,r10.2.2.1,r10.2.2.2,r5.2)
def B4 (k:Nat) (t:Tm) (J:Tm×Int->OS S):OS S:=aa k (ox k (ad t) 2 1) fun r1=>ac (!(r1.2==0)) (J ((Tm.mk 0 0 au [] [] []),r1.2)) (aa k (mz k (ad r1.1) 0 [(Cl.mk 2 0)]) fun r2=>J ((ad r2.1),r2.2))
def B8 (k:Nat) (t:Tm) (bS:Int) (c0_1:LC) (aG aH:Int) (aI:BA) (aJ:LC) (aK:LT) (aL:LB) (J:Tm×Int->OS S):OS S:=ac (!(bS==0)) (J ((Tm.mk 0 0 au [] [] []),bS)) (aa k (B4 k (ad t)) fun r1=>J ((ad r1.1),r1.2))
def xo (k:Nat) (a_by:Int) (a_r:Cl) (c1 c2:Tm) (ez:Int) (cE:LC) (ct cu:Int) (cv:BA) (cx:LC) (cz:LT) (cA:LB) (J:Int×Int×BA×LC×LT×Int->OS S):OS S:=aa k (jC k (Tm.mk ct cu cv cx cz cA) 0 a_by ez) fun r1=>aa k (jC k (ad c1) 0 a_by r1.2) fun r2=>aa k (jC k (ad c2) 0 a_by r2.2) fun r3=>aa k (iF k 13 [a_r] [(ad r1.1),(ad r2.1),(ad r3.1)]) fun r4=>J (r4.1,r4.2.1,r4.2.2.1,r4.2.2.2.1,r4.2.2.2.2,r3.2)
def w9 (k:Nat) (f:LC) (a_by c0:Int) (J:LC×Int->OS S):OS S:=aa k (ef k c0) fun r1=>ac (!r1) (J (([]:LC),c0)) (aa k (om k f 0 a_by) fun r2=>aa k (jh k (Tm.mk 0 0 au [] [] []) r2.2 c0) fun r3=>J (r2.1,r3.2))
def eV (k:Nat) (f:LC) (kids:LT) (J:(Br Tm)->OS S):OS S:=J (Br.mk f kids)
def pP (k:Nat) (t:Tm) (a_by c0:Int) (J:Tm×Int->OS S):OS S:=aa k (ef k c0) fun r1=>ac (!r1) (J ((Tm.mk 0 0 au [] [] []),c0)) (aa k (ox k (ad t) 1 a_by) fun r2=>aa k (jh k (ad r2.1) r2.2 c0) fun r3=>J ((ad r3.1),r3.2))
def wN (k:Nat) (sys:LB) (J:Int×Int×BA×LT×LB->OS S):OS S:=aa k (fF k 3 ([]:LT)) fun r1=>aa k (fF k 3 ([]:LT)) fun r2=>J (15,0,au,[(Tm.mk r1.1 r1.2.1 r1.2.2.1 [] r1.2.2.2 []),(Tm.mk r2.1 r2.2.1 r2.2.2.1 [] r2.2.2.2 [])],sys)
def A6 (k:Nat) (line:Tm) (c0:Int) (J:Tm×Int->OS S):OS S:=aa k (fE k c0) fun r1=>ac (!r1) (J ((Tm.mk 0 0 au [] [] []),c0)) (aa k (rD k) fun r2=>aa k (mz k (ad line) 0 r2) fun r3=>aa k (lU k r3.2 c0) fun r4=>J ((ad r3.1),r4))
def tt (k:Nat) (J:Tm×Int->OS S) (r3:Tm) (r9:Int×Int×BA×LT) (r6:Tm) (rec0:Int->(LB)->Int->OS S) (jX:Int) (b9_5:LB) (v38:Int):OS S:=ac (decide ((v38:Int)<(r6.sys.length:Int))) (ag (ao r6.sys v38) fun x10=>aa k (fE k jX) fun r11=>ac (!r11) (aa k (jB k (Tm.mk r9.1 r9.2.1 r9.2.2.1 [] r9.2.2.2 b9_5) jX) fun r12=>J ((ad r12.1),r12.2.1)) (aa k (nw k (ad r3) [(Cl.mk 1 0),(Cl.mk 2 0)] jX) fun r13=>ag (ao x10.kids 0) fun x14=>aa k (fF k 14 [(ad r13.1),(ad x14)]) fun r15=>ag (bQ 1099511627776 b9_5.length [(Br.mk x10.face [(Tm.mk r15.1 r15.2.1 r15.2.2.1 [(Cl.mk 1 0)] r15.2.2.2 [])])].length) fun x16=>rec0 r13.2 (b9_5++[(Br.mk x10.face [(Tm.mk r15.1 r15.2.1 r15.2.2.1 [(Cl.mk 1 0)] r15.2.2.2 [])])]) (af .i64 (v38+1)))) (aa k (jB k (Tm.mk r9.1 r9.2.1 r9.2.2.1 [] r9.2.2.2 b9_5) jX) fun r17=>J ((ad r17.1),r17.2.1))
def oP (k:Nat) (J:Tm×Int->OS S) (r3:Tm) (r9:Int×Int×BA×LT) (r6:Tm):Nat->Int->(LB)->Int->OS S
 |0=>fun _ _ _=> .none
 |m+1=>fun jX b9_5 v38=>tt k J r3 r9 r6 (oP k J r3 r9 r6 m) jX b9_5 v38
def Ja (k:Nat) (J:Tm×Int->OS S) (J0:Tm->(Int×Int×BA×LT)->Tm->Int->(LB)->Int->OS S) (line a:Tm) (sys:LB):OS S:=aa k (wN k sys) fun r1=>aa k (rC k [(ad line),(ad a),(Tm.mk r1.1 r1.2.1 r1.2.2.1 [] r1.2.2.2.1 r1.2.2.2.2)]) fun r2=>fH k (ad line) fun r3=>fH k (ad a) fun r4=>aa k (wN k sys) fun r5=>fH k (Tm.mk r5.1 r5.2.1 r5.2.2.1 [] r5.2.2.2.1 r5.2.2.2.2) fun r6=>aa k (A6 k (ad r3) r2) fun r7=>aa k (fF k 14 [(ad r3),(ad r4)]) fun r8=>aa k (fF k 15 [(ad r7.1),(Tm.mk r8.1 r8.2.1 r8.2.2.1 [] r8.2.2.2 [])]) fun r9=>J0 r3 r9 r6 r7.2 ([]:LB) 0
def A3 (k:Nat) (line a:Tm) (sys:LB) (J:Tm×Int->OS S):OS S:=Ja k J (fun r3 r9 r6 jX b9_5 v38=>oP k J r3 r9 r6 k jX b9_5 v38) line a sys
def rI (k:Nat) (line a:Tm) (sys:LB) (c0:Int) (J:Tm×Int->OS S):OS S:=aa k (ef k c0) fun r1=>ac (!r1) (J ((Tm.mk 0 0 au [] [] []),c0)) (aa k (A3 k (ad line) (ad a) sys) fun r2=>aa k (jh k (ad r2.1) r2.2 c0) fun r3=>J ((ad r3.1),r3.2))
def B5 (k:Nat) (l:Tm) (bS:Int) (c0_1:LC) (aG aH:Int) (aI:BA) (aJ:LC) (aK:LT) (aL:LB) (J:Int×Int×BA×LT×Int->OS S):OS S:=ag (ao l.kids 1) fun x1=>aa k (pQ k (ad x1) ([]:LC) bS) fun r2=>ag (ao l.kids 2) fun x3=>aa k (pQ k (ad x3) ([]:LC) r2.2) fun r4=>ag (ao l.kids 0) fun x5=>aa k (B8 k (ad x5) r4.2 c0_1 aG aH aI aJ aK aL) fun r6=>aa k (xo k 1 (Cl.mk 1 0) (ad r2.1) (ad r4.1) r6.2 c0_1 aG aH aI aJ aK aL) fun r7=>ac (decide (((c0_1.length:Int):Int)>0)) (aa k (w9 k c0_1 1 r7.2.2.2.2.2) fun r8=>aa k (xo k 2 (Cl.mk 2 0) (ad r2.1) (ad r4.1) r8.2 c0_1 aG aH aI aJ aK aL) fun r9=>aa k (eV k r8.1 [(Tm.mk r9.1 r9.2.1 r9.2.2.1 r9.2.2.2.1 r9.2.2.2.2.1 [])]) fun r10=>ag (bQ 1099511627776 0 [r10].length) fun x11=>ag (ao l.kids 1) fun x12=>aa k (pP k (ad x12) 1 r9.2.2.2.2.2) fun r13=>aa k (eV k [(Cl.mk 0 1)] [(ad r13.1)]) fun r14=>ag (bQ 1099511627776 [r10].length [r14].length) fun x15=>ag (ao l.kids 2) fun x16=>aa k (pP k (ad x16) 1 r13.2) fun r17=>aa k (eV k [(Cl.mk 1 0)] [(ad r17.1)]) fun r18=>ag (bQ 1099511627776 ([r10]++[r14]).length [r18].length) fun x19=>aa k (rI k (ad r6.1) (Tm.mk r7.1 r7.2.1 r7.2.2.1 r7.2.2.2.1 r7.2.2.2.2.1 []) (([r10]++[r14])++[r18]) r17.2) fun r20=>aa k (d8 k 12 [(ad r20.1)]) fun r21=>J (r21.1,r21.2.1,r21.2.2.1,r21.2.2.2,r20.2)) (ag (ao l.kids 1) fun x22=>aa k (pP k (ad x22) 1 r7.2.2.2.2.2) fun r23=>aa k (eV k [(Cl.mk 0 1)] [(ad r23.1)]) fun r24=>ag (bQ 1099511627776 0 [r24].length) fun x25=>ag (ao l.kids 2) fun x26=>aa k (pP k (ad x26) 1 r23.2) fun r27=>aa k (eV k [(Cl.mk 1 0)] [(ad r27.1)]) fun r28=>ag (bQ 1099511627776 [r24].length [r28].length) fun x29=>aa k (rI k (ad r6.1) (Tm.mk r7.1 r7.2.1 r7.2.2.1 r7.2.2.2.1 r7.2.2.2.2.1 []) ([r24]++[r28]) r27.2) fun r30=>aa k (d8 k 12 [(ad r30.1)]) fun r31=>J (r31.1,r31.2.1,r31.2.2.1,r31.2.2.2,r30.2))
def w7 (k:Nat) (t:Tm) (c0:Int) (J:Tm×Int->OS S):OS S:=aa k (rD k) fun r1=>aa k (pQ k (ad t) r1 c0) fun r2=>J ((ad r2.1),r2.2)
def ny (k:Nat) (kind:Int) (l:LB) (kids:LT) (J:Int×Int×BA×LT×LB->OS S):OS S:=J (kind,0,au,kids,l)
def Al (k:Nat) (J:Tm×Bool×Int->OS S) (r3:Tm) (r15:Int×Int×BA×LC×LT) (x4:Tm) (r13:Tm×Int) (x5:Tm) (rec0:Int->(LB)->Int->OS S) (kU:Int) (sys11:LB) (v96:Int):OS S:=ac (decide ((v96:Int)<(x5.sys.length:Int))) (ag (ao x5.sys v96) fun x16=>aa k (w9 k r3.r 1 kU) fun r17=>aa k (pP k (ad x4) 1 r17.2) fun r18=>ag (ao x16.kids 0) fun x19=>aa k (iF k 14 r17.1 [(ad r18.1),(ad x19)]) fun r20=>aa k (eV k x16.face [(Tm.mk r20.1 r20.2.1 r20.2.2.1 r20.2.2.2.1 r20.2.2.2.2 [])]) fun r21=>ag (bQ 1099511627776 sys11.length [r21].length) fun x22=>rec0 r18.2 (sys11++[r21]) (af .i64 (v96+1))) (aa k (ny k 15 sys11 [(ad r13.1),(Tm.mk r15.1 r15.2.1 r15.2.2.1 r15.2.2.2.1 r15.2.2.2.2 [])]) fun r23=>aa k (hY k (Tm.mk r23.1 r23.2.1 r23.2.2.1 [] r23.2.2.2.1 r23.2.2.2.2) kU) fun r24=>J ((ad r24.1),r24.2.1,r24.2.2.1))
def rX (k:Nat) (J:Tm×Bool×Int->OS S) (r3:Tm) (r15:Int×Int×BA×LC×LT) (x4:Tm) (r13:Tm×Int) (x5:Tm):Nat->Int->(LB)->Int->OS S
 |0=>fun _ _ _=> .none
 |m+1=>fun kU sys11 v96=>Al k J r3 r15 x4 r13 x5 (rX k J r3 r15 x4 r13 x5 m) kU sys11 v96
def JD (k:Nat) (J:Tm×Bool×Int->OS S) (J0:Tm->(Int×Int×BA×LC×LT)->Tm->(Tm×Int)->Tm->Int->(LB)->Int->OS S) (t:Tm):OS S:=aa k (j0 k (ad t)) fun r1=>ac (!(r1==0)) (J ((Tm.mk 0 0 au [] [] []),false,r1)) (ac (!(t.kind==14)) (J ((Tm.mk 0 0 au [] [] []),false,0)) (ag (ao t.kids 0) fun x2=>ac (!(x2.kind==23)) (J ((Tm.mk 0 0 au [] [] []),false,0)) (fH k (ad t) fun r3=>ag (ao r3.kids 0) fun x4=>ag (ao r3.kids 1) fun x5=>ac (x5.kind==24) (aa k (hY k (ad x5) 0) fun r6=>J ((ad r6.1),r6.2.1,r6.2.2.1)) (ac (x5.kind==25) (aa k (hY k (ad x5) 0) fun r7=>J ((ad r7.1),r7.2.1,r7.2.2.1)) (ac (x5.kind==26) (ag (ao x4.kids 0) fun x8=>ag (ao x5.kids 0) fun x9=>aa k (iF k 14 r3.r [(ad x8),(ad x9)]) fun r10=>aa k (iF k 26 x5.r [(Tm.mk r10.1 r10.2.1 r10.2.2.1 r10.2.2.2.1 r10.2.2.2.2 [])]) fun r11=>aa k (hY k (Tm.mk r11.1 r11.2.1 r11.2.2.1 r11.2.2.2.1 r11.2.2.2.2 []) 0) fun r12=>J ((ad r12.1),r12.2.1,r12.2.2.1)) (ac (x5.kind==15) (aa k (w7 k (ad x4) 0) fun r13=>ag (ao x5.kids 1) fun x14=>aa k (iF k 14 r3.r [(ad x4),(ad x14)]) fun r15=>J0 r3 r15 x4 r13 x5 r13.2 ([]:LB) 0) (J ((Tm.mk 0 0 au [] [] []),false,0))))))))
def BH (k:Nat) (t:Tm) (J:Tm×Bool×Int->OS S):OS S:=JD k J (fun r3 r15 x4 r13 x5 kU sys11 v96=>rX k J r3 r15 x4 r13 x5 k kU sys11 v96) t
def Gb (k:Nat) (b:(Br Tm)) (J:(Br Tm)->OS S):OS S:=ag (ao b.kids 1) fun x1=>aa k (eV k b.face [(ad x1)]) fun r2=>J r2
def Aj (k:Nat) (J:LB->OS S) (l:LB) (rec0:Int->(LB)->OS S) (v10:Int) (out5:LB):OS S:=ac (decide ((v10:Int)<(l.length:Int))) (ag (ao l v10) fun x1=>aa k (Gb k x1) fun r2=>ag (bQ 1099511627776 out5.length [r2].length) fun x3=>rec0 (af .i64 (v10+1)) (out5++[r2])) (J out5)
def uB (k:Nat) (J:LB->OS S) (l:LB):Nat->Int->(LB)->OS S
 |0=>fun _ _=> .none
 |m+1=>fun v10 out5=>Aj k J l (uB k J l m) v10 out5
def JB (k:Nat) (J:LB->OS S) (J0:Int->(LB)->OS S) (l:LB):OS S:=J0 0 ([]:LB)
def F_ (k:Nat) (l:LB) (J:LB->OS S):OS S:=JB k J (fun v10 out5=>uB k J l k v10 out5) l
def BG (k:Nat) (g:Tm) (J:LB->OS S):OS S:=aa k (F_ k g.sys) fun r1=>J r1
def Ga (k:Nat) (a:Tm) (es:LB) (J:Int×Int×BA×LT×LB->OS S):OS S:=aa k (ny k 18 es [(ad a)]) fun r1=>J (r1.1,r1.2.1,r1.2.2.1,r1.2.2.2.1,r1.2.2.2.2)
def FZ (k:Nat) (c:Cl) (c0:Int) (J:Cl×Bool->OS S):OS S:=aa k (lW k (cP .or .u32 c.pos c.neg) c0) fun r1=>J (c,!r1)
def zY (k:Nat) (J:LC->OS S) (c0:Int) (l:LC) (rec0:Int->(LC)->OS S) (v12:Int) (out5:LC):OS S:=ac (decide ((v12:Int)<(l.length:Int))) (ag (ao l v12) fun x1=>aa k (FZ k x1 c0) fun r2=>ac (r2.2) (ag (bQ 1099511627776 out5.length [r2.1].length) fun x3=>rec0 (af .i64 (v12+1)) (out5++[r2.1])) (rec0 (af .i64 (v12+1)) out5)) (J out5)
def ul (k:Nat) (J:LC->OS S) (c0:Int) (l:LC):Nat->Int->(LC)->OS S
 |0=>fun _ _=> .none
 |m+1=>fun v12 out5=>zY k J c0 l (ul k J c0 l m) v12 out5
def Jn (k:Nat) (J:LC->OS S) (J0:Int->(LC)->OS S) (l:LC) (c0:Int):OS S:=J0 0 ([]:LC)
def F0 (k:Nat) (l:LC) (c0:Int) (J:LC->OS S):OS S:=Jn k J (fun v12 out5=>ul k J c0 l k v12 out5) l c0
def Bg (k:Nat) (f:LC) (i:Int) (J:LC×Int->OS S):OS S:=aa k (ol k f) fun r1=>ac (!r1) (J (([]:LC),2)) (aa k (wW k i) fun r2=>ac (!r2) (J (([]:LC),2)) (aa k (F0 k f i) fun r3=>aa k (kZ k r3) fun r4=>J (r4.1,r4.2)))
def BS (k:Nat) (f:LC) (c0:Int) (J:LC×Int->OS S):OS S:=aa k (ef k c0) fun r1=>ac (!r1) (J (([]:LC),c0)) (aa k (Bg k f 0) fun r2=>aa k (jh k (Tm.mk 0 0 au [] [] []) r2.2 c0) fun r3=>aa k (ef k r3.2) fun r4=>ac (!r4) (J (([]:LC),r3.2)) (aa k (d8 k 3 ([]:LT)) fun r5=>aa k (d8 k 3 ([]:LT)) fun r6=>aa k (rE k) fun r7=>aa k (mz k (Tm.mk 14 0 au r2.1 [(Tm.mk r5.1 r5.2.1 r5.2.2.1 [] r5.2.2.2 []),(Tm.mk r6.1 r6.2.1 r6.2.2.1 [] r6.2.2.2 [])] []) 0 r7) fun r8=>aa k (jh k (Tm.mk 0 0 au [] [] []) r8.2 r3.2) fun r9=>J (r8.1.r,r9.2)))
def tJ (k:Nat) (c1:Tm) (jZ:Int) (gS:LC) (gZ g5:Int) (g6:BA) (g7:LC) (g8:LT) (g9 g_:LB) (gy gn:Int) (gq:BA) (gr:LC) (gu:LT) (gx:LB) (gU gV:Int) (gW:BA) (gX:LC) (gY:LT) (g4:LB) (J:Tm×Int->OS S):OS S:=aa k (jC k (ad c1) 0 1 jZ) fun r1=>J ((ad r1.1),r1.2)
def wZ (k:Nat) (bS:Int) (c0_1:LC) (aG aH:Int) (aI:BA) (aJ:LC) (aK:LT) (aL dV:LB) (cL cF:Int) (cG:BA) (cH:LC) (cJ:LT) (cK:LB) (b9 b_:Int) (ca:BA) (ce:LC) (ci:LT) (cj:LB) (c2:Tm) (J:LB×Int->OS S):OS S:=ac ((c0_1.length:Int)==0) (J (([]:LB),bS)) (aa k (tJ k (ad c2) bS c0_1 aG aH aI aJ aK aL dV cL cF cG cH cJ cK b9 b_ ca ce ci cj) fun r1=>aa k (eV k c0_1 [(ad r1.1)]) fun r2=>J ([r2],r1.2))
def rG (k:Nat) (a_e:Tm) (J:Int×Int×BA×LT->OS S):OS S:=aa k (d8 k 9 [(ad a_e)]) fun r1=>J (r1.1,r1.2.1,r1.2.2.1,r1.2.2.2)
def F8 (k:Nat) (b:(Br Tm)) (dJ:Int) (ba:LC) (bm bn:Int) (bo:BA) (bp:LC) (bq:LT) (bw bK:LB) (bz be:Int) (bg:BA) (bh:LC) (bj:LT) (bk:LB) (bA bB:Int) (bD:BA) (bG:LC) (bH:LT) (bJ:LB) (J:(Br Tm)×Int->OS S):OS S:=ag (ao b.kids 1) fun x1=>aa k (rG k (ad x1)) fun r2=>ag (ao b.kids 0) fun x3=>aa k (w_ k (ad x3) ba (Tm.mk bm bn bo bp bq bw) dJ) fun r4=>aa k (d8 k 6 [(Tm.mk r2.1 r2.2.1 r2.2.2.1 [] r2.2.2.2 []),(ad r4.1)]) fun r5=>aa k (eV k b.face [(Tm.mk r5.1 r5.2.1 r5.2.2.1 [] r5.2.2.2 [])]) fun r6=>J (r6,r4.2)
def Ah (k:Nat) (J:LB×Int->OS S) (ba:LC) (be:Int) (bg:BA) (bh:LC) (bj:LT) (bk:LB) (bA bB:Int) (bD:BA) (bG:LC) (bH:LT) (bm:Int) (bJ:LB) (bn:Int) (bo:BA) (bp:LC) (bq:LT) (bw bK:LB) (bz:Int) (l:LB) (rec0:Int->Int->(LB)->OS S) (dl v10:Int) (out5:LB):OS S:=ac (decide ((v10:Int)<(l.length:Int))) (ag (ao l v10) fun x1=>aa k (F8 k x1 dl ba bm bn bo bp bq bw bK bz be bg bh bj bk bA bB bD bG bH bJ) fun r2=>ag (bQ 1099511627776 out5.length [r2.1].length) fun x3=>rec0 r2.2 (af .i64 (v10+1)) (out5++[r2.1])) (J (out5,dl))
def uz (k:Nat) (J:LB×Int->OS S) (ba:LC) (be:Int) (bg:BA) (bh:LC) (bj:LT) (bk:LB) (bA bB:Int) (bD:BA) (bG:LC) (bH:LT) (bm:Int) (bJ:LB) (bn:Int) (bo:BA) (bp:LC) (bq:LT) (bw bK:LB) (bz:Int) (l:LB):Nat->Int->Int->(LB)->OS S
 |0=>fun _ _ _=> .none
 |m+1=>fun dl v10 out5=>Ah k J ba be bg bh bj bk bA bB bD bG bH bm bJ bn bo bp bq bw bK bz l (uz k J ba be bg bh bj bk bA bB bD bG bH bm bJ bn bo bp bq bw bK bz l m) dl v10 out5
def Jz (k:Nat) (J:LB×Int->OS S) (J0:Int->Int->(LB)->OS S) (l:LB) (dJ:Int) (ba:LC) (bm bn:Int) (bo:BA) (bp:LC) (bq:LT) (bw bK:LB) (bz be:Int) (bg:BA) (bh:LC) (bj:LT) (bk:LB) (bA bB:Int) (bD:BA) (bG:LC) (bH:LT) (bJ:LB):OS S:=J0 dJ 0 ([]:LB)
def w5 (k:Nat) (l:LB) (dJ:Int) (ba:LC) (bm bn:Int) (bo:BA) (bp:LC) (bq:LT) (bw bK:LB) (bz be:Int) (bg:BA) (bh:LC) (bj:LT) (bk:LB) (bA bB:Int) (bD:BA) (bG:LC) (bH:LT) (bJ:LB) (J:LB×Int->OS S):OS S:=Jz k J (fun dl v10 out5=>uz k J ba be bg bh bj bk bA bB bD bG bH bm bJ bn bo bp bq bw bK bz l k dl v10 out5) l dJ ba bm bn bo bp bq bw bK bz be bg bh bj bk bA bB bD bG bH bJ
def Ag (k:Nat) (J:Int×LB×Int×Int×BA×LC×LT×LB->OS S) (c0_1:LC) (cF:Int) (cG:BA) (cH:LC) (cJ:LT) (cK:LB) (b9 b_:Int) (ca:BA) (ce:LC) (ci:LT) (aG:Int) (cj:LB) (aH:Int) (aI:BA) (aJ:LC) (aK:LT) (aL:LB) (cL:Int) (g:Tm) (r3:Int×Int×BA×LT×LB) (rec0:Int->(LB)->Int->OS S) (cV:Int) (e0_8:LB) (v23:Int):OS S:=ac (decide ((v23:Int)<(g.sys.length:Int))) (ag (ao g.sys v23) fun x4=>aa k (BS k x4.face cV) fun r5=>ac (decide (((r5.1.length:Int):Int)>0)) (aa k (eV k r5.1 x4.kids) fun r6=>ag (bQ 1099511627776 e0_8.length [r6].length) fun x7=>rec0 r5.2 (e0_8++[r6]) (af .i64 (v23+1))) (rec0 r5.2 e0_8 (af .i64 (v23+1)))) (aa k (wZ k cV c0_1 aG aH aI aJ aK aL e0_8 cL cF cG cH cJ cK b9 b_ ca ce ci cj (Tm.mk r3.1 r3.2.1 r3.2.2.1 [] r3.2.2.2.1 r3.2.2.2.2)) fun r8=>aa k (w5 k e0_8 r8.2 c0_1 aG aH aI aJ aK aL e0_8 cL cF cG cH cJ cK b9 b_ ca ce ci cj) fun r9=>ag (bQ 1099511627776 r8.1.length r9.1.length) fun x10=>ag (ao g.kids 0) fun x11=>aa k (rI k (ad x11) (Tm.mk r3.1 r3.2.1 r3.2.2.1 [] r3.2.2.2.1 r3.2.2.2.2) (r8.1++r9.1) r9.2) fun r12=>J (r12.2,e0_8,r12.1.kind,r12.1.n,r12.1.name,r12.1.r,r12.1.kids,r12.1.sys))
def uy (k:Nat) (J:Int×LB×Int×Int×BA×LC×LT×LB->OS S) (c0_1:LC) (cF:Int) (cG:BA) (cH:LC) (cJ:LT) (cK:LB) (b9 b_:Int) (ca:BA) (ce:LC) (ci:LT) (aG:Int) (cj:LB) (aH:Int) (aI:BA) (aJ:LC) (aK:LT) (aL:LB) (cL:Int) (g:Tm) (r3:Int×Int×BA×LT×LB):Nat->Int->(LB)->Int->OS S
 |0=>fun _ _ _=> .none
 |m+1=>fun cV e0_8 v23=>Ag k J c0_1 cF cG cH cJ cK b9 b_ ca ce ci aG cj aH aI aJ aK aL cL g r3 (uy k J c0_1 cF cG cH cJ cK b9 b_ ca ce ci aG cj aH aI aJ aK aL cL g r3 m) cV e0_8 v23
def Jy (k:Nat) (J:Int×LB×Int×Int×BA×LC×LT×LB->OS S) (J0:(Int×Int×BA×LT×LB)->Int->(LB)->Int->OS S) (g:Tm) (bS:Int) (c0_1:LC) (aG aH:Int) (aI:BA) (aJ:LC) (aK:LT) (aL:LB) (cL cF:Int) (cG:BA) (cH:LC) (cJ:LT) (cK:LB) (b9 b_:Int) (ca:BA) (ce:LC) (ci:LT) (cj:LB):OS S:=aa k (pQ k (ad g) ([]:LC) bS) fun r1=>aa k (BG k (ad r1.1)) fun r2=>aa k (Ga k (Tm.mk aG aH aI aJ aK aL) r2) fun r3=>J0 r3 r1.2 ([]:LB) 0
def BC (k:Nat) (g:Tm) (bS:Int) (c0_1:LC) (aG aH:Int) (aI:BA) (aJ:LC) (aK:LT) (aL:LB) (cL cF:Int) (cG:BA) (cH:LC) (cJ:LT) (cK:LB) (b9 b_:Int) (ca:BA) (ce:LC) (ci:LT) (cj:LB) (J:Int×LB×Int×Int×BA×LC×LT×LB->OS S):OS S:=Jy k J (fun r3 cV e0_8 v23=>uy k J c0_1 cF cG cH cJ cK b9 b_ ca ce ci aG cj aH aI aJ aK aL cL g r3 k cV e0_8 v23) g bS c0_1 aG aH aI aJ aK aL cL cF cG cH cJ cK b9 b_ ca ce ci cj
def FQ (k:Nat) (a_n:Int) (J:Int×Int×BA->OS S):OS S:=J (1,a_n,au)
def A7 (k:Nat) (t a f y:Tm) (c0:Int) (J:Int×Int×BA×LT×Int->OS S):OS S:=aa k (kg k (ad a) 1 1 c0) fun r1=>aa k (kg k (ad y) 1 0 r1.2) fun r2=>aa k (kg k (ad f) 1 0 r2.2) fun r3=>aa k (FQ k 0) fun r4=>aa k (fF k 6 [(ad r3.1),(Tm.mk r4.1 r4.2.1 r4.2.2 [] [] [])]) fun r5=>aa k (fF k 11 [(ad r1.1),(ad r2.1),(Tm.mk r5.1 r5.2.1 r5.2.2.1 [] r5.2.2.2 [])]) fun r6=>aa k (fF k 7 [(ad t),(Tm.mk r6.1 r6.2.1 r6.2.2.1 [] r6.2.2.2 [])]) fun r7=>J (r7.1,r7.2.1,r7.2.2.1,r7.2.2.2,r3.2)
def A4 (k:Nat) (t a f y:Tm) (J:Tm×Int->OS S):OS S:=aa k (rC k [(ad t),(ad a),(ad f),(ad y)]) fun r1=>fH k (ad t) fun r2=>aa k (A7 k (ad r2) (ad a) (ad f) (ad y) r1) fun r3=>aa k (jB k (Tm.mk r3.1 r3.2.1 r3.2.2.1 [] r3.2.2.2.1 []) r3.2.2.2.2) fun r4=>J ((ad r4.1),r4.2.1)
def BV (k:Nat) (t a f y:Tm) (c0:Int) (J:Tm×Int->OS S):OS S:=aa k (ef k c0) fun r1=>ac (!r1) (J ((Tm.mk 0 0 au [] [] []),c0)) (aa k (A4 k (ad t) (ad a) (ad f) (ad y)) fun r2=>aa k (jh k (ad r2.1) r2.2 c0) fun r3=>J ((ad r3.1),r3.2))
def wY (k:Nat) (a_x c1:Tm) (jZ:Int) (gS:LC) (gZ g5:Int) (g6:BA) (g7:LC) (g8:LT) (g9 g_:LB) (gy gn:Int) (gq:BA) (gr:LC) (gu:LT) (gx:LB) (gU gV:Int) (gW:BA) (gX:LC) (gY:LT) (g4:LB) (J:Int×Int×BA×LC×LT×Int->OS S):OS S:=aa k (jC k (ad c1) 0 1 jZ) fun r1=>aa k (jC k (ad a_x) 0 1 r1.2) fun r2=>aa k (jC k (Tm.mk gy gn gq gr gu gx) 0 2 r2.2) fun r3=>aa k (d8 k 12 [(ad r3.1)]) fun r4=>aa k (d8 k 8 [(ad r2.1),(Tm.mk r4.1 r4.2.1 r4.2.2.1 [] r4.2.2.2 [])]) fun r5=>aa k (d8 k 10 [(ad r1.1)]) fun r6=>aa k (d8 k 6 [(Tm.mk r6.1 r6.2.1 r6.2.2.1 [] r6.2.2.2 []),(Tm.mk r5.1 r5.2.1 r5.2.2.1 [] r5.2.2.2 [])]) fun r7=>aa k (d8 k 9 [(ad r1.1)]) fun r8=>aa k (iF k 13 [(Cl.mk 1 0)] [(Tm.mk r7.1 r7.2.1 r7.2.2.1 [] r7.2.2.2 []),(Tm.mk r8.1 r8.2.1 r8.2.2.1 [] r8.2.2.2 []),(Tm.mk r5.1 r5.2.1 r5.2.2.1 [] r5.2.2.2 [])]) fun r9=>J (r9.1,r9.2.1,r9.2.2.1,r9.2.2.2.1,r9.2.2.2.2,r3.2)
def tK (k:Nat) (c2:Tm) (ez:Int) (cE:LC) (ct cu:Int) (cv:BA) (cx:LC) (cz:LT) (cA dj:LB) (dk c6:Int) (c7:BA) (c8:LC) (c_:LT) (da:LB) (dc de:Int) (df:BA) (dg:LC) (dh:LT) (di:LB) (J:Int×Int×BA×LC×LT×Int->OS S):OS S:=aa k (wY k (Tm.mk ct cu cv cx cz cA) (ad c2) ez cE ct cu cv cx cz cA dj dk c6 c7 c8 c_ da dc de df dg dh di) fun r1=>J (r1.1,r1.2.1,r1.2.2.1,r1.2.2.2.1,r1.2.2.2.2.1,r1.2.2.2.2.2)
def BE (k:Nat) (bS:Int) (c0_1:LC) (aG aH:Int) (aI:BA) (aJ:LC) (aK:LT) (aL dV:LB) (cL cF:Int) (cG:BA) (cH:LC) (cJ:LT) (cK:LB) (b9 b_:Int) (ca:BA) (ce:LC) (ci:LT) (cj:LB) (c3:Tm) (J:LB×Int->OS S):OS S:=ac ((c0_1.length:Int)==0) (J (([]:LB),bS)) (aa k (tK k (ad c3) bS c0_1 aG aH aI aJ aK aL dV cL cF cG cH cJ cK b9 b_ ca ce ci cj) fun r1=>aa k (eV k c0_1 [(Tm.mk r1.1 r1.2.1 r1.2.2.1 r1.2.2.2.1 r1.2.2.2.2.1 [])]) fun r2=>J ([r2],r1.2.2.2.2.2))
def F9 (k:Nat) (b:(Br Tm)) (c2:Tm) (ez:Int) (cE:LC) (ct cu:Int) (cv:BA) (cx:LC) (cz:LT) (cA dj:LB) (dk c6:Int) (c7:BA) (c8:LC) (c_:LT) (da:LB) (dc de:Int) (df:BA) (dg:LC) (dh:LT) (di:LB) (J:(Br Tm)×Int->OS S):OS S:=ag (ao b.kids 0) fun x1=>aa k (iF k 14 cE [(ad x1),(Tm.mk ct cu cv cx cz cA)]) fun r2=>aa k (wY k (Tm.mk r2.1 r2.2.1 r2.2.2.1 r2.2.2.2.1 r2.2.2.2.2 []) (ad c2) ez cE ct cu cv cx cz cA dj dk c6 c7 c8 c_ da dc de df dg dh di) fun r3=>aa k (eV k b.face [(Tm.mk r3.1 r3.2.1 r3.2.2.1 r3.2.2.2.1 r3.2.2.2.2.1 [])]) fun r4=>J (r4,r3.2.2.2.2.2)
def Ak (k:Nat) (J:LB×Int->OS S) (c2:Tm) (cE:LC) (c6:Int) (c7:BA) (c8:LC) (c_:LT) (da:LB) (dc de:Int) (df:BA) (dg:LC) (dh:LT) (ct:Int) (di:LB) (cu:Int) (cv:BA) (cx:LC) (cz:LT) (cA dj:LB) (dk:Int) (l:LB) (rec0:Int->Int->(LB)->OS S) (lb v10:Int) (out5:LB):OS S:=ac (decide ((v10:Int)<(l.length:Int))) (ag (ao l v10) fun x1=>aa k (F9 k x1 (ad c2) lb cE ct cu cv cx cz cA dj dk c6 c7 c8 c_ da dc de df dg dh di) fun r2=>ag (bQ 1099511627776 out5.length [r2.1].length) fun x3=>rec0 r2.2 (af .i64 (v10+1)) (out5++[r2.1])) (J (out5,lb))
def rW (k:Nat) (J:LB×Int->OS S) (c2:Tm) (cE:LC) (c6:Int) (c7:BA) (c8:LC) (c_:LT) (da:LB) (dc de:Int) (df:BA) (dg:LC) (dh:LT) (ct:Int) (di:LB) (cu:Int) (cv:BA) (cx:LC) (cz:LT) (cA dj:LB) (dk:Int) (l:LB):Nat->Int->Int->(LB)->OS S
 |0=>fun _ _ _=> .none
 |m+1=>fun lb v10 out5=>Ak k J c2 cE c6 c7 c8 c_ da dc de df dg dh ct di cu cv cx cz cA dj dk l (rW k J c2 cE c6 c7 c8 c_ da dc de df dg dh ct di cu cv cx cz cA dj dk l m) lb v10 out5
def JC (k:Nat) (J:LB×Int->OS S) (J0:Int->Int->(LB)->OS S) (l:LB) (c2:Tm) (ez:Int) (cE:LC) (ct cu:Int) (cv:BA) (cx:LC) (cz:LT) (cA dj:LB) (dk c6:Int) (c7:BA) (c8:LC) (c_:LT) (da:LB) (dc de:Int) (df:BA) (dg:LC) (dh:LT) (di:LB):OS S:=J0 ez 0 ([]:LB)
def BF (k:Nat) (l:LB) (c2:Tm) (ez:Int) (cE:LC) (ct cu:Int) (cv:BA) (cx:LC) (cz:LT) (cA dj:LB) (dk c6:Int) (c7:BA) (c8:LC) (c_:LT) (da:LB) (dc de:Int) (df:BA) (dg:LC) (dh:LT) (di:LB) (J:LB×Int->OS S):OS S:=JC k J (fun lb v10 out5=>rW k J c2 cE c6 c7 c8 c_ da dc de df dg dh ct di cu cv cx cz cA dj dk l k lb v10 out5) l c2 ez cE ct cu cv cx cz cA dj dk c6 c7 c8 c_ da dc de df dg dh di
def BD (k:Nat) (t a_e:Tm) (bS:Int) (c0_1:LC) (aG aH:Int) (aI:BA) (aJ:LC) (aK:LT) (aL dV:LB) (cL cF:Int) (cG:BA) (cH:LC) (cJ:LT) (cK:LB) (b9 b_:Int) (ca:BA) (ce:LC) (ci:LT) (cj:LB) (J:Int×Int×BA×LT×LB×Int->OS S):OS S:=aa k (d8 k 10 [(ad a_e)]) fun r1=>aa k (d8 k 6 [(Tm.mk r1.1 r1.2.1 r1.2.2.1 [] r1.2.2.2 []),(Tm.mk cL cF cG cH cJ cK)]) fun r2=>aa k (rG k (ad a_e)) fun r3=>aa k (BV k (ad t) (Tm.mk b9 b_ ca ce ci cj) (Tm.mk r3.1 r3.2.1 r3.2.2.1 [] r3.2.2.2 []) (Tm.mk cL cF cG cH cJ cK) bS) fun r4=>aa k (BE k r4.2 c0_1 aG aH aI aJ aK aL dV cL cF cG cH cJ cK b9 b_ ca ce ci cj (Tm.mk r2.1 r2.2.1 r2.2.2.1 [] r2.2.2.2 [])) fun r5=>aa k (BF k dV (Tm.mk r2.1 r2.2.1 r2.2.2.1 [] r2.2.2.2 []) r5.2 c0_1 aG aH aI aJ aK aL dV cL cF cG cH cJ cK b9 b_ ca ce ci cj) fun r6=>ag (bQ 1099511627776 r5.1.length r6.1.length) fun x7=>aa k (d8 k 9 [(Tm.mk r2.1 r2.2.1 r2.2.2.1 [] r2.2.2.2 [])]) fun r8=>aa k (ny k 15 (r5.1++r6.1) [(ad r4.1),(Tm.mk r8.1 r8.2.1 r8.2.2.1 [] r8.2.2.2 [])]) fun r9=>J (r9.1,r9.2.1,r9.2.2.1,r9.2.2.2.1,r9.2.2.2.2,r6.2)
def F7 (k:Nat) (b:(Br Tm)) (dJ:Int) (ba:LC) (bm bn:Int) (bo:BA) (bp:LC) (bq:LT) (bw bK:LB) (bz be:Int) (bg:BA) (bh:LC) (bj:LT) (bk:LB) (bA bB:Int) (bD:BA) (bG:LC) (bH:LT) (bJ:LB) (J:Int×Int×BA×LT×LB×Int->OS S):OS S:=ag (ao b.kids 0) fun x1=>ag (ao b.kids 1) fun x2=>aa k (BD k (ad x1) (ad x2) dJ ba bm bn bo bp bq bw bK bz be bg bh bj bk bA bB bD bG bH bJ) fun r3=>J (r3.1,r3.2.1,r3.2.2.1,r3.2.2.2.1,r3.2.2.2.2.1,r3.2.2.2.2.2)
def Ai (k:Nat) (J:LT×Int->OS S) (ba:LC) (be:Int) (bg:BA) (bh:LC) (bj:LT) (bk:LB) (bA bB:Int) (bD:BA) (bG:LC) (bH:LT) (bm:Int) (bJ:LB) (bn:Int) (bo:BA) (bp:LC) (bq:LT) (bw bK:LB) (bz:Int) (l:LB) (rec0:Int->Int->(LT)->OS S) (dl v10:Int) (out5:LT):OS S:=ac (decide ((v10:Int)<(l.length:Int))) (ag (ao l v10) fun x1=>aa k (F7 k x1 dl ba bm bn bo bp bq bw bK bz be bg bh bj bk bA bB bD bG bH bJ) fun r2=>ag (bQ 1099511627776 out5.length [(Tm.mk r2.1 r2.2.1 r2.2.2.1 [] r2.2.2.2.1 r2.2.2.2.2.1)].length) fun x3=>rec0 r2.2.2.2.2.2 (af .i64 (v10+1)) (out5++[(Tm.mk r2.1 r2.2.1 r2.2.2.1 [] r2.2.2.2.1 r2.2.2.2.2.1)])) (J (out5,dl))
def uA (k:Nat) (J:LT×Int->OS S) (ba:LC) (be:Int) (bg:BA) (bh:LC) (bj:LT) (bk:LB) (bA bB:Int) (bD:BA) (bG:LC) (bH:LT) (bm:Int) (bJ:LB) (bn:Int) (bo:BA) (bp:LC) (bq:LT) (bw bK:LB) (bz:Int) (l:LB):Nat->Int->Int->(LT)->OS S
 |0=>fun _ _ _=> .none
 |m+1=>fun dl v10 out5=>Ai k J ba be bg bh bj bk bA bB bD bG bH bm bJ bn bo bp bq bw bK bz l (uA k J ba be bg bh bj bk bA bB bD bG bH bm bJ bn bo bp bq bw bK bz l m) dl v10 out5
def JA (k:Nat) (J:LT×Int->OS S) (J0:Int->Int->(LT)->OS S) (l:LB) (dJ:Int) (ba:LC) (bm bn:Int) (bo:BA) (bp:LC) (bq:LT) (bw bK:LB) (bz be:Int) (bg:BA) (bh:LC) (bj:LT) (bk:LB) (bA bB:Int) (bD:BA) (bG:LC) (bH:LT) (bJ:LB):OS S:=J0 dJ 0 ([]:LT)
def tM (k:Nat) (l:LB) (dJ:Int) (ba:LC) (bm bn:Int) (bo:BA) (bp:LC) (bq:LT) (bw bK:LB) (bz be:Int) (bg:BA) (bh:LC) (bj:LT) (bk:LB) (bA bB:Int) (bD:BA) (bG:LC) (bH:LT) (bJ:LB) (J:LT×Int->OS S):OS S:=JA k J (fun dl v10 out5=>uA k J ba be bg bh bj bk bA bB bD bG bH bm bJ bn bo bp bq bw bK bz l k dl v10 out5) l dJ ba bm bn bo bp bq bw bK bz be bg bh bj bk bA bB bD bG bH bJ
def tI (k:Nat) (dJ:Int) (ba:LC) (bm bn:Int) (bo:BA) (bp:LC) (bq:LT) (bw bK:LB) (bz be:Int) (bg:BA) (bh:LC) (bj:LT) (bk:LB) (bA bB:Int) (bD:BA) (bG:LC) (bH:LT) (bJ:LB) (J:Tm×Int->OS S):OS S:=aa k (jC k (Tm.mk bz be bg bh bj bk) 0 1 dJ) fun r1=>J ((ad r1.1),r1.2)
def tL (k:Nat) (bS:Int) (c0_1:LC) (aG aH:Int) (aI:BA) (aJ:LC) (aK:LT) (aL dV:LB) (cL cF:Int) (cG:BA) (cH:LC) (cJ:LT) (cK:LB) (b9 b_:Int) (ca:BA) (ce:LC) (ci:LT) (cj:LB) (J:LB×Int->OS S):OS S:=ac ((c0_1.length:Int)==0) (J (([]:LB),bS)) (aa k (tI k bS c0_1 aG aH aI aJ aK aL dV cL cF cG cH cJ cK b9 b_ ca ce ci cj) fun r1=>aa k (eV k c0_1 [(ad r1.1)]) fun r2=>J ([r2],r1.2))
def Af (k:Nat) (J:Tm×Bool×Int->OS S) (r3:Tm) (r6:Int×LB×Int×Int×BA×LC×LT×LB) (x4:Tm) (r8:Tm×Int) (rec0:Int->Int->Int->BA->(LC)->(LT)->(LB)->(LB)->Int->(LT)->(LB)->OS S) (kM kN kO:Int) (kP:BA) (kQ:LC) (kR:LT) (kS parts10:LB) (v79:Int) (ws8:LT) (sys9:LB):OS S:=ac (decide ((v79:Int)<(r8.1.sys.length:Int))) (ag (ao r8.1.sys v79) fun x12=>ag (ao ws8 v79) fun x13=>ag (ao ws8 v79) fun x14=>aa k (jC k (ad x14) 0 1 kM) fun r15=>aa k (jC k (Tm.mk r6.2.2.1 r6.2.2.2.1 r6.2.2.2.2.1 r6.2.2.2.2.2.1 r6.2.2.2.2.2.2.1 r6.2.2.2.2.2.2.2) 0 1 r15.2) fun r16=>ag (ao x12.kids 1) fun x17=>aa k (jC k (ad x17) 0 1 r16.2) fun r18=>aa k (rG k (ad r18.1)) fun r19=>aa k (d8 k 9 [(ad r15.1)]) fun r20=>aa k (d8 k 6 [(Tm.mk r19.1 r19.2.1 r19.2.2.1 [] r19.2.2.2 []),(Tm.mk r20.1 r20.2.1 r20.2.2.1 [] r20.2.2.2 [])]) fun r21=>aa k (d8 k 10 [(ad r15.1)]) fun r22=>aa k (iF k 13 [(Cl.mk 1 0)] [(Tm.mk r22.1 r22.2.1 r22.2.2.1 [] r22.2.2.2 []),(ad r16.1),(Tm.mk r21.1 r21.2.1 r21.2.2.1 [] r21.2.2.2 [])]) fun r23=>aa k (eV k x12.face [(Tm.mk r23.1 r23.2.1 r23.2.2.1 r23.2.2.2.1 r23.2.2.2.2 [])]) fun r24=>ag (bQ 1099511627776 sys9.length [r24].length) fun x25=>ag (ao ws8 v79) fun x26=>ag (ao ws8 v79) fun x27=>aa k (d8 k 9 [(ad x27)]) fun r28=>aa k (eV k x12.face [(Tm.mk r28.1 r28.2.1 r28.2.2.1 [] r28.2.2.2 [])]) fun r29=>ag (bQ 1099511627776 parts10.length [r29].length) fun x30=>rec0 r18.2 kN kO kP kQ kR kS (parts10++[r29]) (af .i64 (v79+1)) ws8 (sys9++[r24])) (aa k (ny k 15 sys9 [(Tm.mk kN kO kP kQ kR kS),(Tm.mk r6.2.2.1 r6.2.2.2.1 r6.2.2.2.2.1 r6.2.2.2.2.2.1 r6.2.2.2.2.2.2.1 r6.2.2.2.2.2.2.2)]) fun r31=>aa k (ny k 17 parts10 [(Tm.mk r31.1 r31.2.1 r31.2.2.1 [] r31.2.2.2.1 r31.2.2.2.2)]) fun r32=>aa k (hY k (Tm.mk r32.1 r32.2.1 r32.2.2.1 [] r32.2.2.2.1 r32.2.2.2.2) kM) fun r33=>J ((ad r33.1),r33.2.1,r33.2.2.1))
def qj (k:Nat) (J:Tm×Bool×Int->OS S) (r3:Tm) (r6:Int×LB×Int×Int×BA×LC×LT×LB) (x4:Tm) (r8:Tm×Int):Nat->Int->Int->Int->BA->(LC)->(LT)->(LB)->(LB)->Int->(LT)->(LB)->OS S
 |0=>fun _ _ _ _ _ _ _ _ _ _ _=> .none
 |m+1=>fun kM kN kO kP kQ kR kS parts10 v79 ws8 sys9=>Af k J r3 r6 x4 r8 (qj k J r3 r6 x4 r8 m) kM kN kO kP kQ kR kS parts10 v79 ws8 sys9
def Jx (k:Nat) (J:Tm×Bool×Int->OS S) (J0:Tm->(Int×LB×Int×Int×BA×LC×LT×LB)->Tm->(Tm×Int)->Int->Int->Int->BA->(LC)->(LT)->(LB)->(LB)->Int->(LT)->(LB)->OS S) (t:Tm):OS S:=aa k (j0 k (ad t)) fun r1=>ac (!(r1==0)) (J ((Tm.mk 0 0 au [] [] []),false,r1)) (ac (!(t.kind==14)) (J ((Tm.mk 0 0 au [] [] []),false,0)) (ag (ao t.kids 0) fun x2=>ac (!(x2.kind==16)) (J ((Tm.mk 0 0 au [] [] []),false,0)) (fH k (ad t) fun r3=>ag (ao r3.kids 1) fun x4=>ag (ao r3.kids 0) fun x5=>aa k (BC k (ad x5) 0 r3.r x4.kind x4.n x4.name x4.r x4.kids x4.sys 0 0 au [] [] [] 0 0 au [] [] []) fun r6=>ag (ao r3.kids 0) fun x7=>aa k (w7 k (ad x7) r6.1) fun r8=>ac ((r8.1.kids.length:Int)==1) (ag (ao r8.1.kids 0) fun x9=>aa k (tM k r8.1.sys r8.2 r3.r x4.kind x4.n x4.name x4.r x4.kids x4.sys r6.2.1 r6.2.2.1 r6.2.2.2.1 r6.2.2.2.2.1 r6.2.2.2.2.2.1 r6.2.2.2.2.2.2.1 r6.2.2.2.2.2.2.2 x9.kind x9.n x9.name x9.r x9.kids x9.sys) fun r10=>aa k (tL k r10.2 r3.r x4.kind x4.n x4.name x4.r x4.kids x4.sys r6.2.1 r6.2.2.1 r6.2.2.2.1 r6.2.2.2.2.1 r6.2.2.2.2.2.1 r6.2.2.2.2.2.2.1 r6.2.2.2.2.2.2.2 x9.kind x9.n x9.name x9.r x9.kids x9.sys) fun r11=>J0 r3 r6 x4 r8 r11.2 x9.kind x9.n x9.name x9.r x9.kids x9.sys ([]:LB) 0 r10.1 r11.1) (aa k (tM k r8.1.sys r8.2 r3.r x4.kind x4.n x4.name x4.r x4.kids x4.sys r6.2.1 r6.2.2.1 r6.2.2.2.1 r6.2.2.2.2.1 r6.2.2.2.2.2.1 r6.2.2.2.2.2.2.1 r6.2.2.2.2.2.2.2 0 0 au [] [] []) fun r34=>aa k (tL k r34.2 r3.r x4.kind x4.n x4.name x4.r x4.kids x4.sys r6.2.1 r6.2.2.1 r6.2.2.2.1 r6.2.2.2.2.1 r6.2.2.2.2.2.1 r6.2.2.2.2.2.2.1 r6.2.2.2.2.2.2.2 0 0 au [] [] []) fun r35=>J0 r3 r6 x4 r8 r35.2 0 0 au [] [] [] ([]:LB) 0 r34.1 r35.1))))
def BB (k:Nat) (t:Tm) (J:Tm×Bool×Int->OS S):OS S:=Jx k J (fun r3 r6 x4 r8 kM kN kO kP kQ kR kS parts10 v79 ws8 sys9=>qj k J r3 r6 x4 r8 k kM kN kO kP kQ kR kS parts10 v79 ws8 sys9) t
def tU (k:Nat) (t:Tm) (J:Tm×Bool×Int->OS S):OS S:=aa k (j0 k (ad t)) fun r1=>ac (!(r1==0)) (J ((Tm.mk 0 0 au [] [] []),false,r1)) (ac (!(t.kind==14)) (J ((Tm.mk 0 0 au [] [] []),false,0)) (fH k (ad t) fun r2=>ag (ao r2.kids 1) fun x3=>ag (ao r2.kids 0) fun x4=>ac (x4.kind==3) (aa k (hY k (ad x3) 0) fun r5=>J ((ad r5.1),r5.2.1,r5.2.2.1)) (ac (x4.kind==19) (aa k (hY k (ad x3) 0) fun r6=>J ((ad r6.1),r6.2.1,r6.2.2.1)) (ac (x4.kind==4) (aa k (B6 k (ad x4) 0 r2.r x3.kind x3.n x3.name x3.r x3.kids x3.sys) fun r7=>aa k (hY k (Tm.mk r7.1 r7.2.1 r7.2.2.1 [] r7.2.2.2.1 []) r7.2.2.2.2) fun r8=>J ((ad r8.1),r8.2.1,r8.2.2.1)) (ac (x4.kind==7) (aa k (B7 k (ad x4) 0 r2.r x3.kind x3.n x3.name x3.r x3.kids x3.sys) fun r9=>aa k (hY k (Tm.mk r9.1 r9.2.1 r9.2.2.1 [] r9.2.2.2.1 []) r9.2.2.2.2) fun r10=>J ((ad r10.1),r10.2.1,r10.2.2.1)) (ac (x4.kind==11) (aa k (B5 k (ad x4) 0 r2.r x3.kind x3.n x3.name x3.r x3.kids x3.sys) fun r11=>aa k (hY k (Tm.mk r11.1 r11.2.1 r11.2.2.1 [] r11.2.2.2.1 []) r11.2.2.2.2) fun r12=>J ((ad r12.1),r12.2.1,r12.2.2.1)) (ac (x4.kind==23) (aa k (BH k (ad r2)) fun r13=>J ((ad r13.1),r13.2.1,r13.2.2)) (ac (x4.kind==16) (aa k (BB k (ad r2)) fun r14=>J ((ad r14.1),r14.2.1,r14.2.2)) (J ((Tm.mk 0 0 au [] [] []),false,0))))))))))
def Av (k:Nat) (J:Bool->OS S) (a b:LC) (rec0:Int->OS S) (i5:Int):OS S:=ac (decide ((i5:Int)<(a.length:Int))) (ag (ao a i5) fun x1=>ag (ao b i5) fun x2=>ac (!((x1.pos==x2.pos)&&((x1.neg==x2.neg)&&true))) (J false) (rec0 (af .i64 (i5+1)))) (J true)
def uE (k:Nat) (J:Bool->OS S) (a b:LC):Nat->Int->OS S
 |0=>fun _=> .none
 |m+1=>fun i5=>Av k J a b (uE k J a b m) i5
def JH (k:Nat) (J:Bool->OS S) (J0:Int->OS S) (a b:LC):OS S:=ac (!((a.length:Int)==(b.length:Int))) (J false) (J0 0)
def xa (k:Nat) (a b:LC) (J:Bool->OS S):OS S:=JH k J (fun i5=>uE k J a b k i5) a b
abbrev jR (S:Type):=Tm->Tm->(Bool->OS S)->OS S
def Ay (hd:jR S) (k:Nat) (J:Bool->OS S) (a b:LT) (rec0:Int->OS S) (i5:Int):OS S:=ac (decide ((i5:Int)<(a.length:Int))) (ag (ao a i5) fun x1=>ag (ao b i5) fun x2=>hd (ad x1) (ad x2) fun r3=>ac (!r3) (J false) (rec0 (af .i64 (i5+1)))) (J true)
def uG (hd:jR S) (k:Nat) (J:Bool->OS S) (a b:LT):Nat->Int->OS S
 |0=>fun _=> .none
 |m+1=>fun i5=>Ay hd k J a b (uG hd k J a b m) i5
def JK (hd:jR S) (k:Nat) (J:Bool->OS S) (J0:Int->OS S) (a b:LT):OS S:=ac (!((a.length:Int)==(b.length:Int))) (J false) (J0 0)
def xb (hd:jR S) (k:Nat) (a b:LT) (J:Bool->OS S):OS S:=JK hd k J (fun i5=>uG hd k J a b k i5) a b
def Ax (hd:jR S) (k:Nat) (J:Bool->OS S) (a b:Tm) (rec0:Int->OS S) (i5:Int):OS S:=ac (decide ((i5:Int)<(a.sys.length:Int))) (ag (ao a.sys i5) fun x3=>ag (ao b.sys i5) fun x4=>aa k (xa k x3.face x4.face) fun r5=>ac (!r5) (J false) (ag (ao a.sys i5) fun x6=>ag (ao b.sys i5) fun x7=>aa k (xb hd k x6.kids x7.kids) fun r8=>ac (!r8) (J false) (rec0 (af .i64 (i5+1))))) (J true)
def uF (hd:jR S) (k:Nat) (J:Bool->OS S) (a b:Tm):Nat->Int->OS S
 |0=>fun _=> .none
 |m+1=>fun i5=>Ax hd k J a b (uF hd k J a b m) i5
def JJ (hd:jR S) (k:Nat) (J:Bool->OS S) (J0:Int->OS S) (a b:Tm):OS S:=ac (!(a.kind==b.kind)) (J false) (ac (!(a.n==b.n)) (J false) (ac (!(a.name==b.name)) (J false) (aa k (xa k a.r b.r) fun r1=>ac (!r1) (J false) (aa k (xb hd k a.kids b.kids) fun r2=>ac (!r2) (J false) (ac (!((a.sys.length:Int)==(b.sys.length:Int))) (J false) (J0 0))))))
def fP:Nat->Tm->Tm->(Bool->OS S)->OS S
 |0=>fun _ _ _=> .none
 |k+1=>fun a b J=>JJ (fP k) k J (fun i5=>uF (fP k) k J a b k i5) a b
def BL (k:Nat) (J:Bool->OS S):OS S:=aa k (k_ k 3 ([]:LT)) fun r1=>aa k (k_ k 1 ([]:LT)) fun r2=>aa k (k_ k 19 ([]:LT)) fun r3=>aa k (k_ k 20 ([]:LT)) fun r4=>aa k (k_ k 14 [(Tm.mk r3.1 r3.2.1 r3.2.2.1 [] r3.2.2.2 []),(Tm.mk r4.1 r4.2.1 r4.2.2.1 [] r4.2.2.2 [])]) fun r5=>aa k (tU k (Tm.mk r5.1 r5.2.1 r5.2.2.1 [] r5.2.2.2 [])) fun r6=>aa k (k_ k 7 [(Tm.mk r1.1 r1.2.1 r1.2.2.1 [] r1.2.2.2 []),(Tm.mk r1.1 r1.2.1 r1.2.2.1 [] r1.2.2.2 [])]) fun r7=>aa k (k_ k 14 [(Tm.mk r7.1 r7.2.1 r7.2.2.1 [] r7.2.2.2 []),(Tm.mk r2.1 r2.2.1 r2.2.2.1 [] r2.2.2.2 [])]) fun r8=>aa k (tU k (Tm.mk r8.1 r8.2.1 r8.2.2.1 [] r8.2.2.2 [])) fun r9=>aa k (k_ k 9 [(Tm.mk r2.1 r2.2.1 r2.2.2.1 [] r2.2.2.2 [])]) fun r10=>aa k (k_ k 14 [(Tm.mk r1.1 r1.2.1 r1.2.2.1 [] r1.2.2.2 []),(Tm.mk r10.1 r10.2.1 r10.2.2.1 [] r10.2.2.2 [])]) fun r11=>aa k (k_ k 10 [(Tm.mk r2.1 r2.2.1 r2.2.2.1 [] r2.2.2.2 [])]) fun r12=>aa k (k_ k 14 [(Tm.mk r1.1 r1.2.1 r1.2.2.1 [] r1.2.2.2 []),(Tm.mk r12.1 r12.2.1 r12.2.2.1 [] r12.2.2.2 [])]) fun r13=>aa k (k_ k 8 [(Tm.mk r11.1 r11.2.1 r11.2.2.1 [] r11.2.2.2 []),(Tm.mk r13.1 r13.2.1 r13.2.2.1 [] r13.2.2.2 [])]) fun r14=>ac (r6.2.1) (ac (r6.2.2==0) (ac (r6.1.kind==20) (ac (r9.2.1) (ac (r9.2.2==0) (fP k (ad r9.1) (Tm.mk r14.1 r14.2.1 r14.2.2.1 [] r14.2.2.2 []) fun r15=>J r15) (J false)) (J false)) (J false)) (J false)) (J false)
abbrev Wi (S:Type):=Tm->(Tm->OS S)->OS S
abbrev Wj (S:Type):=Tm->(Int->OS S)->OS S
abbrev Wl (S:Type):=Tm->(Int->OS S)->OS S
abbrev Wh (S:Type):=Tm->Int->Int->Bool->(Bool->OS S)->OS S
abbrev Wm (S:Type):=Tm->Int->Int->Int->Int->(Tm->OS S)->OS S
abbrev Wp (S:Type):=Tm->Int->(LC)->Int->Bool->(Tm->OS S)->OS S
abbrev Wn (S:Type):=Tm->Int->(Int->OS S)->OS S
abbrev Wo (S:Type):=Tm->Int->Tm->Int->Int->(Tm->OS S)->OS S
abbrev Wg (S:Type):=Tm->(Int->OS S)->OS S
def tR (k:Nat) (t:Tm) (vars dims:Int) (J:Int->OS S):OS S:=ac (decide ((vars:Int)<0)) (J 2) (ac (decide ((dims:Int)<0)) (J 2) (ac (decide ((dims:Int)>24)) (J 2) (aa k (xl k (ad t)) fun r1=>ac (!(r1==0)) (J r1) (kh k (ad t) vars dims true fun r2=>ac (!r2) (J 100) (J 0)))))
abbrev Wf (S:Type):=Tm->(Int->OS S)->OS S
def BJ (k:Nat) (t:Tm) (J:Bool->OS S):OS S:=lZ k (ad t) 100 fun r1=>J (decide ((r1:Int)>100))
abbrev mn (S:Type):=Tm->(Int->OS S)->OS S
def Am (hd:mn S) (k:Nat) (J:Int->OS S) (t:Tm) (v37:Int) (x4:(Br Tm)) (rec1:Int->Int->OS S) (rec2:Int->Int->OS S) (sum3'' v44:Int):OS S:=ac (decide ((v44:Int)<(x4.kids.length:Int))) (ag (ao x4.kids v44) fun x5=>hd (ad x5) fun r6=>rec2 (af .i64 (sum3''+(af .i64 (1+r6)))) (af .i64 (v44+1))) (rec1 sum3'' (af .i64 (v37+1)))
def rY (hd:mn S) (k:Nat) (J:Int->OS S) (rec1:Int->Int->OS S) (t:Tm) (v37:Int) (x4:(Br Tm)):Nat->Int->Int->OS S
 |0=>fun _ _=> .none
 |m+1=>fun sum3'' v44=>Am hd k J t v37 x4 rec1 (rY hd k J rec1 t v37 x4 m) sum3'' v44
def v6 (hd:mn S) (k:Nat) (J:Int->OS S) (t:Tm) (J2:Int->(Br Tm)->Int->Int->OS S) (rec1:Int->Int->OS S) (sum3' v37:Int):OS S:=ac (decide ((v37:Int)<(t.sys.length:Int))) (ag (ao t.sys v37) fun x4=>J2 v37 x4 sum3' 0) (J sum3')
def oQ (hd:mn S) (k:Nat) (J:Int->OS S) (t:Tm):Nat->Int->Int->OS S
 |0=>fun _ _=> .none
 |m+1=>fun sum3' v37=>v6 hd k J t (fun v37 x4 sum3'' v44=>rY hd k J (oQ hd k J t m) t v37 x4 k sum3'' v44) (oQ hd k J t m) sum3' v37
def vZ (hd:mn S) (k:Nat) (J:Int->OS S) (t:Tm) (J1:Int->Int->OS S) (rec0:Int->Int->OS S) (v15 sum3:Int):OS S:=ac (decide ((v15:Int)<(t.kids.length:Int))) (ag (ao t.kids v15) fun x1=>aa k (la k t.kind v15) fun r2=>hd (ad x1) fun r3=>rec0 (af .i64 (v15+1)) (af .i64 (sum3+(af .i64 (r2.2+r3))))) (J1 sum3 0)
def uC (hd:mn S) (k:Nat) (J:Int->OS S) (t:Tm):Nat->Int->Int->OS S
 |0=>fun _ _=> .none
 |m+1=>fun v15 sum3=>vZ hd k J t (fun sum3' v37=>oQ hd k J t k sum3' v37) (uC hd k J t m) v15 sum3
def JE (hd:mn S) (k:Nat) (J:Int->OS S) (J0:Int->Int->OS S) (t:Tm):OS S:=J0 0 0
def lV:Nat->Tm->(Int->OS S)->OS S
 |0=>fun _ _=> .none
 |k+1=>fun t J=>JE (lV k) k J (fun v15 sum3=>uC (lV k) k J t k v15 sum3) t
def BI (k:Nat) (t:Tm) (vars many:Int) (J:Bool->OS S):OS S:=aa k (BL k) fun r1=>ac (!r1) (J false) (aa k (BJ k (ad t)) fun r2=>ac (r2) (J true) (ac (decide ((many:Int)>6)) (J true) (lV k (ad t) fun r3=>ac (decide ((r3:Int)>4)) (J true) (aa k (tR k (ad t) vars many) fun r4=>ac (!(r4==0)) (J true) (aa k (tU k (ad t)) fun r5=>ac (!(r5.2.2==0)) (ac (!r5.2.1) (fP k (ad r5.1) (Tm.mk 0 0 au [] [] []) fun r6=>J r6) (J false)) (ac (!r5.2.1) (ac (!r5.2.1) (fP k (ad r5.1) (Tm.mk 0 0 au [] [] []) fun r7=>J r7) (J false)) (aa k (tR k (ad r5.1) vars many) fun r8=>ac (!(r8==0)) (J false) (ac (!(t.kind==14)) (J false) (ag (ao t.kids 0) fun x9=>ac (x9.kind==4) (ac (r5.1.kind==5) (ag (ao r5.1.kids 0) fun x10=>J (x10.kind==14)) (J false)) (ac (x9.kind==7) (ac (r5.1.kind==8) (ag (ao r5.1.kids 0) fun x11=>ac (x11.kind==14) (ag (ao r5.1.kids 1) fun x12=>J (x12.kind==14)) (J false)) (J false)) (ac (x9.kind==11) (ac (r5.1.kind==12) (ag (ao r5.1.kids 0) fun x13=>J (x13.kind==15)) (J false)) (ac (x9.kind==16) (J (r5.1.kind==17)) (ac (x9.kind==3) (ag (ao t.kids 1) fun x14=>fP k (ad r5.1) (ad x14) fun r15=>J r15) (ac (x9.kind==19) (ag (ao t.kids 1) fun x16=>fP k (ad r5.1) (ad x16) fun r17=>J r17) (ag (ao t.kids 0) fun x18=>J (x18.kind==23))))))))))))))))
end
end Go.Proofs.YtgajalidbabccaaGreatDoor
