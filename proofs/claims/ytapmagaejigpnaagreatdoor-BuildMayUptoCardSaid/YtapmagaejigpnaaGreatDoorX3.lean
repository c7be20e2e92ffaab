/- Part 3 of a proof: the sources, with their names and remarks, lie in wip/. -/
import Derived.Test.YtapmagaejigpnaaGreatDoorX2
import Derived.LoopN
import Derived.Recover
import Derived.Orders
import Derived.Test.YtapmagaejigpnaaGreatDoorProg
import Derived.KernelRfl
namespace Go.Proofs.YtapmagaejigpnaaGreatDoor.PI
open Go
set_option linter.unusedVariables false
set_option linter.unusedSimpArgs false
section
variable {U:Uni} {V:Env U} {P:Program} {X:Link V P} {K:bU U} {S:Side U} {c:Ctx} {ops:Array Oper} {σ0 σ1:St U}
theorem oL {o:Oper} {y:Tmp×Nat} (h:oK V S σ0 σ1 o=some y): ∃t z,o.op= .alloc t∧o.dst=some y.1∧o.guard=none∧V.zero t=some z∧y.2=S.boxId y.1∧σ0.b y.2=none∧σ1.b y.2=none∧ ∀e∈o.after.toList,Region.binds .any e=false:=by
 unfold oK at h
 split at h
 case h_2=>cases h
 rename_i t d h1 h2 h3
 cases hb:((V.zero t).isSome&&((σ0.b (S.boxId d)).isNone&&((σ1.b (S.boxId d)).isNone&&(o.after.toList.all fun e=> !Region.binds .any e)))) with
 |false=>rw [hb] at h;cases h
 |true=>
 rw [hb] at h
 injection h with h
 subst h
 simp only [Bool.and_eq_true,Option.isNone_iff_eq_none] at hb
 obtain ⟨a,b,c,d'⟩:=hb
 obtain ⟨z,hz⟩:=Option.isSome_iff_exists.1 a
 exact ⟨t,z,h1,h2,h3,hz,rfl,b,c,fun e he=>by have:=List.all_eq_true.1 d' e he;simpa using this⟩
theorem Qa {bf:List Nat} {j:Nat}: ∀ (l:List Oper) (i:Nat) (fps:List (List Loc)) (ll:List (Nat×List Loc)),ops.toList.drop i=l→mr V S σ0 σ1 bf j i l fps=some ll→
  (∀x∈ll,i≤x.1∧x.1<ops.size∧ ∃o y,ops[x.1]? =some o∧oK V S σ0 σ1 o=some y∧x.2=gD y)∧(ll.map (·.1)).Pairwise (· < ·)∧(∀x∈ll,∀f∈fps,cW f x.2=true)∧ll.Pairwise (fun x y=>cW x.2 y.2=true)∧
  ∀k,i≤k→k<ops.size→k∉ll.map (·.1)→(bf.getD k 0).testBit j=true:=by
 intro l
 induction l with
 |nil=>
  intro i fps ll hd h
  simp only [mr] at h
  injection h with h
  subst h
  refine ⟨by simp,by simp,by simp,by simp,fun k hk hk2 _=> ?_⟩
  exfalso
  have:=congrArg List.length hd
  simp at this;omega
 |cons o l ih=>
  intro i fps ll hd h
  have hi:ops[i]? =some o:=by
   have:=congrArg (·[0]?) hd
   simpa using this
  have his:i<ops.size:=(Array.getElem?_eq_some_iff.1 hi).1
  have hd':ops.toList.drop (i+1)=l:=by rw [←List.drop_drop,hd];rfl
  simp only [mr] at h
  cases hb:(bf.getD i 0).testBit j with
  |true=>
   rw [hb] at h
   obtain ⟨a,b,c,d,e⟩:=ih (i+1) fps ll hd' h
   refine ⟨fun x hx=>by obtain ⟨p,q⟩:=a x hx;exact ⟨by omega,q⟩,b,c,d,fun k hk hk2 hkn=> ?_⟩
   by_cases hki:k=i
   ·rw [hki];exact hb
   ·exact e k (by omega) hk2 hkn
  |false=>
   rw [hb] at h
   simp only [cond_false] at h
   split at h
   case h_2=>cases h
   rename_i y hy
   cases hap:fps.all (fun f=>cW f (gD y)) with
   |false=>rw [hap] at h;cases h
   |true=>
   rw [hap] at h
   simp only [cond_true] at h
   split at h
   case h_2=>cases h
   rename_i l' hl'
   injection h with h
   subst h
   obtain ⟨a,b,c,d,e⟩:=ih (i+1) (gD y::fps) l' hd' hl'
   refine ⟨fun x hx=> ?_, ?_,fun x hx f hf=> ?_, ?_,fun k hk hk2 hkn=> ?_⟩
   ·rcases List.mem_cons.1 hx with rfl|hx
    ·exact ⟨Nat.le_refl _,his,o,y,hi,hy,rfl⟩
    ·obtain ⟨p,q⟩:=a x hx;exact ⟨by omega,q⟩
   ·simp only [List.map_cons,List.pairwise_cons]
    refine ⟨fun k hk=> ?_,b⟩
    obtain ⟨x,hx,rfl⟩:=List.mem_map.1 hk
    have:=(a x hx).1
    omega
   ·rcases List.mem_cons.1 hx with rfl|hx
    ·exact List.all_eq_true.1 hap f hf
    ·exact c x hx f (by simp [hf])
   ·simp only [List.pairwise_cons]
    exact ⟨fun x hx=>c x hx _ (by simp),d⟩
   ·simp only [List.map_cons,List.mem_cons,not_or] at hkn
    exact e k (by omega) hk2 hkn.2
theorem P_: ∀ (ll:List (Nat×List Loc)) (σ:St U),(∀x∈ll,∃o y,ops[x.1]? =some o∧oK V S σ0 σ1 o=some y∧x.2=gD y∧σ.b y.2=none)→ll.Pairwise (fun x y=>cW x.2 y.2=true)→
  ∃σe,SeqR V K S ops (ll.map fun x=>(x.1,x.2,.done)) σ σe:=by
 intro ll
 induction ll with
 |nil=>intro σ _ _;exact ⟨σ,St.eqv.refl _⟩
 |cons x ll ih=>
  intro σ h hp
  obtain ⟨o,y,ho,hy,hx,hb⟩:=h x (by simp)
  obtain ⟨t,z,h1,h2,h3,h4,h5,_⟩:=oL hy
  simp only [List.pairwise_cons] at hp
  obtain ⟨σe,he⟩:=ih ((σ.setB y.2 (.cells z)).setR y.1 (.ptr y.2 0)) (fun x' hx'=>by
   obtain ⟨o',y',a,b,c,d⟩:=h x' (by simp [hx'])
   refine ⟨o',y',a,b,c, ?_⟩
   have hne:y.2≠y'.2:=by
    intro e
    have:=hp.1 x' hx'
    rw [hx,c] at this
    simp [cW,gD,Loc.meets,e] at this
   simp [hne,d]) hp.2
  refine ⟨σe,o,_,ho, ?_,he⟩
  unfold gI
  rw [h3]
  simp only
  unfold bv
  rw [h1]
  simp only [h2,h4,←h5,M.Rel,hb]
  exact ⟨trivial,trivial,by rw [hx];rfl⟩
theorem BW {y:Tmp×Nat} (h:σ0.b y.2=none):PI.harmless σ0 (gD y)=true:=by
 simp [PI.harmless,gD,h]
theorem Sw {fs:List (List Loc)} {f:List Loc} {o:Oper} {σ σa σ' σ'':St U} {v:PV U} (ho:ops[fs.length]? =some o) (hseq:SeqRel V K S ops ((List.range' 0 fs.length).zip fs) σ σa) (hj:(gI V S o (fe ops.toList)).Rel K σa [] (.raise v) σ' f) (he:σ'.eqv σ'')
  (hf:pu V S ops.toList σ σ'' (fs++[f])=true): ∃L σe,Raises ops σ L fs.length v∧SeqR V K S ops L σ σe∧Alike σ σ'' σe∧fM 0 ops.toList=true∧fs.length∈L.map (·.1)∧L.length≤ops.size:=by
 unfold pu at hf
 simp only [Bool.and_eq_true,List.length_append,List.length_singleton,Nat.add_sub_cancel] at hf
 obtain ⟨hfor,hfree,hharm,hlate⟩:=hf
 obtain ⟨ll,hll⟩:=Option.isSome_iff_exists.1 hlate
 obtain ⟨a,b,cc,d,e⟩:=Qa (ops:=ops) _ _ _ ll rfl hll
 have hjs:fs.length<ops.size:=(Array.getElem?_eq_some_iff.1 ho).1
 obtain ⟨σe,hse⟩:=P_ (K:=K) (V:=V) (S:=S) (ops:=ops) (σ0:=σ) (σ1:=σ'') ll σ' (fun x hx=>by
  obtain ⟨_,_,o',y,h1,h2,h3⟩:=a x hx
  obtain ⟨_,_,_,_,_,_,_,_,h4,_⟩:=oL h2
  exact ⟨o',y,h1,h2,h3,(he.b _).trans h4⟩) d
 generalize hEx:(List.range' 0 fs.length).zip fs=ex at hseq
 have hex:ex.map (·.1)=List.range' 0 fs.length:=by rw [←hEx];exact List.map_fst_zip (by simp)
 have hexm: ∀x∈ex,x.1<fs.length∧fs[x.1]? =some x.2:=by
  intro x hx
  rw [←hEx] at hx
  obtain ⟨i,hi⟩:=List.mem_iff_getElem?.1 hx
  rw [List.getElem?_zip_eq_some] at hi
  obtain ⟨h1,h2⟩:=hi
  have hil:i<fs.length:=(List.getElem?_eq_some_iff.1 h2).1
  have h3:(List.range' 0 fs.length)[i]? =some i:=by simp [hil]
  rw [h3] at h1
  injection h1 with h1
  rw [←h1];exact ⟨hil,h2⟩
 let L:List (Nat×List Loc×MR U):=(ex.map fun x=>(x.1,x.2,MR.done))++((fs.length,f,MR.raise v)::ll.map fun x=>(x.1,x.2,MR.done))
 have hLm:L.map (·.1)=List.range' 0 (fs.length+1)++ll.map (·.1):=by
  simp only [L,List.map_append,List.map_map,List.map_cons]
  have:(fun x:Nat×List Loc×MR U=>x.1)∘(fun x:Nat×List Loc=>(x.1,x.2,(MR.done:MR U)))=fun x=>x.1:=rfl
  rw [this,hex,List.range'_concat]
  simp
 have hinc:(L.map (·.1)).Pairwise (· < ·):=by
  rw [hLm,List.pairwise_append]
  refine ⟨List.pairwise_lt_range',b,fun x hx y hy=> ?_⟩
  obtain ⟨z,hz,rfl⟩:=List.mem_map.1 hy
  have h1:=(a z hz).1
  have h2:x<fs.length+1:=by
   rw [List.mem_range'] at hx
   obtain ⟨i,hi,rfl⟩:=hx;omega
  omega
 have cases3: ∀x∈L,(∃y∈ex,x=(y.1,y.2,.done))∨x=(fs.length,f,.raise v)∨ ∃y∈ll,x=(y.1,y.2,.done):=by
  intro x hx
  simp only [L,List.mem_append,List.mem_map,List.mem_cons] at hx
  rcases hx with ⟨y,hy,rfl⟩|rfl|⟨y,hy,rfl⟩
  ·exact .inl ⟨y,hy,rfl⟩
  ·exact .inr (.inl rfl)
  ·exact .inr (.inr ⟨y,hy,rfl⟩)
 have hLlt: ∀x∈L,x.1<ops.size:=by
  intro x hx
  rcases cases3 x hx with ⟨y,hy,rfl⟩|rfl|⟨y,hy,rfl⟩
  ·have:=(hexm y hy).1;simp only;omega
  ·exact hjs
  ·exact (a y hy).2.1
 have hfps: ∀x∈ex,x.2∈fs++[f]:=fun x hx=>by
  have:=List.mem_of_getElem? (hexm x hx).2
  simp [this]
 refine ⟨L,σe,⟨hinc.imp Nat.ne_of_lt,hLlt, ?_, ?_, ?_, ?_, ?_, ?_⟩, ?_, ?_,hfor, ?_, ?_⟩
 ·
  simp only [L,List.pairwise_append,List.pairwise_cons]
  have fo: ∀p q g h,p<q→(fs++[f])[p]? =some g→(fs++[f])[q]? =some h→((cX ops.toList []).getD q 0).testBit p=true∨cW g h=true:=fun p q g h hpq hp hq=>
   Bh _ (fs++[f]) 0 [] rfl hfree p q g h hpq (by simpa using hp) (by simpa using hq) (by simp)
  refine ⟨?_,⟨fun y hy=> ?_, ?_⟩,fun x hx y hy=> ?_⟩
  ·have h1:ex.Pairwise fun x y=>x.1<y.1:=by
    have:(ex.map (·.1)).Pairwise (· < ·):=by rw [hex];exact List.pairwise_lt_range'
    exact List.pairwise_map.1 this
   rw [List.pairwise_map]
   refine (List.Pairwise.and_mem.1 h1).imp fun {x y} h=> ?_
   obtain ⟨hx,hy,hlt⟩:=h
   exact fo x.1 y.1 x.2 y.2 hlt (by rw [List.getElem?_append_left (hexm x hx).1];exact (hexm x hx).2) (by rw [List.getElem?_append_left (hexm y hy).1];exact (hexm y hy).2)
  ·obtain ⟨z,hz,rfl⟩:=List.mem_map.1 hy
   exact .inr (cc z hz f (by simp))
  ·rw [List.pairwise_map]
   exact d.imp fun h=> .inr h
  ·obtain ⟨x',hx',rfl⟩:=List.mem_map.1 hx
   rcases List.mem_cons.1 hy with rfl|hy
   ·exact fo x'.1 fs.length x'.2 f (hexm x' hx').1 (by rw [List.getElem?_append_left (hexm x' hx').1];exact (hexm x' hx').2) (by simp)
   ·obtain ⟨z,hz,rfl⟩:=List.mem_map.1 hy
    exact .inr (cc z hz x'.2 (hfps x' hx'))
 ·
  intro pre x post hpp o' ho' ed hed hb
  have hxL:x∈L:=by rw [hpp];simp
  have hk:x.1≤fs.length∨fs.length<x.1:=by omega
  rcases hk with hk|hk
  ·have hlt:=wi ops.toList 0 x.1 _ hfor (by simpa using ho') ed hed hb
   rw [Nat.zero_add] at hlt
   have hin:ed.on∈L.map (·.1):=by
    rw [hLm]
    refine List.mem_append.2 (.inl ?_)
    rw [List.mem_range']
    exact ⟨ed.on,by omega,by omega⟩
   rw [hpp,List.map_append,List.map_cons] at hin hinc
   rcases List.mem_append.1 hin with h|h
   ·exact h
   ·exfalso
    rw [List.pairwise_append,List.pairwise_cons] at hinc
    rcases List.mem_cons.1 h with h|h
    ·omega
    ·have:=hinc.2.1.1 ed.on h;omega
  ·exfalso
   rcases cases3 x hxL with ⟨y,hy,rfl⟩|rfl|⟨y,hy,rfl⟩
   ·have:=(hexm y hy).1;simp only at hk;omega
   ·simp at hk
   ·obtain ⟨_,_,o2,y2,h1,h2,_⟩:=a y hy
    simp only at ho'
    rw [h1] at ho'
    injection ho' with ho'
    subst ho'
    obtain ⟨_,_,_,_,_,_,_,_,_,h3⟩:=oL h2
    rw [h3 ed hed] at hb;cases hb
 ·intro x hx hne
  rcases cases3 x hx with ⟨y,hy,rfl⟩|rfl|⟨y,hy,rfl⟩
  ·rfl
  ·exact absurd rfl hne
  ·rfl
 ·intro x hx heq
  rcases cases3 x hx with ⟨y,hy,rfl⟩|rfl|⟨y,hy,rfl⟩
  ·have:=(hexm y hy).1;simp only at heq;omega
  ·rfl
  ·have:=(a y hy).1;simp only at heq;omega
 ·intro x hx hne
  rcases cases3 x hx with ⟨y,hy,rfl⟩|rfl|⟨y,hy,rfl⟩
  ·have:=Lf _ _ hharm y.1 (by omega) (by have:=(hexm y hy).1;omega)
   simp only [Bool.or_eq_true] at this
   rcases this with h|h
   ·exact .inl h
   ·refine .inr ?_
    rw [List.getD_eq_getElem?_getD,List.getElem?_append_left (hexm y hy).1,(hexm y hy).2] at h
    exact h
  ·exact absurd rfl hne
  ·obtain ⟨_,_,o2,y2,h1,h2,h3⟩:=a y hy
   obtain ⟨_,_,_,_,_,_,_,h4,_⟩:=oL h2
   refine .inr ?_
   simp only [h3]
   exact BW h4
 ·intro i hi hn
  rw [hLm,List.mem_append,not_or] at hn
  refine e i ?_ hi hn.2
  have: ¬i<fs.length+1:=fun h=>hn.1 (by rw [List.mem_range'];exact ⟨i,h,by omega⟩)
  omega
 ·exact SeqR.append (SeqR.ofSeq hseq) ⟨o,σ',ho,hj,hse⟩
 ·have hh:=SeqR.harmless (σ0:=σ) _ hse (fun x hx=>by
   obtain ⟨y,hy,rfl⟩:=List.mem_map.1 hx
   obtain ⟨_,_,o2,y2,h1,h2,h3⟩:=a y hy
   obtain ⟨_,_,_,_,_,_,_,h4,_⟩:=oL h2
   simp only [h3]
   exact BW h4)
  exact ⟨fun id hid=>(hh.b id hid).trans (he.b id),fun i=>(hh.o i).trans (he.o i),fun i=>(hh.u i).trans (he.u i)⟩
 ·rw [hLm]
  refine List.mem_append.2 (.inl ?_)
  rw [List.mem_range']
  exact ⟨fs.length,by omega,by omega⟩
 ·have h1:(L.map (·.1)).length≤(List.range ops.size).length:=by
   have hnd:(L.map (·.1)).Nodup:=hinc.imp Nat.ne_of_lt
   refine List.Nodup.length_le_of_subset hnd fun i hi=> ?_
   obtain ⟨x,hx,rfl⟩:=List.mem_map.1 hi
   exact List.mem_range.2 (hLlt x hx)
  simpa using h1
theorem SI {σ τ:St U} (ho:σ.o=τ.o) (hu:σ.u=τ.u) (t:Option (Nat×Bool)) (v:PV U) (K:Kept U):jE σ t v K=jE τ t v K:=by
 unfold jE
 rw [ho,hu]
theorem LO {σ τ:St U} (ho:σ.o=τ.o) (hu:σ.u=τ.u): ∀ (ts:List (Option (Nat×Bool))) (vs:List (PV U)) (K:Kept U),gh σ ts vs K=gh τ ts vs K:=by
 intro ts
 induction ts with
 |nil=>intro vs K;cases vs<;>rfl
 |cons t ts ih=>
  intro vs K
  cases vs with
  |nil=>rfl
  |cons v vs=>simp only [gh,SI ho hu,ih]
theorem LM {σ τ:St U} (ho:σ.o=τ.o) (hu:σ.u=τ.u): ∀ (l:List (Nat×List (Option (Nat×Bool)))) (K:Kept U),(∀x∈l,σ.b x.1=τ.b x.1)→eD σ l K=eD τ l K:=by
 intro l
 induction l with
 |nil=>intro K _;rfl
 |cons x l ih=>
  obtain ⟨n,ts⟩:=x
  intro K h
  have h1:=h (n,ts) (by simp)
  simp only at h1
  have h2: ∀K,eD σ l K=eD τ l K:=fun K=>ih K fun x hx=>h x (by simp [hx])
  simp only [eD,h1,LO ho hu,h2]
theorem QR: ∀ (l:List Nat) (n:Nat),n∈lD l→n∈l:=by
 intro l
 induction l with
 |nil=>intro n h;exact h
 |cons m l ih=>
  intro n h
  simp only [lD] at h
  cases hb:l.any (Nat.beq m) with
  |true=>rw [hb] at h;simp [ih n h]
  |false=>
   rw [hb] at h
   rcases List.mem_cons.1 h with rfl|h
   ·simp
   ·simp [ih n h]
theorem QH {α:Type}: ∀ (l:List (Nat×α)) (n:Nat),n∈l.map (·.1)→(bR l n).isSome=true:=by
 intro l
 induction l with
 |nil=>intro n h;cases h
 |cons x l ih=>
  obtain ⟨m,v⟩:=x
  intro n h
  rw [fS]
  by_cases hm:m=n
  ·rw [if_pos hm];rfl
  ·rw [if_neg hm]
   refine ih n ?_
   simp only [List.map_cons,List.mem_cons] at h
   exact h.resolve_left (Ne.symm hm)
theorem Ak {σ0 σ τ:St U} (h:Alike σ0 σ τ):dc (ga σ0 τ) τ=dc (ga σ0 σ) σ:=by
 have hkeys: ∀id∈lD (σ0.box.map (·.1)),τ.b id=σ.b id:=fun id hid=>h.b id (QH _ _ (QR _ _ hid))
 have hA:ga σ0 τ=ga σ0 σ:=by
  unfold ga
  congr 1
  exact List.map_congr_left fun id hid=>by rw [hkeys id hid]
 rw [hA]
 have hB: ∀K,eD τ (ga σ0 σ).boxes K=eD σ (ga σ0 σ).boxes K:=fun K=>LM (funext h.o) (funext h.u) _ K fun x hx=>by
  obtain ⟨id,hid,rfl⟩:=List.mem_map.1 hx
  exact hkeys id hid
 unfold dc
 simp only [ga,lh] at hB ⊢
 rw [hB]
end
end Go.Proofs.YtapmagaejigpnaaGreatDoor.PI
namespace Go.Proofs.YtapmagaejigpnaaGreatDoor.PI
open Go
set_option linter.unusedVariables false
set_option linter.unusedSimpArgs false
section
variable {U:Uni} {V:Env U} {P:Program} {X:Link V P} {K:bU U} {S:Side U} {c:Ctx} {ann:Nat→Option Ann}
theorem Lands.eqv {ds:List Deferred} {e:Ex U} {σ σ':St U} {Q:Exit→Act→World→Prop} (h:Lands X c ds e σ Q) (he:σ'.eqv σ):Lands X c ds e σ' Q:=
 fun a w g D hd hs=>h a w g D hd (hs.eqv he)
def pY (X:Link V P) (c:Ctx):Option Ann→Code→St U→Ex U→St U→Prop
 |none,code,σ,e,σ'=> ∀ (a:Act) (w:World) (g:Gh U) (D:Nat→Option Nat) (Q:Exit→Act→World→Prop),Sim X c a.tmps w σ g D→Lands X c a.defers e σ' Q→code.wp P Q a w
 |some A,code,σ,e,σ'=> ∃n,∀ (a:Act) (w:World) (g:Gh U) (D:Nat→Option Nat) (Q:Exit→Act→World→Prop),Sim X c a.tmps w σ g D→Lands X c a.defers e σ' Q→Code.rounds P code Q n a w
theorem HB {next:Act→World→Prop} {Q:Exit→Act→World→Prop} {ds:List Deferred} {e:Ex U} {σ':St U} (h:Lands X c ds e σ' Q) (he:e≠ .normal):Lands X c ds e σ' (Exit.then next Q):=by
 intro a w g D hd hs
 have:=h a w g D hd hs
 cases e with
 |normal=>exact absurd rfl he
 |exit id=>exact this
 |ret=>exact this
 |panic v=>exact this
theorem Ok {Q:Exit→Act→World→Prop} {ds:List Deferred} {e:Ex U} {σ':St U} {id:Nat} (h:Lands X c ds e σ' Q) (he:e≠ .exit id):Lands X c ds e σ' (Exit.inBlock id Q):=by
 intro a w g D hd hs
 have:=h a w g D hd hs
 cases e with
 |normal=>exact this
 |exit j=>
  have hj:j≠id:=fun h=>he (by rw [h])
  simp only [Exit.inBlock,hj,if_false]
  exact this
 |ret=>exact this
 |panic v=>exact this
theorem lf (hm:P.follows .mixedOrders=true) (hS:jS X K S c) (hnt:c.nt=S.nt) {o:Option Ann} {code:Code} {σ:St U} {e:Ex U} {σ':St U} (h:Big K V S ann o code σ e σ'):pY X c o code σ e σ':=by
 induction h with
 |skip σ=>exact fun a w g D Q hs hl=>Go.wp_skip (hl a w g D rfl hs)
 |label l σ=>exact fun a w g D Q hs hl=>wp_label (hl a w g D rfl hs)
 |region id ops draw σ e σ' fps hd h hf=>
  intro a w g D Q hs hl
  rw [←hnt] at hd
  cases draw with
  |false=>
   refine wp_region ?_
   rw [List.range_eq_range']
   have:=H6 (Q:=Q) hS ops.toList 0 a w σ g D fps (by simp) hd hs h hl
   simpa using this
  |true=>
   obtain ⟨rfl,hfor,hfree⟩:=hf rfl
   refine wp_region_any hm ?_
   obtain ⟨hlen,hseq⟩:=TS ops.toList 0 σ σ' fps (by simp) h
   have hlen':fps.length=ops.size:=by simpa using hlen
   refine UY hS hd hfor hfree hl ops.size _ ((List.range' 0 ops.toList.length).zip fps) a _ σ g D (by simp [hlen']) ⟨by simp, ?_,fun x hx=> ?_,fun k o hk=> ?_⟩ rfl hs.drew hseq
   ·have h1:((List.range' 0 ops.toList.length).zip fps).map (·.1)=List.range' 0 ops.toList.length:=List.map_fst_zip (by simp [hlen'])
    rw [h1,List.filter_eq_self.2,List.range_eq_range']
    ·simp
    ·intro i hi
     have hi':i<ops.size:=List.mem_range.1 hi
     simp [Array.getD_eq_getD_getElem?,hi']
   ·obtain ⟨i,hi⟩:=List.mem_iff_getElem?.1 hx
    rw [List.getElem?_zip_eq_some] at hi
    obtain ⟨h1,h2⟩:=hi
    have hil:i<ops.size:=by have:=(List.getElem?_eq_some_iff.1 h2).1;omega
    have h3:(List.range' 0 ops.toList.length)[i]? =some i:=by simp [hil]
    rw [h3] at h1
    injection h1 with h1
    rw [←h1];exact h2
   ·exfalso
    have:(Array.replicate ops.size false).getD k false=false:=by
     rw [Array.getD_eq_getD_getElem?,Array.getElem?_replicate]
     split<;>rfl
    dsimp only at hk
    rw [this] at hk;cases hk
 |regionP id ops σ v σ' σ'' τ fps hd h he hv hf hc=>
  intro a w g D Q hs hl
  rw [←hnt] at hd
  obtain ⟨fs,f,o,σ1,hfps,ho,hseq,hj⟩:=TT (ops:=ops) ops.toList 0 σ σ' fps v (by simp) h
  subst hfps
  rw [Nat.zero_add] at ho
  obtain ⟨L,σe,hR,hsq,hal,hfor,hjL,hlen⟩:=Sw ho hseq hj he hf
  refine wp_region_any hm ?_
  have hjs:fs.length<ops.size:=(Array.getElem?_eq_some_iff.1 ho).1
  have hrep: ∀i d,(Array.replicate ops.size false).getD i d=(if i<ops.size then false else d):=by
   intro i d
   rw [Array.getD_eq_getD_getElem?,Array.getElem?_replicate]
   split<;>rfl
  have hwp:=UZ (v:=v) hS hd hfor hR (ds:=a.defers) (Q:=Q) (fun a' w' g' D' τ' hdf hs' hal' val hval=>by
    have hc2:dc (ga σ τ') τ'=some τ:=by rw [←Ak hal',Ak hal];exact hc
    obtain ⟨g2,D2,hs2⟩:=q_ hs' hc2
    refine hl a' w' g2 D2 hdf hs2 val ?_
    cases v with
    |iface t p=>
     cases p with
     |int k n=>cases hval with
      |iface _ u _ hu=>cases hu;exact .iface _ _ _ (.int _ _)
     |_=>cases hv
    |_=>cases hv) L.length (Array.replicate ops.size false) L a _ σ g D rfl (by simp) ?_ (fun i hi _=>by rw [hrep,if_pos hi]) (by rw [hrep,if_pos hjs]) hjL (fun k o' hk=> ?_) rfl hs.drew hsq
  ·rw [show L.length+(ops.size-L.length)=ops.size by omega] at hwp
   exact hwp
  ·rw [List.filter_eq_self.2]
   intro x hx
   rw [hrep,if_pos (hR.lt x hx)];rfl
  ·exfalso
   dsimp only at hk
   rw [hrep] at hk
   split at hk<;>cases hk
 |seqN x y σ σ1 e σ' h1 h2 i1 i2=>
  intro a w g D Q hs hl
  exact wp_seq (i1 a w g D _ hs fun a' w' g' D' hd hs'=>i2 a' w' g' D' Q hs' (by rw [hd];exact hl))
 |seqJ x y A σ σ1 τ e σ' h1 hA hc h2 i1 i2=>
  intro a w g D Q hs hl
  refine wp_seq (i1 a w g D _ hs fun a' w' g' D' hd hs'=> ?_)
  obtain ⟨g2,D2,hs2⟩:=q_ hs' hc
  exact i2 a' w' g2 D2 Q hs2 (by rw [hd];exact hl)
 |seqE x y σ e σ' h1 he i1=>exact fun a w g D Q hs hl=>wp_seq (i1 a w g D _ hs (HB hl he))
 |cond j x y σ t e σ' hj h ih=>
  intro a w g D Q hs hl
  have hR:=hs.regs j
  rw [hj] at hR
  refine wp_cond (t:=t) (ir hR) ?_
  cases t with
  |true=>exact ih a w g D Q hs hl
  |false=>exact ih a w g D Q hs hl
 |blockIn id x σ σ' h ih=>
  intro a w g D Q hs hl
  refine wp_block (ih a w g D _ hs fun a' w' g' D' hd hs'=> ?_)
  simp only [Exit.inBlock,if_true]
  exact hl a' w' g' D' hd hs'
 |blockOut id x σ e σ' h he ih=>exact fun a w g D Q hs hl=>wp_block (ih a w g D _ hs (Ok hl he))
 |loop x A σ τ e σ' hA hc h ih=>
  intro a w g D Q hs hl
  obtain ⟨n,hn⟩:=ih
  obtain ⟨g',D',hs'⟩:=q_ hs hc
  exact wp_loop_rounds n (hn a w g' D' Q hs' hl)
 |exit id σ=>exact fun a w g D Q hs hl=>wp_exit (hl a w g D rfl hs)
 |ret σ=>exact fun a w g D Q hs hl=>wp_ret (hl a w g D rfl hs)
 |round x A σ σ1 τ e σ' h hc h' i1 i2=>
  obtain ⟨n,hn⟩:=i2
  refine ⟨n+1,fun a w g D Q hs hl=> ?_⟩
  rw [rounds_succ]
  refine i1 a w g D _ hs fun a' w' g' D' hd hs'=> ?_
  obtain ⟨g2,D2,hs2⟩:=q_ hs' hc
  exact hn a' w' g2 D2 Q hs2 (by rw [hd];exact hl)
 |leave x A σ e σ' h he i1=>
  refine ⟨1,fun a w g D Q hs hl=> ?_⟩
  rw [rounds_succ]
  exact i1 a w g D _ hs (HB hl he)
 |pre o x σ0 σ e σ' he h ih=>
  cases o with
  |none=>exact fun a w g D Q hs hl=>ih a w g D Q (hs.eqv he) hl
  |some A=>obtain ⟨n,hn⟩:=ih;exact ⟨n,fun a w g D Q hs hl=>hn a w g D Q (hs.eqv he) hl⟩
 |post o x σ e σ1 σ' he h ih=>
  cases o with
  |none=>exact fun a w g D Q hs hl=>ih a w g D Q hs (hl.eqv he)
  |some A=>obtain ⟨n,hn⟩:=ih;exact ⟨n,fun a w g D Q hs hl=>hn a w g D Q hs (hl.eqv he)⟩
end
end Go.Proofs.YtapmagaejigpnaaGreatDoor.PI
namespace Go.Proofs.YtapmagaejigpnaaGreatDoor.PI
open Go
set_option linter.unusedVariables false
section
variable {U:Uni} {V:Env U} {P:Program} {X:Link V P} {S:Side U} {c:Ctx}
theorem kJ (hI:iG X) (hS:S.rcv=none) (hP:PinOK S c):jS X (bS X) S c:=by
 intro o a w σ g D r τ fp gp next Q hd h hr ht
 obtain ⟨dst,op,ty,pos,after,gd⟩:=o
 cases op with
 |move x=>exact Rx hd h hr ht
 |assign x=>exact Rc hd h hr ht
 |pick x y z=>exact RA hd h hr ht
 |alloc t=>exact Ra hP hd h hr ht
 |box t x=>exact Re hP hd h hr ht
 |build t ps=>exact Rf hd h hr ht
 |buildSlice t n ps=>exact Rg hd h hr ht
 |load t x=>exact Rq hd h hr ht
 |store t x y=>exact RD h hr ht
 |nilCheck x=>exact Ry hd h hr ht
 |binOp b t x y u=>exact Rd hd h hr ht
 |unOp u t x=>exact RG hd h hr ht
 |convert s t x=>exact Rj hd h hr ht
 |makeFunc f xs ys=>cases f with
  |func f=>exact Rs hd h hr ht
  |_=>exact hr.elim
 |makeInterface t x=>exact Rt hd h hr ht
 |typeAssert x s t ok=>cases ok with
  |true=>exact RE hd h hr ht
  |false=>exact hr.elim
 |makeMap t x=>cases x with
  |none=>exact Ru hd h hr ht
  |some x=>exact hr.elim
 |lookup t m x ok=>exact Rr hd h hr ht
 |mapUpdate t m x y=>exact Rv h hr ht
 |slice t x lo hi mx=>exact RB hd h hr ht
 |fieldAddr s x f=>exact Rm hd h hr ht
 |field s x f=>exact Rl hd h hr ht
 |indexAddr t x i=>exact Rp hd h hr ht
 |index t x i=>exact Rn hd h hr ht
 |extract x i=>exact Rk hd h hr ht
 |panic x=>exact Rz h hr ht
 |call cl=>
  cases hc:cl.callee with
  |builtin b=>
   by_cases hb:b= .recover
   ·subst hb
    obtain ⟨callee,args,ats⟩:=cl
    simp only at hc
    subst hc
    simp only [bv,hS] at hr
    exact hr.elim
   ·exact Rh hc hb hd h hr ht
  |value f=>exact Ri hI hc hd h hr ht
  |invoke x n=>
   obtain ⟨callee,args,ats⟩:=cl
   simp only at hc
   subst hc
   exact hr.elim
 |_=>exact hr.elim
end
end Go.Proofs.YtapmagaejigpnaaGreatDoor.PI
namespace Go.Proofs.YtapmagaejigpnaaGreatDoor.PI
open Go
set_option linter.unusedVariables false
set_option linter.unusedSimpArgs false
section
variable {U:Uni} {V:Env U} {P:Program} {X:Link V P}
theorem T8: ∀ (args:List (PV U)) (s n:Nat),bR (pQ s args) n=if s≤n then (args[n-s]?).map (Gj n) else none:=by
 intro args
 induction args with
 |nil=>intro s n;simp [pQ,bR]
 |cons p args ih=>
  intro s n
  simp only [pQ,fS,ih]
  by_cases h:s=n
  ·subst h;simp
  ·rw [if_neg h]
   by_cases h2:s≤n
   ·rw [if_pos h2,if_pos (by omega)]
    obtain ⟨k,rfl⟩: ∃k,n=s+(k+1):=⟨n-s-1,by omega⟩
    rw [show s+(k+1)-(s+1)=k by omega,show s+(k+1)-s=k+1 by omega]
    simp
   ·rw [if_neg h2,if_neg (by omega)]
def ee (args:List (PV U)) (j:Nat):Option (Ob U):=match args[j]? with|some (.fresh e l)=>some ⟨0,e,l⟩|_=>none
theorem Gi: ∀ (args:List (PV U)) (s i:Nat),bR (fA s args) i=if 2000000+s≤i then ee args (i-2000000-s) else none:=by
 intro args
 induction args with
 |nil=>intro s i;simp [fA,bR,ee]
 |cons p args ih=>
  intro s i
  have tail:bR (fA (s+1) args) i=if 2000000+s≤i∧i≠2000000+s then ee (p::args) (i-2000000-s) else none:=by
   rw [ih]
   by_cases h:2000000+(s+1)≤i
   ·rw [if_pos h,if_pos ⟨by omega,by omega⟩]
    obtain ⟨k,rfl⟩: ∃k,i=2000000+s+(k+1):=⟨i-2000000-s-1,by omega⟩
    rw [show 2000000+s+(k+1)-2000000-(s+1)=k by omega,show 2000000+s+(k+1)-2000000-s=k+1 by omega]
    simp [ee]
   ·rw [if_neg h,if_neg (by omega)]
  have plain:p.notFresh=true→fA s (p::args)=fA (s+1) args:=by
   intro hp;cases p<;>first|rfl|cases hp
  by_cases hp:p.notFresh=true
  ·rw [plain hp,tail]
   by_cases h1:2000000+s≤i
   ·rw [if_pos h1]
    by_cases h2:i=2000000+s
    ·subst h2
     rw [if_neg (by omega)]
     have:2000000+s-2000000-s=0:=by omega
     rw [this]
     unfold ee
     simp only [List.getElem?_cons_zero]
     cases p<;>first|rfl|cases hp
    ·rw [if_pos ⟨h1,h2⟩]
   ·rw [if_neg h1,if_neg (by omega)]
  ·cases p with
   |fresh e l=>
    simp only [fA,fS,tail]
    by_cases h1:2000000+s=i
    ·subst h1
     rw [if_pos rfl,if_pos (Nat.le_refl _)]
     have:2000000+s-2000000-s=0:=by omega
     rw [this];rfl
    ·rw [if_neg h1]
     by_cases h2:2000000+s≤i
     ·rw [if_pos ⟨h2,Ne.symm h1⟩,if_pos h2]
     ·rw [if_neg (by omega),if_neg h2]
   |_=>exact absurd rfl hp
end
end Go.Proofs.YtapmagaejigpnaaGreatDoor.PI
namespace Go.Proofs.YtapmagaejigpnaaGreatDoor.PI
open Go
set_option linter.unusedVariables false
set_option linter.unusedSimpArgs false
section
variable {U:Uni} {V:Env U} {P:Program} {X:Link V P}
theorem U9 {boxes:List (Box U)}: ∀ (n s id:Nat) (bs:List (Box U)),n=bs.length→bR ((ci s n).zip bs) id=if s≤id then bs[id-s]? else none:=by
 intro n
 induction n with
 |zero=>intro s id bs h;have:bs=[]:=List.eq_nil_of_length_eq_zero h.symm;subst this;simp [ci,bR]
 |succ n ih=>
  intro s id bs h
  cases bs with
  |nil=>simp at h
  |cons b bs=>
   simp only [ci,List.zip_cons_cons,fS]
   rw [ih (s+1) id bs (by simpa using h)]
   by_cases h1:s=id
   ·subst h1;simp
   ·rw [if_neg h1]
    by_cases h2:s≤id
    ·rw [if_pos h2,if_pos (by omega)]
     obtain ⟨k,rfl⟩: ∃k,id=s+(k+1):=⟨id-s-1,by omega⟩
     rw [show s+(k+1)-(s+1)=k by omega,show s+(k+1)-s=k+1 by omega]
     simp
    ·rw [if_neg h2,if_neg (by omega)]
def dY (n:Nat) (ν:Nat→Nat) (args:List (PV U)) (vs:Array Value):Gh U:=
 ⟨fun id=>if 1000000≤id∧id-1000000<n then some (ν (id-1000000)) else none,
  fun i=>if 2000000≤i then (ee args (i-2000000)).map (fun ob=>(0,ob.e,vs.getD (i-2000000) undef)) else none⟩
def jI (args:List (PV U)) (δ:Nat→Option Nat):Nat→Option Nat:=fun i=>if 2000000≤i then (ee args (i-2000000)).bind fun _=>δ (i-2000000) else none
def eU (w:World) (N0:aw) (n m:Nat) (ν:Nat→Nat) (δ:Nat→Option Nat) (nt:Nat) (hnt:nt≤1000000) (h:Bnd w N0 n ν δ) (gl:List (Nat×Obj)) (hgl: ∀b o,(b,o)∈gl→w.heap[b]? =some o∧(∀i,i<n→ν i≠b)∧ ∀j,δ j≠some b):Ctx:=
 ⟨w,N0,kG n m ν δ,nt,fun b o hn=>⟨(h.n0 b o hn).1,fun hm=>by
  rcases List.mem_append.1 hm with hm|hm
  ·obtain ⟨k,hk,e⟩:=List.mem_map.1 hm
   exact (h.n0 b o hn).2.1 k (List.mem_range.1 hk) e
  ·obtain ⟨j,_,hj⟩:=List.mem_filterMap.1 hm
   exact (h.n0 b o hn).2.2 j hj⟩,
  fun id=>if 1000000≤id∧id-1000000<n then some (ν (id-1000000)) else none,fun id k h=>(by
  split at h
  ·rename_i h1;exact ⟨h1.1,Nat.le_trans hnt h1.1⟩
  ·cases h),
  gl,fun b o hb=>⟨(hgl b o hb).1,fun hm=>by
  rcases List.mem_append.1 hm with hm|hm
  ·obtain ⟨k,hk,e⟩:=List.mem_map.1 hm
   exact (hgl b o hb).2.1 k (List.mem_range.1 hk) e
  ·obtain ⟨j,_,hj⟩:=List.mem_filterMap.1 hm
   exact (hgl b o hb).2.2 j hj⟩⟩
structure CtxOf (c:Ctx) (w:World) (N0:aw) (n m:Nat) (ν:Nat→Nat) (δ:Nat→Option Nat):Prop where
 cw:c.w0=w
 cN:c.N0=N0
 bl:c.bl=kG n m ν δ
 fix: ∀i,i<n→c.fix (cF i)=some (ν i)
 other: ∀id k,c.fix id=some k→(∃i,i<n∧id=cF i)∨w.heap.size≤k
 bnd:Bnd w N0 n ν δ
theorem iA {w:World} {N0:aw} {n m nt:Nat} {ν:Nat→Nat} {δ:Nat→Option Nat} {hnt:nt≤1000000} {h:Bnd w N0 n ν δ} {gl:List (Nat×Obj)} {hgl: ∀b o,(b,o)∈gl→w.heap[b]? =some o∧(∀i,i<n→ν i≠b)∧ ∀j,δ j≠some b}:CtxOf (eU w N0 n m ν δ nt hnt h gl hgl) w N0 n m ν δ where
 cw:=rfl
 cN:=rfl
 bl:=rfl
 fix i hi:=by
  simp only [eU,cF]
  rw [if_pos ⟨by omega,by omega⟩,show 1000000+i-1000000=i by omega]
 other id k hk:=by
  simp only [eU] at hk
  split at hk
  ·rename_i h1;exact .inl ⟨id-1000000,h1.2,by simp [cF];omega⟩
  ·cases hk
 bnd:=h
variable {w:World} {vs:Array Value} {N0:aw} {ν:Nat→Nat} {δ:Nat→Option Nat} {args:List (PV U)} {boxes:List (Box U)}
theorem pP {i b:Nat} (h:jI args δ i=some b):2000000≤i∧δ (i-2000000)=some b∧(ee args (i-2000000)).isSome=true:=by
 unfold jI at h
 split at h
 ·rename_i hi
  cases hf:ee args (i-2000000) with
  |none=>rw [hf] at h;cases h
  |some ob=>rw [hf] at h;exact ⟨hi,h,rfl⟩
 ·cases h
theorem T9 (hg:Given X w vs N0 ν δ args boxes) (nt:Nat) (hnt:nt≤1000000): ∀b o,((eU w N0 boxes.length args.length ν δ nt hnt hg.bnd X.gblk hg.glob).N (dY boxes.length ν args vs) (jI args δ)) b o→(NB N0 boxes.length ν δ) b o:=by
 rintro b o (hn|⟨id,hid⟩|⟨i,hi⟩)
 ·exact .inl hn
 ·simp only [dY] at hid
  split at hid
  ·rename_i h1
   injection hid with hid
   exact .inr (.inl ⟨_,h1.2,hid⟩)
  ·cases hid
 ·exact .inr (.inr ⟨_,(pP hi).2.1⟩)
theorem Gk (id:Nat):(fy args boxes).b id=if 1000000≤id then (boxes.map (Box.ren false cF))[id-1000000]? else none:=by
 unfold St.b fy
 simp only
 rw [U9 (boxes:=boxes) _ _ _ _ (by simp)]
 rfl
theorem uh (hg:Given X w vs N0 ν δ args boxes) {nt:Nat} (hnt:args.length≤nt) (hnt2:nt≤1000000):
  Sim X (eU w N0 boxes.length args.length ν δ nt hnt2 hg.bnd X.gblk hg.glob) (vs++Array.replicate (nt-vs.size) undef) w (fy args boxes) (dY boxes.length ν args vs) (jI args δ):=by
 have hsub:=T9 hg nt hnt2
 have hμ: ∀i b,(gB U boxes.length ν).μ i=some b→(dY boxes.length ν args vs).μ (cF i)=some b:=by
  intro i b hb
  simp only [gB] at hb
  split at hb
  ·rename_i hi
   simp only [dY,cF]
   rw [if_pos ⟨by omega,by omega⟩,show 1000000+i-1000000=i by omega]
   exact hb
  ·cases hb
 have hvs: ∀n,n<args.length→(vs++Array.replicate (nt-vs.size) undef).getD n undef=vs.getD n undef:=by
  intro n hn
  have:n<vs.size:=by rw [hg.size];exact hn
  simp [Array.getD_eq_getD_getElem?,Array.getElem?_append,this]
 have ho: ∀i ob,(fy args boxes).o i=some ob→2000000≤i∧ee args (i-2000000)=some ob:=by
  intro i ob h
  unfold St.o fy at h
  simp only [Gi] at h
  split at h
  ·rename_i hi;exact ⟨by omega,by simpa using h⟩
  ·cases h
 have hb: ∀id b,(fy args boxes).b id=some b→1000000≤id∧ ∃b0,boxes[id-1000000]? =some b0∧b=b0.ren false cF:=by
  intro id b h
  rw [Gk] at h
  by_cases hi:1000000≤id
  ·rw [if_pos hi,List.getElem?_map,Option.map_eq_some_iff] at h
   obtain ⟨b0,h1,h2⟩:=h
   exact ⟨by omega,b0,h1,h2.symm⟩
  ·rw [if_neg hi] at h;cases h
 refine {nt:=by simp [eU,hg.size];omega,regs:=fun n=> ?_,boxes:=fun id b h=> ?_,dom:=fun id k hk=> ?_,inj:=fun id id' k h1 h2=> ?_,new:=fun id k hk=> ?_,objs:=fun i ob h=> ?_,nobj:=fun i h=> ?_,dinj:=fun i j b h1 h2=> ?_,dnew:=fun i b h=> ?_,dbox:=fun i id b h1 h2=> ?_,ext:=Ext.refl _ _,gl:=rfl,fix:=fun id k hk=> .inl hk}
 ·unfold St.r fy
  simp only [T8,Nat.zero_le,if_true,Nat.sub_zero]
  cases hp:args[n]? with
  |none=>simp only [Option.map_none];exact .undef _
  |some p=>
   simp only [Option.map_some]
   have hn:=(List.getElem?_eq_some_iff.1 hp).1
   rw [hvs n hn]
   have hr:=hg.args n p hp
   by_cases hf:p.notFresh=true
   ·have:=(hr.rep hf).ren (g':=dY boxes.length ν args vs) (N':=(eU w N0 boxes.length args.length ν δ nt hnt2 hg.bnd X.gblk hg.glob).N (dY boxes.length ν args vs) (jI args δ)) false cF (fun _ _ _ _=>rfl) (fun b o _ h=>hsub b o h) (.inr fun _=>rfl) fun i _ b hb=>hμ i b hb
    cases p<;>first|exact this|cases hf
   ·cases p with
    |fresh e l=>
     obtain ⟨A,n',cp,hval,_⟩:=(show ObOK X w _ _ e l (vs.getD n undef) .wr (δ n) from hr).val
     have hfa:ee args n=some ⟨0,e,l⟩:=by unfold ee;rw [hp]
     refine .own (2000000+n) 0 _ 0 e (vs.getD n undef) ?_ (Nat.le_refl _) (fun _=>rfl) ⟨A,n',cp,hval⟩
     simp only [dY]
     rw [if_pos (by omega),show 2000000+n-2000000=n by omega,hfa];rfl
    |_=>exact absurd rfl hf
 ·obtain ⟨h1,b0,h2,rfl⟩:=hb id b h
  have hlt:=(List.getElem?_eq_some_iff.1 h2).1
  have hμid:(dY boxes.length ν args vs).μ id=some (ν (id-1000000)):=if_pos ⟨h1,hlt⟩
  refine ⟨ν (id-1000000),hμid, ?_⟩
  exact (hg.boxes _ b0 h2).ren false cF rfl (fun _ _ _ _=>rfl) (fun b o _ h=>hsub b o h) (.inr fun _=>rfl) fun i _ b hb=>hμ i b hb
 ·simp only [dY] at hk
  split at hk
  ·rename_i h1
   obtain ⟨hx1,hx2⟩:=h1
   obtain ⟨b0,hb0⟩: ∃b0,boxes[id-1000000]? =some b0:=⟨_,List.getElem?_eq_getElem hx2⟩
   exact ⟨b0.ren false cF,by rw [Gk,if_pos hx1,List.getElem?_map,hb0];rfl⟩
  ·cases hk
 ·simp only [dY] at h1 h2
  split at h1
  ·rename_i q1
   split at h2
   ·rename_i q2
    injection h1 with h1
    injection h2 with h2
    have:=hg.bnd.inj _ _ q1.2 q2.2 (h1.trans h2.symm)
    omega
   ·cases h2
  ·cases h1
 ·simp only [dY] at hk
  split at hk
  ·rename_i h1
   injection hk with hk
   subst hk
   exact ⟨hg.bnd.lt _ h1.2,.inl (List.mem_append.2 (.inl (List.mem_map.2 ⟨_,List.mem_range.2 h1.2,rfl⟩)))⟩
  ·cases hk
 ·obtain ⟨h1,h2⟩:=ho i ob h
  have hp: ∃e l,args[i-2000000]? =some (.fresh e l)∧ob=⟨0,e,l⟩:=by
   unfold ee at h2
   split at h2
   ·rename_i e l hq
    injection h2 with h2
    exact ⟨e,l,hq,h2.symm⟩
   ·cases h2
  obtain ⟨e,l,hp,rfl⟩:=hp
  have hO:ObOK X w (NB N0 boxes.length ν δ) (gB U boxes.length ν) e l (vs.getD (i-2000000) undef) .wr (δ (i-2000000)):=hg.args _ _ hp
  refine ⟨vs.getD (i-2000000) undef,by simp only [dY];rw [if_pos h1,h2];rfl, ?_⟩
  have hu:(fy args boxes).u i= .wr:=by
   unfold St.u fy
   simp only
   have hlook: ∀ (l:List (Nat×Ob U)) (n:Nat),bR (l.map fun x=>(x.1,Use.wr)) n=(bR l n).map fun _=>Use.wr:=by
    intro l n
    induction l with
    |nil=>rfl
    |cons x l ih=>
     obtain ⟨m,y⟩:=x
     simp only [List.map_cons,fS,ih]
     split<;>rfl
   rw [hlook]
   have h':bR (fA 0 args) i=some ⟨0,e,l⟩:=h
   rw [h'];rfl
  have hD:jI args δ i=δ (i-2000000):=by simp only [jI];rw [if_pos h1,h2];rfl
  rw [hu,hD]
  exact hO.turn (fun _ _=>rfl) (fun _ _ _ _=>rfl) (fun b o _ h=>hsub b o h)
 ·have hf:2000000≤i→ee args (i-2000000)=none:=by
   intro hi
   have h':bR (fA 0 args) i=none:=h
   rw [Gi,if_pos (by omega)] at h'
   simpa using h'
  constructor
  ·simp only [dY]
   split
   ·rename_i hi;rw [hf hi];rfl
   ·rfl
  ·simp only [jI]
   split
   ·rename_i hi;rw [hf hi];rfl
   ·rfl
 ·obtain ⟨a1,a2,_⟩:=pP h1
  obtain ⟨b1,b2,_⟩:=pP h2
  have:=hg.bnd.dinj _ _ _ a2 b2
  omega
 ·obtain ⟨a1,a2,_⟩:=pP h
  exact ⟨hg.bnd.dlt _ _ a2,.inl (List.mem_append.2 (.inr (List.mem_filterMap.2 ⟨_,List.mem_range.2 (hg.dom _ _ a2),a2⟩)))⟩
 ·obtain ⟨a1,a2,_⟩:=pP h1
  simp only [dY] at h2
  split at h2
  ·rename_i q
   injection h2 with h2
   exact hg.bnd.dν _ _ a2 _ q.2 h2
  ·cases h2
end
end Go.Proofs.YtapmagaejigpnaaGreatDoor.PI
namespace Go.Proofs.YtapmagaejigpnaaGreatDoor.PI
open Go
set_option linter.unusedVariables false
set_option linter.unusedSimpArgs false
section
variable {U:Uni} {V:Env U} {P:Program} {X:Link V P} {K:bU U} {c:Ctx} {tm:Array Value} {w:World} {σ:St U} {g:Gh U} {D:Nat→Option Nat}
variable {r:MR U} {τ:St U} {gp:List Loc}
def jD (tmps:Array Value):ResultVar→Sem Value
 | .tmp t=>pure (tmps.getD t undef)
 | .cell a t=>do loadVar t (←asAddr (tmps.getD a undef))
theorem SF (fn:Func) (tmps:Array Value):results fn tmps=(do
  let vs←fn.results.mapM (jD tmps)
  pure (if h:vs.size=1 then vs[0] else .tuple vs)):=by
 unfold results jD
 rfl
theorem SE (h:Sim X c tm w σ g D): ∀ (res:List ResultVar) {k:List (PV U)→M U} {fp:List Loc},(mT V res k).Rel K σ fp r τ gp→
  ∃ps us fp',(k ps).Rel K σ fp' r τ gp∧us.length=ps.length∧(∀ (j:Nat) p,ps[j]? =some p→Rep X w (c.N g D) g (us.getD j undef) p)∧(res.mapM (jD tm)).run P w= .ok us w:=by
 intro res
 induction res with
 |nil=>intro k fp hr;exact ⟨[],[],fp,hr,rfl,by simp,by simp⟩
 |cons x res ih=>
  intro k fp hr
  have step: ∀ {p:PV U} {v:Value} {fp1:List Loc},(mT V res fun vs=>k (p::vs)).Rel K σ fp1 r τ gp→Rep X w (c.N g D) g v p→(jD tm x).run P w= .ok v w→
    ∃ps us fp',(k ps).Rel K σ fp' r τ gp∧us.length=ps.length∧(∀ (j:Nat) p,ps[j]? =some p→Rep X w (c.N g D) g (us.getD j undef) p)∧((x::res).mapM (jD tm)).run P w= .ok us w:=by
   intro p v fp1 hr1 hp hv
   obtain ⟨ps,us,fp',h1,h2,h3,h4⟩:=ih hr1
   refine ⟨p::ps,v::us,fp',h1,by simp [h2],fun j q hq=> ?_,by simp [List.mapM_cons,Sem.run_bind,hv,h4]⟩
   cases j with
   |zero=>simp at hq;subst hq;exact hp
   |succ j=>exact h3 j q (by simpa using hq)
  cases x with
  |tmp t=>exact step hr (h.regs t) (by simp [jD])
  |cell a t=>
   simp only [mT,M.Rel] at hr
   obtain ⟨x,fp',v,h1,h2,h3⟩:=B9 (a:=⟨tm,[]⟩) h (h.regs a) hr
   refine step h1 h3 ?_
   have h2':=h2
   unfold Instr.loadAt at h2'
   simp only [jD]
   cases hu:tm.getD a undef with
   |pointer q=>
    rw [hu] at h2'
    cases q with
    |none=>simp [Instr.sureAddr] at h2'
    |some q=>simpa [Instr.sureAddr,asAddr] using h2'
   |_=>rw [hu] at h2';simp [Instr.sureAddr] at h2'
theorem wl: ∀ (l:List Nat) {k:List (Nat×Box U)→M U} {fp:List Loc},(fN l k).Rel K σ fp r τ gp→ ∃bs fp',(k bs).Rel K σ fp' r τ gp∧bs.map (·.1)=l∧ ∀x∈bs,σ.b x.1=some x.2:=by
 intro l
 induction l with
 |nil=>intro k fp hr;exact ⟨[],fp,hr,rfl,by simp⟩
 |cons id l ih=>
  intro k fp hr
  simp only [fN,M.Rel] at hr
  split at hr
  ·rename_i b hb
   obtain ⟨bs,fp',h1,h2,h3⟩:=ih hr
   exact ⟨(id,b)::bs,fp',h1,by simp [h2],fun x hx=>by
    rcases List.mem_cons.1 hx with rfl|hx
    ·exact hb
    ·exact h3 x hx⟩
  ·exact hr.elim
theorem N7: ∀ (n:Nat) (todo:List Nat) (acc:List (Nat×Box U)) {k:List (Nat×Box U)→M U} {fp:List Loc},(∀x∈acc,σ.b x.1=some x.2)→(jk n todo acc k).Rel K σ fp r τ gp→
  ∃bs fp',(k (acc++bs)).Rel K σ fp' r τ gp∧ ∀x∈acc++bs,σ.b x.1=some x.2:=by
 intro n
 induction n with
 |zero=>intro todo acc k fp _ hr;exact hr.elim
 |succ n ih=>
  intro todo acc k fp hacc hr
  cases todo with
  |nil=>exact ⟨[],fp,by rw [List.append_nil];exact hr,by simpa using hacc⟩
  |cons id todo=>
   simp only [jk] at hr
   split at hr
   ·exact ih todo acc hacc hr
   ·simp only [M.Rel] at hr
    split at hr
    ·rename_i b hb
     obtain ⟨bs,fp',h1,h2⟩:=ih _ _ (fun x hx=>by
      rcases List.mem_append.1 hx with hx|hx
      ·exact hacc x hx
      ·simp at hx;subst hx;exact hb) hr
     exact ⟨(id,b)::bs,fp',by simpa using h1,by simpa using h2⟩
    ·exact hr.elim
theorem RepG.lessN {N N':aw} {v:Value} {Do:Option Nat} {p:PV U} (h:RepG X w N g v Do p) (hN: ∀b o,N' b o→N b o):RepG X w N' g v Do p:=by
 by_cases hp:p.notFresh=true
 ·have:=(h.rep hp).mono X (w':=w) (N':=N') (g':=g) (fun _ _ _ _=>rfl) (fun b o _ hn=>hN b o hn) (Gh.le.refl g)
  cases p<;>first|exact this|cases hp
 ·cases p with
  |fresh e l=>exact ObOK.mono h (fun _ _=>rfl) (fun _ _ _ _=>rfl) (fun b o _ hn=>hN b o hn) (Gh.le.refl g)
  |_=>exact absurd rfl hp
theorem Ab {w0:World} {N0:aw} {n m:Nat} {ν:Nat→Nat} {δ:Nat→Option Nat} (hc:CtxOf c w0 N0 n m ν δ) (hdom: ∀j b,δ j=some b→j<m)
  (h:Sim X c tm w σ g D) {bs:List (Nat×Box U)} {qs:List (PV U)} {vs:Array Value} {ν':Nat→Nat} {δ':Nat→Option Nat} {keep:Bool} {N1:aw}
  (hkeys: ∃more,bs.map (·.1)=ci (cF 0) n++more) (hnd:(bs.map (·.1)).Nodup) (hν: ∀ (k:Nat) id,(bs.map (·.1))[k]? =some id→g.μ id=some (ν' k))
  (hδ: ∀j b,δ' j=some b→ ∃i,D i=some b)
  (hg:Given X w vs N1 ν' δ' qs (bs.map fun b=>b.2.ren keep (bo (bs.map (·.1)))))
  (hN1:NB N1 bs.length ν' δ'=c.N g D):
  Back X w0 w N0 ν δ n m ν' δ' (bs.map fun b=>b.2.ren keep (bo (bs.map (·.1))))∧ ∀b o,(NB N0 bs.length ν' δ') b o→(NB N1 bs.length ν' δ') b o:=by
 obtain ⟨more,hmore⟩:=hkeys
 obtain ⟨c0,cN,cbl,cfix,cother,hb0⟩:=hc
 have hlen:bs.length=n+more.length:=by have:=congrArg List.length hmore;simpa [th] using this
 have hext: ∀i,i<n→(bs.map (·.1))[i]? =some (cF i):=by
  intro i hi
  rw [hmore,List.getElem?_append_left (by rw [th];exact hi),Dc _ _ _ hi]
  simp [cF]
 have hold: ∀i,i<n→ν' i=ν i:=by
  intro i hi
  have h1:=hν i _ (hext i hi)
  rcases h.fix _ _ h1 with h2|⟨h2,_⟩
  ·rw [cfix i hi] at h2;injection h2 with h2;exact h2.symm
  ·rw [cfix i hi] at h2;cases h2
 have hμν: ∀i,i<n→g.μ (cF i)=some (ν i):=fun i hi=>by rw [←hold i hi];exact hν i _ (hext i hi)
 have hget: ∀k,k<bs.length→ ∃id,(bs.map (·.1))[k]? =some id∧g.μ id=some (ν' k):=fun k hk=>⟨_,List.getElem?_eq_getElem (by simpa using hk),hν k _ (List.getElem?_eq_getElem (by simpa using hk))⟩
 have hsub: ∀b o,(NB N0 bs.length ν' δ') b o→(NB N1 bs.length ν' δ') b o:=by
  intro b o hn
  rw [hN1]
  rcases hn with hn|⟨k,hk,rfl⟩|⟨j,hj⟩
  ·exact .inl (by rw [cN];exact hn)
  ·obtain ⟨id,_,hid⟩:=hget k hk
   exact .inr (.inl ⟨id,hid⟩)
  ·obtain ⟨i,hi⟩:=hδ j b hj
   exact .inr (.inr ⟨i,hi⟩)
 have hnew: ∀i,n≤i→i<bs.length→w0.heap.size≤ν' i:=by
  intro i hi hlt
  obtain ⟨id,h1,h2⟩:=hget i hlt
  rcases h.fix _ _ h2 with h3|⟨_,h3⟩
  ·rcases cother _ _ h3 with ⟨j,hj,e⟩|h4
   ·exfalso
    subst e
    have h7:=hext j hj
    have:=(List.getElem?_inj (by simpa using hlt) hnd).1 (h1.trans h7.symm)
    omega
   ·exact h4
  ·rw [c0] at h3;exact h3
 have hdnew: ∀j b,δ' j=some b→w0.heap.size≤b∨ ∃i,δ i=some b:=by
  intro j b hj
  obtain ⟨i,hi⟩:=hδ j b hj
  rcases (h.dnew i b hi).2 with h1|h1
  ·rw [cbl] at h1
   rcases List.mem_append.1 h1 with h1|h1
   ·obtain ⟨k,hk,e⟩:=List.mem_map.1 h1
    rw [List.mem_range] at hk
    subst e
    exact absurd (hμν k hk) (h.dbox i _ _ hi)
   ·obtain ⟨k,_,hk⟩:=List.mem_filterMap.1 h1
    exact .inr ⟨k,hk⟩
  ·rw [c0] at h1;exact .inl h1
 have hl:(bs.map fun b=>b.2.ren keep (bo (bs.map (·.1)))).length=bs.length:=by simp
 have hgb:=hg.bnd
 rw [hl] at hgb
 have hex:Ext (kG n m ν δ) w0 w:=by have:=h.ext;rwa [c0,cbl] at this
 refine ⟨⟨hex,by rw [hl];omega,hold,by rw [hl];exact hnew,hdnew, ?_,fun k b hb=> ?_⟩,hsub⟩
 ·rw [hl]
  refine ⟨hgb.inj,hgb.lt,hgb.dlt,hgb.dinj,hgb.dν,fun b o hn=>⟨Nat.lt_of_lt_of_le (hb0.n0 b o hn).1 hex.size,fun i hi e=> ?_,fun j hj=> ?_⟩⟩
  ·by_cases hin:i<n
   ·exact (hb0.n0 b o hn).2.1 i hin (by rw [←hold i hin];exact e)
   ·have:=hnew i (by omega) hi
    have:=(hb0.n0 b o hn).1
    omega
  ·rcases hdnew j b hj with h1|⟨i,h1⟩
   ·have:=(hb0.n0 b o hn).1;omega
   ·exact (hb0.n0 b o hn).2.2 i h1
 ·have:=hg.boxes k b hb
  rw [hl] at this ⊢
  exact this.mono rfl (fun _ _ _ _=>rfl) (fun b o _ hn=>hsub b o hn) (Gh.le.refl _)
end
end Go.Proofs.YtapmagaejigpnaaGreatDoor.PI
namespace Go.Proofs.YtapmagaejigpnaaGreatDoor.PI
open Go
set_option linter.unusedVariables false
set_option linter.unusedSimpArgs false
section
variable {U:Uni} {V:Env U} {P:Program} {X:Link V P}
theorem RepG.ofAny {w:World} {N:aw} {g:Gh U} {v:Value} {Do:Option Nat} {p:PV U} (h:Rep X w N g v p):RepG X w N g v Do p:=by
 cases p<;>first|exact h|cases h
theorem RepR.ofG {w:World} {N:aw} {g:Gh U} {v:Value} {δ:Nat→Option Nat} {p:PV U} (h:RepG X w N g v (δ 0) p):RepR X w N g v δ p:=by
 cases p with
 |tuple ps=>
  cases (show Rep X w N g v (.tuple ps) from h) with
  |tuple vs _ hl hh=>exact ⟨vs,rfl,hl,fun j p hp=> .ofAny (hh j p hp)⟩
 |_=>exact h
theorem SG {fn:Func} {tmps:Array Value} {us:List Value} {w:World} (h:(fn.results.toList.mapM (jD tmps)).run P w= .ok us w):
  (results fn tmps).run P w= .ok (if h:us.toArray.size=1 then us.toArray[0] else .tuple us.toArray) w:=by
 rw [SF,Array.mapM_eq_mapM_toList]
 simp [Sem.run_bind,h]
variable {w0:World} {N0:aw} {n m:Nat} {ν:Nat→Nat} {δ:Nat→Option Nat} {K:bU U} {c:Ctx}
theorem mU {fn:Func} {tm:Array Value} {w:World} {σ:St U} {g:Gh U} {D:Nat→Option Nat} (hc:CtxOf c w0 N0 n m ν δ) (hdom: ∀j b,δ j=some b→j<m) (h:Sim X c tm w σ g D)
  {keep:Bool} {hand:List Bool} {out:Out U} {τ:St U} {fp gp:List Loc} (hr:(gL V keep hand fn.results.toList n).Rel K σ fp (.out out) τ gp):
  ∃v,(results fn tm).run P w= .ok v w∧dz X w0 N0 ν δ n m out (.returned v) w:=by
 unfold gL at hr
 obtain ⟨ps,us,fp1,hr1,hl1,hp1,hrun⟩:=SE h _ hr
 obtain ⟨q1,σ1,D1,fp2,hr2,hF1,hl2,hq1⟩:=Bj hand ps h (fun j=>us.getD j undef) hp1 hr1
 obtain ⟨bs0,fp3,hr3,hk0,hb0'⟩:=wl _ hr2
 obtain ⟨bs1,fp4,hr4,hb1⟩:=N7 100 _ bs0 hb0' hr3
 obtain ⟨bs2,σ2,D2,fp5,hr5,hF2,hkeys,hb2⟩:=wk _ hF1.sim (fun x hx=>hF1.sim.boxes x.1 x.2 (hb1 x hx)) hr4
 have h2:=hF2.sim
 obtain ⟨qs,σ3,fp6,G,δ',hr6,hl6,hSp,_,hδ,hδi,hqs⟩:=Bn h2 hand q1 (fun j=>us.getD j undef) (.refl σ2) (fun j p hp=>hF2.rep (hq1 j p hp)) hr5
 cases hh:hX qs bs2 with
 |false=>rw [hh] at hr6;exact hr6.elim
 |true=>
 rw [hh] at hr6
 obtain ⟨e1,_,_⟩:=hr6
 injection e1 with e1
 subst e1
 obtain ⟨ν',hν⟩:=Db hb2
 have hgd: ∀j,us.toArray.getD j undef=us.getD j undef:=fun j=>lP j (by simp)
 obtain ⟨hNB,hg⟩:=wm h2 keep (vs:=us.toArray) (by simp;omega) hb2 hh (fun j b hj=>by rw [hl6];exact hδ j b hj) hδi (fun j q hq=>by rw [hgd];exact hqs j q hq) hν
 have hnd:=(sO hh).2.2.1
 obtain ⟨hback,hsub⟩:=Ab hc hdom h2 ⟨bs1.map (·.1),by rw [hkeys,List.map_append,hk0]⟩ hnd hν (fun j b hj=>by obtain ⟨_,i,_,hi⟩:=hδ j b hj;exact ⟨i,hi⟩) hg hNB
 suffices hR:RepR X w (NB N0 bs2.length ν' δ') (gB U bs2.length ν') (if h:us.toArray.size=1 then us.toArray[0] else .tuple us.toArray) δ' (jA (PV.renL keep (bo (bs2.map (·.1))) qs)) by
  have hrr:=SG hrun
  generalize (if h:us.toArray.size=1 then us.toArray[0] else .tuple us.toArray)=v at hR hrr
  have hbl:(bs2.map fun b=>b.2.ren keep (bo (bs2.map (·.1)))).length=bs2.length:=by simp
  have hret:dz X w0 N0 ν δ n m (.ret (jA (PV.renL keep (bo (bs2.map (·.1))) qs)) (bs2.map fun b=>b.2.ren keep (bo (bs2.map (·.1))))) (.returned v) w:=by
   simp only [dz]
   refine ⟨ν',δ',hback, ?_⟩
   rw [hbl];exact hR
  exact ⟨v,hrr,hret⟩
 have hbl:(bs2.map fun b=>b.2.ren keep (bo (bs2.map (·.1)))).length=bs2.length:=by simp
 have hargs: ∀ (j:Nat) p,(PV.renL keep (bo (bs2.map (·.1))) qs)[j]? =some p→RepG X w (NB N0 bs2.length ν' δ') (gB U bs2.length ν') (us.toArray.getD j undef) (δ' j) p:=fun j p hp=>by
  have:=hg.args j p hp
  rw [hbl] at this
  exact this.lessN hsub
 have hlr:(PV.renL keep (bo (bs2.map (·.1))) qs).length=us.length:=by rw [fZ];simp;omega
 generalize PV.renL keep (bo (bs2.map (·.1))) qs=rs at hargs hlr
 by_cases h1:us.toArray.size=1
 ·rw [dif_pos h1]
  have hu1:us.length=1:=by simpa using h1
  obtain ⟨p,rfl⟩: ∃p,rs=[p]:=by
   match rs,hlr with
   |[p],_=>exact ⟨p,rfl⟩
   |[],h=>simp at h;omega
   |_::_::_,h=>simp at h;omega
  have:=hargs 0 p rfl
  have hu:us.toArray.getD 0 undef=us.toArray[0]:=by simp [Array.getD,h1]
  rw [hu] at this
  exact .ofG this
 ·rw [dif_neg h1]
  have hone:jA rs= .tuple rs:=by
   match rs,hlr with
   |[],_=>rfl
   |[p],h=>simp at h h1;omega
   |_::_::_,_=>rfl
  rw [hone]
  exact ⟨us.toArray,rfl,by simpa using hlr.symm,hargs⟩
theorem xq {tm:Array Value} {w:World} {σ:St U} {g:Gh U} {D:Nat→Option Nat} (hc:CtxOf c w0 N0 n m ν δ) (hdom: ∀j b,δ j=some b→j<m) (h:Sim X c tm w σ g D)
  {v:PV U} {val:Value} (hv:Rep X w (c.N g D) g val v) {out:Out U} {τ:St U} {fp gp:List Loc} (hr:(xo v n).Rel K σ fp (.out out) τ gp):
  dz X w0 N0 ν δ n m out (.panicked [{v:=val,recovered:=false}]) w:=by
 unfold xo at hr
 obtain ⟨bs0,fp3,hr3,hk0,hb0'⟩:=wl _ hr
 obtain ⟨bs2,σ2,D2,fp5,hr5,hF2,hkeys,hb2⟩:=wk _ h (fun x hx=>h.boxes x.1 x.2 (hb0' x hx)) hr3
 obtain ⟨q,σ3,D3,fp6,hr6,hF3,hq,_⟩:=kg v hF2.sim (hF2.rep hv) hr5
 cases hh:hX [q] bs2 with
 |false=>simp only [hh] at hr6;exact hr6.elim
 |true=>
 simp only [hh] at hr6
 obtain ⟨e1,_,_⟩:=hr6
 injection e1 with e1
 subst e1
 have hb3: ∀x∈bs2,nc X w (c.N g D3) g x:=fun x hx=>by
  obtain ⟨k,hk,hbx⟩:=hb2 x hx
  exact ⟨k,hk,hbx.mono rfl (fun _ _ _ _=>rfl) (fun b o _ hn=>by
   rcases hn with hn|hn|⟨i,hi⟩
   ·exact .inl hn
   ·exact .inr (.inl hn)
   ·exact .inr (.inr ⟨i,hF3.D i b hi⟩)) (Gh.le.refl g)⟩
 have hkk:bs2.map (·.1)=ci (cF 0) n:=hkeys.trans hk0
 have hlen:bs2.length=n:=by have:=congrArg List.length hkk;simpa [th] using this
 have hν: ∀ (k:Nat) id,(bs2.map (·.1))[k]? =some id→g.μ id=some (ν k):=by
  intro k id hid
  obtain ⟨x,hx,rfl⟩:=List.mem_map.1 (List.mem_of_getElem? hid)
  obtain ⟨kb,hk,_⟩:=hb3 x hx
  have hkn:k<n:=by have:=(List.getElem?_eq_some_iff.1 hid).1;simp at this;omega
  rw [hkk,Dc _ _ _ hkn] at hid
  injection hid with hid
  have hfix:c.fix x.1=some (ν k):=by
   rw [←hid,←hc.fix k hkn]
   simp [cF]
  rcases h.fix _ _ hk with h2|⟨h2,_⟩
  ·rw [hfix] at h2;rw [hk,←h2]
  ·rw [hfix] at h2;cases h2
 obtain ⟨hNB,hg⟩:=wm (G:=[]) (δ:=fun _=>none) hF3.sim false (vs:= #[val]) (by simp) hb3 hh (by simp) (by simp) (fun j q' hq'=>by
  cases j with
  |zero=>simp at hq';subst hq';exact .of hq
  |succ j=>simp at hq') hν
 obtain ⟨hback,hsub⟩:=Ab hc hdom hF3.sim ⟨[],by rw [hkk];simp⟩ (sO hh).2.2.1 hν (by simp) hg hNB
 refine ⟨by simp [hlen],val,rfl,hback, ?_⟩
 have hbl:(bs2.map fun b=>b.2.ren false (bo (bs2.map (·.1)))).length=bs2.length:=by simp
 have:=hg.args 0 _ rfl
 rw [hbl] at this
 have:=this.lessN hsub
 rw [hlen] at this
 have hf:(q.ren false (bo (bs2.map (·.1)))).notFresh=true:=by
  rw [tV]
  cases q<;>first|rfl|cases hq
 exact this.rep hf
theorem Fe (hm:P.follows .mixedOrders=true) (hI:iG X) {S:Side U} (hS:S.rcv=none) (hpin:S.pin=fun _=>false) {R:Type} {C:Oracle U R} (hC:C.Tells (bS X)) {f:FuncId} {fn:Func} (hf:P.funcs[f]? =some fn)
  (hname:(fn.name== "runtime.NumGoroutine")=false) (hbody:fn.body.isNone=false) (hnt:fn.ntmps=S.nt) (hlow:S.nt≤1000000) {args:List (PV U)} {boxes:List (Box U)} (hargs:args.length≤S.nt)
  {ann:Nat→Option Ann} {fuel:Nat} {keep:Bool} {hand:List Bool} {κ:Out U→Option R} {x:R} (h:mX V S C ann fuel keep hand fn args boxes κ=some x): ∃out,κ out=some x∧bS X f args boxes out:=by
 obtain ⟨code,hcode⟩: ∃code,fn.body=some code:=by
  cases hb:fn.body with
  |none=>rw [hb] at hbody;cases hbody
  |some code=>exact ⟨code,rfl⟩
 unfold mX e9 at h
 rw [hcode] at h
 obtain ⟨e,τ,hbig,hk⟩:=tX (bS X) V S ann hC fuel code h
 have key: ∀ {M:M U} {out:Out U} {τ0:St U} {gp:List Loc},M.Rel (bS X) τ [] (.out out) τ0 gp→(∀ (w:World) (vs:Array Value) (N0:aw) (ν:Nat→Nat) (δ:Nat→Option Nat) (hg:Given X w vs N0 ν δ args boxes),
   Lands X (eU w N0 boxes.length args.length ν δ S.nt hlow hg.bnd X.gblk hg.glob) [] e τ (bodyPost P fn (dz X w N0 ν δ boxes.length args.length out)))→bS X f args boxes out:=by
  intro M out τ0 gp _ hl
  refine ⟨⟨fn,hf,hname,hbody⟩,fun w vs N0 ν δ hg=> ?_⟩
  refine calls_of_wp hf hcode ?_
  have hs:=uh hg hargs hlow
  rw [hnt]
  exact lf hm (kJ hI hS fun d hd=>by rw [hpin] at hd;cases hd) rfl hbig _ w _ _ _ hs (hl w vs N0 ν δ hg)
 cases e with
 |exit id=>cases hk
 |normal=>
  obtain ⟨r,τ0,τ1,gp,hr,ht,hfin⟩:=e_ hC _ hk (St.eqv.refl τ)
  cases r with
  |out o=>
   refine ⟨o,hfin,key hr fun w vs N0 ν δ hg a' w' g' D' hd hs=> ?_⟩
   obtain ⟨v,h1,h2⟩:=mU iA hg.dom hs hr
   exact ⟨hd,v,h1,h2⟩
  |_=>cases hfin
 |ret=>
  obtain ⟨r,τ0,τ1,gp,hr,ht,hfin⟩:=e_ hC _ hk (St.eqv.refl τ)
  cases r with
  |out o=>
   refine ⟨o,hfin,key hr fun w vs N0 ν δ hg a' w' g' D' hd hs=> ?_⟩
   obtain ⟨v,h1,h2⟩:=mU iA hg.dom hs hr
   exact ⟨hd,v,h1,h2⟩
  |_=>cases hfin
 |panic v=>
  obtain ⟨r,τ0,τ1,gp,hr,ht,hfin⟩:=e_ hC _ hk (St.eqv.refl τ)
  cases r with
  |out o=>
   refine ⟨o,hfin,key hr fun w vs N0 ν δ hg a' w' g' D' hd hs val hval=> ?_⟩
   exact ⟨hd,xq iA hg.dom hs hval hr⟩
  |_=>cases hfin
end
end Go.Proofs.YtapmagaejigpnaaGreatDoor.PI
namespace Go.Proofs.YtapmagaejigpnaaGreatDoor.PI
open Go
section
variable {U:Uni} {R:Type} (V:Env U) (S:Side U) (C:Oracle U R) (ann:Nat→Option Ann) (fuel:Nat)
def E1 (o:Oper):Option Tmp:=
 match o.dst,o.op,o.guard with
 |some d,.call c,.none=>match c.callee with
  | .builtin .recover=>some d
  |_=> .none
 |_,_,_=> .none
def Fg (v:PV U):Code→St U→(Ex U→St U→Option R)→Option R
 | .seq (.region _ ops draw) b,σ,κ=>match ops.toList with
  |o::more=>match E1 o with
   |some d=>bif !draw&&(Nat.blt d S.nt&&more.all (a8 S.nt)) then mY V S C ops.toList more [] (σ.setR d v) fun
     | .normal,σ',_=>run V S C ann fuel b σ' κ
     |_,_,_=> .none
    else .none
   | .none=> .none
  |[]=> .none
 |_,_,_=> .none
def yi (keep:Bool) (hand:List Bool) (fn:Func) (v:PV U) (args:List (PV U)) (boxes:List (Box U)) (κ:Out U→Option R):Option R:=
 Fg V S C ann fuel v (e9 fn) (fy args boxes) (kF V C keep hand fn boxes.length κ)
def vV:List Oper→Option (Oper×Tmp)
 |[o,q]=>match o.dst,o.guard,q.dst,q.op,q.guard with
  |some m,.none,.none,.defer c,.none=>match c.callee with
   | .value (.tmp n)=>bif Nat.beq m n&&c.args.isEmpty then some (o,n) else .none
   |_=> .none
  |_,_,_,_,_=> .none
 |_=> .none
def PV.pinned:PV U→Bool
 | .ptr id _=>Nat.ble 1000000 id
 |_=>false
def kS:Code→St U→(Ex U→St U→Option R)→(FuncId→List (PV U)→Ex U→St U→Option R)→Option R
 | .seq a b,σ,κ0,κ1=>match a with
  | .region id ops draw=>match vV ops.toList with
   |some (o,n)=>bif !draw&&a8 S.nt o then (bv V S o).cps C σ [] fun
     | .done,σ',_=>match σ'.r n with
      | .func h [] caps=>bif caps.all PV.pinned then run V {S with pin:=fun _=>false} C ann fuel b σ' (κ1 h caps) else .none
      |_=> .none
     |_,_,_=> .none
    else .none
   | .none=>run V S C ann fuel (.region id ops draw) σ fun
    | .normal,σ'=>kS b σ' κ0 κ1
    |e,σ'=>κ0 e σ'
  |a=>run V S C ann fuel a σ fun
   | .normal,σ'=>kS b σ' κ0 κ1
   |e,σ'=>κ0 e σ'
 |_,_,_,_=> .none
def kD (Cd:PV U→Oracle U R) (keep:Bool) (hand:List Bool) (fn:Func) (nb:Nat) (κ:Out U→Option R) (h:FuncId) (caps:List (PV U)):Ex U→St U→Option R
 | .normal,σ=>(fN (PV.idsL caps) fun _=>gg [] .none (.func h [] caps) []).cps (Cd .nilIface) σ [] fun
  | .done,σ',_=>(gL V keep hand fn.results.toList nb).cps C σ' [] (fin κ)
  |_,_,_=> .none
 | .ret,σ=>(fN (PV.idsL caps) fun _=>gg [] .none (.func h [] caps) []).cps (Cd .nilIface) σ [] fun
  | .done,σ',_=>(gL V keep hand fn.results.toList nb).cps C σ' [] (fin κ)
  |_,_,_=> .none
 | .panic v,σ=>match v with
  | .iface t (.int k n)=>(fN (PV.idsL caps) fun _=>gg [] .none (.func h [] caps) []).cps (Cd (.iface t (.int k n))) σ [] fun
   | .done,σ',_=>(gL V keep hand fn.results.toList nb).cps C σ' [] (fin κ)
   |_,_,_=> .none
  |_=> .none
 | .exit _,_=> .none
def BV:Code→List Bool→List (St U→Option R)→(Nat→Option Ann)→(Ex U→St U→Option R)→(FuncId→List (PV U)→Ex U→St U→Option R)→Ex U→St U→Option R
 | .seq a b,false::p,rs,an,κ0,κ1=>jl V S C ann fuel a p rs an fun
  | .normal,σ'=>kS V S C ann fuel b σ' κ0 κ1
  |e,σ'=>κ0 e σ'
 | .seq _ b,true::p,rs,an,κ0,κ1=>BV b p rs an κ0 κ1
 |_,_,_,_,κ0,_=>κ0
def yh (Cd:PV U→Oracle U R) (keep:Bool) (hand:List Bool) (fn:Func) (args:List (PV U)) (boxes:List (Box U)) (κ:Out U→Option R):Option R:=
 kS V S C ann fuel (e9 fn) (fy args boxes) (kF V C keep hand fn boxes.length κ) (kD V C Cd keep hand fn boxes.length κ)
end
end Go.Proofs.YtapmagaejigpnaaGreatDoor.PI
namespace Go.Proofs.YtapmagaejigpnaaGreatDoor.PI
open Go
set_option linter.unusedVariables false
set_option linter.unusedSimpArgs false
section
variable {U:Uni} {V:Env U} {P:Program} {X:Link V P}
inductive RcvOK:PV U→FrameMode→FrameMode→Prop
 |nil:RcvOK .nilIface .returning .returning
 |err (t:TypeId) (k:IntKind) (n:Int):RcvOK (.iface t (.int k n)) (.panicking [{v:= .iface t (.int k n),recovered:=false}]) (.panicking [{v:= .iface t (.int k n),recovered:=true}])
def iF (P:Program) (u u':FrameMode):FuncId→Array Value→World→(Ending→World→Prop)→Prop:=fun f vs w R=>CallsD P f vs u w fun e u2 w'=>u2=u'∧R e w'
theorem U0 {ops:Array Oper} {cs:List Frame} {Q:Exit→Act→List Frame→World→Prop} (hQ: ¬LetsOut (fun e a' w'=>Q e a' cs w')): ∀ (l:List Nat) (a:Act) (w:World),wpOps P ops (fun e a' w'=>Q e a' cs w') l a w→wpOpsS P ops Q l a cs w:=by
 intro l
 induction l with
 |nil=>intro a w h;exact h
 |cons i l ih=>
  intro a w h
  simp only [wpOps,wpOpsS] at h ⊢
  cases ho:ops[i]? with
  |none=>rw [ho] at h;exact ih _ _ h
  |some o=>
   rw [ho] at h
   simp only at h ⊢
   split
   ·rename_i hw
    rw [if_pos hw] at h
    have h:=h.resolve_right fun h=>hQ h.2
    have h:=Oper.wp_mono ih h
    unfold Oper.wp at h
    split
    ·rename_i w' hrun
     rw [hrun] at h
     exact h.elim
    ·exact h
   ·rename_i hw
    rw [if_neg hw] at h
    exact ih _ _ h
theorem SQ (hm:P.follows .mixedOrders=true) (hI:iG X) {S:Side U} (hS:S.rcv=none) (hpin:S.pin=fun _=>false) {R:Type} {C:Oracle U R} (hC:C.Tells (bS X)) {f:FuncId} {fn:Func} (hf:P.funcs[f]? =some fn)
  (hname:(fn.name== "runtime.NumGoroutine")=false) (hbody:fn.body.isNone=false) (hnt:fn.ntmps=S.nt) (hlow:S.nt≤1000000) {v:PV U} {u u':FrameMode} (hv:RcvOK v u u') {args:List (PV U)} {boxes:List (Box U)} (hargs:args.length≤S.nt)
  {ann:Nat→Option Ann} {fuel:Nat} {keep:Bool} {hand:List Bool} {κ:Out U→Option R} {x:R} (h:yi V S C ann fuel keep hand fn v args boxes κ=some x): ∃out,κ out=some x∧gT X (iF P u u') f args boxes out:=by
 obtain ⟨code,hcode⟩: ∃code,fn.body=some code:=by
  cases hb:fn.body with
  |none=>rw [hb] at hbody;cases hbody
  |some code=>exact ⟨code,rfl⟩
 unfold yi e9 at h
 rw [hcode] at h
 simp only at h
 unfold Fg at h
 split at h
 case h_2=>cases h
 rename_i id ops draw b
 split at h
 case h_2=>cases h
 rename_i o more hops
 split at h
 case h_2=>cases h
 rename_i d hrec
 cases hc:(!draw&&(Nat.blt d S.nt&&more.all (a8 S.nt))) with
 |false=>rw [hc] at h;cases h
 |true=>
 rw [hc] at h
 simp only [cond_true] at h
 simp only [Bool.and_eq_true,Bool.not_eq_true'] at hc
 obtain ⟨hdraw,hd,hall⟩:=hc
 subst hdraw
 have hd:d<S.nt:=by simpa using hd
 unfold E1 at hrec
 obtain ⟨dst,op,ty,pos,after,gd⟩:=o
 simp only at hrec
 split at hrec
 case h_2=>cases hrec
 rename_i d0 cl
 split at hrec
 case h_2=>cases hrec
 rename_i hcl
 injection hrec with hrec
 subst hrec
 obtain ⟨e1,fps,τ0,τ1,hops1,ht1,hk1⟩:=Ff (bS X) V S hC ops.toList more h (St.eqv.refl _)
 cases e1 with
 |exit id=>cases hk1
 |ret=>cases hk1
 |panic v=>cases hk1
 |normal=>
 simp only at hk1
 obtain ⟨e,τ,hbig,hk⟩:=tX (bS X) V S ann hC fuel b hk1
 have hsz:ops.size=more.length+1:=by have:=congrArg List.length hops;simpa using this
 have key: ∀ {out:Out U},(∀ (w:World) (vs:Array Value) (N0:aw) (ν:Nat→Nat) (δ:Nat→Option Nat) (hg:Given X w vs N0 ν δ args boxes),
   Lands X (eU w N0 boxes.length args.length ν δ S.nt hlow hg.bnd X.gblk hg.glob) [] e τ (bodyPost P fn (dz X w N0 ν δ boxes.length args.length out)))→gT X (iF P u u') f args boxes out:=by
  intro out hl
  refine ⟨⟨fn,hf,hname,hbody⟩,fun w vs N0 ν δ hg=> ?_⟩
  refine callsD_of_wpS hf hcode fun c₀ cs hu=> ?_
  have hs:=uh hg hargs hlow
  rw [hnt]
  have hl:=hl w vs N0 ν δ hg
  generalize hcx:eU w N0 boxes.length args.length ν δ S.nt hlow hg.bnd X.gblk hg.glob=c at hs hl
  have hcnt:c.nt=S.nt:=by rw [←hcx];rfl
  have hOS:jS X (bS X) S c:=kJ hI hS fun d hd=>by rw [hpin] at hd;cases hd
  obtain ⟨val,cs2,hrv,hrep⟩: ∃val cs2,(match recoverD (c₀::cs) with|some (v,cs')=>v=val∧cs'=cs2|none=>val= .nilIface∧cs2=c₀::cs)∧(∃c1:Frame,cs2={c₀ with mode:=u'}::cs)∧ ∀ (w:World) (N:aw) (g:Gh U),Rep X w N g val v:=by
   cases hv with
   |nil=>
    refine ⟨.nilIface,c₀::cs, ?_,⟨c₀, ?_⟩,fun _ _ _=> .nilIface⟩
    ·simp [recoverD,hu]
    ·rw [←hu]
   |err t k n=>
    refine ⟨.iface t (.int k n),_, ?_,⟨c₀,rfl⟩,fun _ _ _=> .iface _ _ _ (.int _ _)⟩
    simp [recoverD,hu]
  obtain ⟨⟨_,hcs2⟩,hrep⟩:=hrep
  refine wpS_seq (wpS_region ?_)
  rw [hsz,List.range_eq_range',List.range'_succ]
  have h0:ops[0]? =some ⟨some d0,.call cl,ty,pos,after,none⟩:=by rw [←Array.getElem?_toList,hops];rfl
  simp only [wpOpsS,h0]
  have hrun:(execOp (Act.eval ⟨vs++Array.replicate (S.nt-vs.size) undef,[]⟩) ⟨some d0,.call cl,ty,pos,after,none⟩).run P w= .ok .recover w:=by
   rw [Fj hcl]
   simp [builtin]
  rw [if_pos (by simp [Region.wanted]),hrun]
  simp only
  have hnext:wpOpsS P ops (Exit.thenS (b.wpS P (bodyPostS P fn c₀ cs fun e u2 w'=>u2=u'∧dz X w N0 ν δ boxes.length args.length out e w')) (bodyPostS P fn c₀ cs fun e u2 w'=>u2=u'∧dz X w N0 ν δ boxes.length args.length out e w')) (List.range' (0+1) more.length)
    (Act.put ⟨vs++Array.replicate (S.nt-vs.size) undef,[]⟩ (some d0) val) cs2 w:=by
   have hs1:=hs.put (d:=d0) (by rw [hcnt];exact hd) (hrep w _ _)
   have hLO: ∀ {next:Act→List Frame→World→Prop},¬LetsOut (fun e a' w'=>Exit.thenS next (bodyPostS P fn c₀ cs fun e u2 w'=>u2=u'∧dz X w N0 ν δ boxes.length args.length out e w') e a' cs2 w'):=by
    rintro next ⟨a',w',u2,_,hq⟩
    exact hq
   refine U0 hLO _ _ _ ?_
   refine H6 hOS more 1 _ w _ _ _ fps (by rw [hops];rfl) (by rw [hcnt];exact hall) hs1 hops1 ?_
   intro a2 w2 g2 D2 hd2 hs2
   simp only [Exit.thenS]
   refine wpS_of_wp (lf hm hOS hcnt hbig a2 w2 g2 D2 _ (hs2.eqv ht1) ?_)
   intro a3 w3 g3 D3 hd3 hs3
   have hd0:a3.defers=[]:=hd3.trans hd2
   have hb:=hl a3 w3 g3 D3 hd0 hs3
   rw [hcs2]
   cases e with
   |normal=>obtain ⟨q1,v1,q2,q3⟩:=hb;exact ⟨q1,u',rfl,v1,q2,rfl,q3⟩
   |ret=>obtain ⟨q1,v1,q2,q3⟩:=hb;exact ⟨q1,u',rfl,v1,q2,rfl,q3⟩
   |exit id=>exact hb.elim
   |panic pv=>intro val' hval';obtain ⟨q1,q3⟩:=hb val' hval';exact ⟨q1,u',rfl,rfl,q3⟩
  cases hrd:recoverD (c₀::cs) with
  |none=>rw [hrd] at hrv;obtain ⟨rfl,rfl⟩:=hrv;exact hnext
  |some p=>obtain ⟨v1,cs1⟩:=p;rw [hrd] at hrv;obtain ⟨rfl,rfl⟩:=hrv;exact hnext
 cases e with
 |exit id=>cases hk
 |normal=>
  obtain ⟨r,τ0,τ1,gp,hr,ht,hfin⟩:=e_ hC _ hk (St.eqv.refl τ)
  cases r with
  |out o=>
   refine ⟨o,hfin,key fun w vs N0 ν δ hg a' w' g' D' hd hs=> ?_⟩
   obtain ⟨v,h1,h2⟩:=mU iA hg.dom hs hr
   exact ⟨hd,v,h1,h2⟩
  |_=>cases hfin
 |ret=>
  obtain ⟨r,τ0,τ1,gp,hr,ht,hfin⟩:=e_ hC _ hk (St.eqv.refl τ)
  cases r with
  |out o=>
   refine ⟨o,hfin,key fun w vs N0 ν δ hg a' w' g' D' hd hs=> ?_⟩
   obtain ⟨v,h1,h2⟩:=mU iA hg.dom hs hr
   exact ⟨hd,v,h1,h2⟩
  |_=>cases hfin
 |panic v=>
  obtain ⟨r,τ0,τ1,gp,hr,ht,hfin⟩:=e_ hC _ hk (St.eqv.refl τ)
  cases r with
  |out o=>
   refine ⟨o,hfin,key fun w vs N0 ν δ hg a' w' g' D' hd hs val hval=> ?_⟩
   exact ⟨hd,xq iA hg.dom hs hval hr⟩
  |_=>cases hfin
end
end Go.Proofs.YtapmagaejigpnaaGreatDoor.PI
namespace Go.Proofs.YtapmagaejigpnaaGreatDoor.PI
open Go
set_option linter.unusedVariables false
set_option linter.unusedSimpArgs false
section
variable {U:Uni} {V:Env U} {P:Program} {X:Link V P}
def Ctx.refix (c:Ctx) (μ:Nat→Option Nat) (L:List Nat) (hnt:c.nt≤1000000) (hL: ∀id∈L,1000000≤id):Ctx:=
 {c with
  fix:=fun id=>if id∈L then μ id else c.fix id
  low:=fun id k h=>by
   split at h
   ·rename_i h1;exact ⟨hL id h1,Nat.le_trans hnt (hL id h1)⟩
   ·exact c.low id k h}
theorem Sim.refix {c:Ctx} {tm:Array Value} {w:World} {σ:St U} {g:Gh U} {D:Nat→Option Nat} (h:Sim X c tm w σ g D) {L:List Nat} {hnt:c.nt≤1000000} {hL: ∀id∈L,1000000≤id}:
  Sim X (c.refix g.μ L hnt hL) tm w σ g D where
 nt:=h.nt
 regs:=h.regs
 boxes:=h.boxes
 dom:=h.dom
 inj:=h.inj
 new:=h.new
 objs:=h.objs
 nobj:=h.nobj
 dinj:=h.dinj
 dnew:=h.dnew
 dbox:=h.dbox
 ext:=h.ext
 gl:=h.gl
 fix:=fun id k hk=>by
  simp only [Ctx.refix]
  by_cases hin:id∈L
  ·rw [if_pos hin];exact .inl hk
  ·rw [if_neg hin];exact h.fix id k hk
theorem CtxOf.refix {c:Ctx} {tm:Array Value} {w:World} {σ:St U} {g:Gh U} {D:Nat→Option Nat} (h:Sim X c tm w σ g D) {L:List Nat} {hnt:c.nt≤1000000} {hL: ∀id∈L,1000000≤id} (hLμ: ∀id∈L,∃b,g.μ id=some b)
  {w0:World} {N0:aw} {n m:Nat} {ν:Nat→Nat} {δ:Nat→Option Nat} (hc:CtxOf c w0 N0 n m ν δ):CtxOf (c.refix g.μ L hnt hL) w0 N0 n m ν δ where
 cw:=hc.cw
 cN:=hc.cN
 bl:=hc.bl
 fix i hi:=by
  simp only [Ctx.refix]
  by_cases hin:cF i∈L
  ·rw [if_pos hin]
   obtain ⟨b,hb⟩:=hLμ _ hin
   rcases h.fix _ _ hb with h1|⟨h1,_⟩
   ·rw [hb,←h1];exact hc.fix i hi
   ·rw [hc.fix i hi] at h1;cases h1
  ·rw [if_neg hin];exact hc.fix i hi
 other id k hk:=by
  simp only [Ctx.refix] at hk
  by_cases hin:id∈L
  ·rw [if_pos hin] at hk
   rcases h.fix _ _ hk with h1|⟨_,h1⟩
   ·exact hc.other id k h1
   ·rw [hc.cw] at h1;exact .inr h1
  ·rw [if_neg hin] at hk;exact hc.other id k hk
 bnd:=hc.bnd
def uw (c':Ctx) (caps:List (PV U)) (us:Array Value):Prop:=us.size=caps.length∧ ∀ (j:Nat) p,caps[j]? =some p→ ∃id off b,p= .ptr id off∧c'.fix id=some b∧us.getD j undef= .pointer (some ⟨b,off,none⟩)
def uy (X:Link V P) (S:Side U) (code:Code) (σ:St U) (h:FuncId) (caps:List (PV U)) (e:Ex U) (τ:St U):Prop:=
 ∀ (c:Ctx),PinOK S c→c.nt=S.nt→ ∀ (a:Act) (w:World) (g:Gh U) (D:Nat→Option Nat) (Q:Exit→Act→World→Prop),Sim X c a.tmps w σ g D→a.defers=[]→
  (∀ (us:Array Value) (c':Ctx),(∀w0 N0 n m ν δ,CtxOf c w0 N0 n m ν δ→CtxOf c' w0 N0 n m ν δ)→c'.nt=c.nt→uw c' caps us→Lands X c' [{target:= .fn (.func h) us,args:= #[]}] e τ Q)→code.wp P Q a w
theorem L_ {l:List Oper} {o:Oper} {n:Tmp} (h:vV l=some (o,n)): ∃q cl,l=[o,q]∧o.dst=some n∧o.guard=none∧q.dst=none∧q.op= .defer cl∧q.guard=none∧cl.callee= .value (.tmp n)∧cl.args= #[]:=by
 unfold vV at h
 split at h
 case h_2=>cases h
 rename_i o' q
 split at h
 case h_2=>cases h
 rename_i m cl h1 h2 h3 h4 h5
 split at h
 case h_2=>cases h
 rename_i n' hcl
 cases hb:(Nat.beq m n'&&cl.args.isEmpty) with
 |false=>rw [hb] at h;cases h
 |true=>
 rw [hb] at h
 injection h with h
 injection h with e1 e2
 subst e1;subst e2
 simp only [Bool.and_eq_true] at hb
 have hmn:m=n':=by simpa using hb.1
 subst hmn
 exact ⟨q,cl,rfl,h1,h2,h3,h4,h5,hcl,by simpa using hb.2⟩
theorem SP (hm:P.follows .mixedOrders=true) (hI:iG X) {S:Side U} (hS:S.rcv=none) (hlow:S.nt≤1000000) {R:Type} {C:Oracle U R} (hC:C.Tells (bS X)) {ann:Nat→Option Ann} {fuel:Nat}:
  ∀ (code:Code) {σ:St U} {κ0:Ex U→St U→Option R} {κ1:FuncId→List (PV U)→Ex U→St U→Option R} {x:R},kS V S C ann fuel code σ κ0 κ1=some x→
   (∃e τ,e≠ .normal∧κ0 e τ=some x∧ ∀c,PinOK S c→c.nt=S.nt→pY X c none code σ e τ)∨
   (∃h caps e τ,κ1 h caps e τ=some x∧uy X S code σ h caps e τ):=by
 intro code
 induction code with
 |seq a b iha ihb=>
  intro σ κ0 κ1 x h
  have step:run V S C ann fuel a σ (fun| .normal,σ'=>kS V S C ann fuel b σ' κ0 κ1|e,σ'=>κ0 e σ')=some x→
    (∃e τ,e≠ .normal∧κ0 e τ=some x∧ ∀c,PinOK S c→c.nt=S.nt→pY X c none (.seq a b) σ e τ)∨
    (∃h caps e τ,κ1 h caps e τ=some x∧uy X S (.seq a b) σ h caps e τ):=by
   intro h
   obtain ⟨e,τ,hbig,hk⟩:=tX (bS X) V S ann hC fuel a h
   have early:e≠ .normal→κ0 e τ=some x→_:=fun he hk=>(.inl ⟨e,τ,he,hk,fun c hP hnt=>lf hm (kJ hI hS hP) hnt (.seqE a b _ _ _ hbig he)⟩:
    (∃e τ,e≠ .normal∧κ0 e τ=some x∧ ∀c,PinOK S c→c.nt=S.nt→pY X c none (.seq a b) σ e τ)∨(∃h caps e τ,κ1 h caps e τ=some x∧uy X S (.seq a b) σ h caps e τ))
   cases e with
   |normal=>
    rcases ihb hk with ⟨e',τ',he',hk',hB⟩|⟨hh,caps,e',τ',hk',hB⟩
    ·exact .inl ⟨e',τ',he',hk',fun c hP hnt a' w g D Q hs hl=>wp_seq (lf hm (kJ hI hS hP) hnt hbig a' w g D _ hs fun a2 w2 g2 D2 hd2 hs2=>hB c hP hnt a2 w2 g2 D2 Q hs2 (by rw [hd2];exact hl))⟩
    ·exact .inr ⟨hh,caps,e',τ',hk',fun c hP hnt a' w g D Q hs hd hl=>wp_seq (lf hm (kJ hI hS hP) hnt hbig a' w g D _ hs fun a2 w2 g2 D2 hd2 hs2=>hB c hP hnt a2 w2 g2 D2 Q hs2 (hd2.trans hd) hl)⟩
   |exit id=>exact early (by simp) hk
   |ret=>exact early (by simp) hk
   |panic v=>exact early (by simp) hk
  clear iha
  unfold kS at h
  split at h
  case h_2=>exact step h
  rename_i id ops draw
  split at h
  case h_2=>exact step h
  rename_i o n hdfr
  obtain ⟨q,cl,hops,ho1,ho2,hq1,hq2,hq3,hcl,hargs⟩:=L_ hdfr
  cases hc:(!draw&&a8 S.nt o) with
  |false=>rw [hc] at h;cases h
  |true=>
  rw [hc] at h
  simp only [cond_true] at h
  simp only [Bool.and_eq_true,Bool.not_eq_true'] at hc
  obtain ⟨hdraw,hdo⟩:=hc
  subst hdraw
  obtain ⟨r,τ0,τ,gp,hrel,ht,hk⟩:=e_ hC _ h (St.eqv.refl σ)
  cases r with
  |raise v=>cases hk
  |out o=>cases hk
  |done=>
  simp only at hk
  split at hk
  case h_2=>cases hk
  rename_i hh caps hfun
  cases hp:caps.all PV.pinned with
  |false=>rw [hp] at hk;cases hk
  |true=>
  rw [hp] at hk
  simp only [cond_true] at hk
  obtain ⟨e,τ2,hbig,hk2⟩:=tX (bS X) V {S with pin:=fun _=>false} ann hC fuel b hk
  refine .inr ⟨hh,caps,e,τ2,hk2,fun c hP hnt a w g D Q hs hdef hl=>wp_seq (wp_region ?_)⟩
  have hsz:ops.size=2:=by have:=congrArg List.length hops;simpa using this
  have h0:ops[0]? =some o:=by rw [←Array.getElem?_toList,hops];rfl
  have h1:ops[1]? =some q:=by rw [←Array.getElem?_toList,hops];rfl
  rw [hsz,show List.range 2=[0,1] from rfl]
  simp only [wpOps,h0,h1]
  rw [if_pos (by simp [Region.wanted,ho2])]
  refine .inl (kJ hI hS hP o a w σ g D .done τ0 [] gp _ _ (by rw [hnt];exact hdo) hs hrel ⟨fun _ a2 w2 g2 D2 hd2 hs2=> ?_,fun v hv=>by cases hv⟩)
  rw [if_pos (by simp [Region.wanted,hq3])]
  refine .inl ?_
  have hs3:=hs2.eqv ht
  have hR:=hs3.regs n
  rw [hfun] at hR
  generalize hev:a2.tmps.getD n undef=ev at hR
  cases hR with
  |func _ _ _ vs us hvs hus hf1 hf2=>
  have hvs0:vs= #[]:=by
   have:vs.size=0:=by simpa using hvs
   exact Array.eq_empty_of_size_eq_zero this
  subst hvs0
  obtain ⟨qd,qo,qt,qp,qa,qg⟩:=q
  simp only at hq1 hq2 hq3
  subst hq1;subst hq2;subst hq3
  have hrun:(execOp a2.eval ⟨none,.defer cl,qt,qp,qa,none⟩).run P w2= .ok (.defer {target:= .fn (.func hh) us,args:= #[]}) w2:=by
   have hev':a2.eval (.tmp n)= .func (.func hh) #[] us:=hev
   simp [execOp,resolve,hcl,hargs,hev',Deferred.ofValue]
  unfold Oper.wp
  rw [hrun,Oper.upon_defer]
  have hids: ∀id∈PV.idsL caps,1000000≤id∧ ∃b,g2.μ id=some b:=by
   intro id hid
   obtain ⟨p,hpm,hpi⟩: ∃p∈caps,id∈p.ids:=by
    clear hl hk2 hbig hk hf1 hf2 hus hfun hp h step
    induction caps with
    |nil=>cases hid
    |cons p caps ih=>
     simp only [PV.idsL,List.mem_append] at hid
     rcases hid with hid|hid
     ·exact ⟨p,by simp,hid⟩
     ·obtain ⟨q,hq,hqi⟩:=ih hid;exact ⟨q,by simp [hq],hqi⟩
   have hpp:=List.all_eq_true.1 hp p hpm
   obtain ⟨j,hj⟩:=List.mem_iff_getElem?.1 hpm
   have hr:=hf2 j p hj
   cases p with
   |ptr id' off=>
    simp only [PV.ids,List.mem_singleton] at hpi
    subst hpi
    refine ⟨by simpa [PV.pinned] using hpp, ?_⟩
    generalize us.getD j undef=uv at hr
    cases hr with
    |ptr _ _ b hb=>exact ⟨b,hb⟩
   |_=>cases hpp
  have hcnt:c.nt≤1000000:=by rw [hnt];exact hlow
  refine lf (S:={S with pin:=fun _=>false}) hm (kJ hI hS fun d hd=>by cases hd) (c:=c.refix g2.μ (PV.idsL caps) hcnt fun id hid=>(hids id hid).1) hnt hbig _ w2 g2 D2 Q hs3.refix ?_
  have hld:=hl us (c.refix g2.μ (PV.idsL caps) hcnt fun id hid=>(hids id hid).1) (fun w0 N0 n m ν δ hc=>CtxOf.refix hs3 (fun id hid=>(hids id hid).2) hc) rfl ⟨hus,fun j p hj=> ?_⟩
  ·have hd3:((Act.put {a2 with defers:={target:= .fn (.func hh) us,args:= #[]}::a2.defers} none undef).defers)=[{target:= .fn (.func hh) us,args:= #[]}]:=by
    have:a2.defers=[]:=hd2.trans hdef
    simp [Act.put,this]
   rw [hd3];exact hld
  ·have hpp:=List.all_eq_true.1 hp p (List.mem_of_getElem? hj)
   have hr:=hf2 j p hj
   cases p with
   |ptr id off=>
    have hin:id∈PV.idsL caps:=dV hj id (by simp [PV.ids])
    generalize us.getD j undef=uv at hr
    cases hr with
    |ptr _ _ b hb=>exact ⟨id,off,b,rfl,by simp only [Ctx.refix];rw [if_pos hin];exact hb,rfl⟩
   |_=>cases hpp
 |_=>intro σ κ0 κ1 x h;cases h
end
end Go.Proofs.YtapmagaejigpnaaGreatDoor.PI
namespace Go.Proofs.YtapmagaejigpnaaGreatDoor.PI
open Go
set_option linter.unusedVariables false
set_option linter.unusedSimpArgs false
section
variable {U:Uni} {V:Env U} {P:Program} {X:Link V P}
theorem wK {fn:Func} {w0:World} {N0:aw} {n m:Nat} {ν:Nat→Nat} {δ:Nat→Option Nat} {c':Ctx} (hc:CtxOf c' w0 N0 n m ν δ) (hdom: ∀j b,δ j=some b→j<m) {v:PV U} {u u':FrameMode} (hv:RcvOK v u u')
  {hh:FuncId} {caps:List (PV U)} {us:Array Value} (hct:uw c' caps us) {τ τ1:St U} {r:MR U} {τ0:St U} {gp gp':List Loc} {K:bU U} {keep:Bool} {hand:List Bool} {out:Out U} {τ2:St U}
  (hrel:(fN (PV.idsL caps) fun _=>gg [] none (.func hh [] caps) []).Rel (gT X (iF P u u')) τ [] r τ0 gp) (hr:r= .done) (ht:τ0.eqv τ1) (hret:(gL V keep hand fn.results.toList n).Rel K τ1 [] (.out out) τ2 gp')
  {a:Act} {w:World} {g:Gh U} {D:Nat→Option Nat} (hs:Sim X c' a.tmps w τ g D):
  Leaves P fn a.tmps (dz X w0 N0 ν δ n m out) [{target:= .fn (.func hh) us,args:= #[]}] u w:=by
 obtain ⟨bs,fp1,hrel1,hkeys,hbs⟩:=wl _ hrel
 have hR:Rep X w (c'.N g D) g (.func (.func hh) #[] us) (.func hh [] caps):=by
  refine .func hh [] caps #[] us rfl hct.1 (by simp) fun j p hp=> ?_
  obtain ⟨id,off,b,rfl,hfix,hus⟩:=hct.2 j p hp
  rw [hus]
  refine .ptr id off b ?_
  have hin:id∈PV.idsL caps:=dV hp id (by simp [PV.ids])
  rw [←hkeys] at hin
  obtain ⟨x,hx,rfl⟩:=List.mem_map.1 hin
  obtain ⟨k,hk,_⟩:=hs.boxes x.1 x.2 (hbs x hx)
  rcases hs.fix _ _ hk with h1|⟨h1,_⟩
  ·rw [hfix] at h1;injection h1 with h1;rw [h1];exact hk
  ·rw [hfix] at h1;cases h1
 obtain ⟨f,a0s,bs',hfv,⟨fnh,hfh,hnameh,hbodyh⟩,hcall⟩:=Ag (X:=X) (c:=c') (a:=a) (dst:=none) (o:=⟨none,.move (.const undef),0, "",#[],none⟩) (CP:=iF P u u') (xs:= #[])
  (next:=fun a2 w2=>Leaves P fn a2.tmps (dz X w0 N0 ν δ n m out) [] .returning w2) (Q:=fun _ _ _=>False)
  (fun {f vs w R R'} h hm=>CallsD.mono h fun e u2 w2 ⟨h1,h2⟩=>⟨h1,hm e w2 h2⟩) hs hR rfl (by simp) rfl rfl hrel1
  ⟨fun _ a2 w2 g2 D2 _ hs2=>by
   obtain ⟨v,h1,h2⟩:=mU hc hdom (hs2.eqv ht) hret
   exact ⟨v,h1,h2⟩,fun v hv=>by rw [hr] at hv;cases hv⟩
 injection hfv with e1 e2 e3
 injection e1 with e1
 subst e1;subst e2;subst e3
 have hun:u≠ .run:=by cases hv<;>simp
 refine leaves_cons hun (f:=hh) (args:= #[]++us) (by simp only [invoke];exact Fk hfh hnameh hbodyh _ w) ?_
 have hcall2:CallsD P hh (#[]++us) u w fun e u2 w'=>u2=u'∧(match e,w' with
    | .returned v,w''=>Leaves P fn (a.put none v).tmps (dz X w0 N0 ν δ n m out) [] .returning w''
    | .panicked chain,w''=>False
    | .outgrown,_=>LetsOut (fun _ _ _=>False)):=by
  have:=hcall
  simp only [Array.append_empty] at this
  exact this.mono fun e u2 w2 ⟨h1,h2⟩=>⟨h1,by cases e<;>exact h2⟩
 refine hcall2.mono fun e u2 w2 ⟨h1,h2⟩=> ?_
 subst h1
 cases e with
 |returned rv=>
  simp only [Act.put] at h2
  have hset:settle u2= .returning:=by cases hv<;>rfl
  simp only [hset]
  exact h2
 |panicked chain=>exact h2.elim
 |outgrown=>obtain ⟨_,_,h⟩:=h2;exact h.elim
theorem SO (hm:P.follows .mixedOrders=true) (hI:iG X) {S:Side U} (hS:S.rcv=none) {R:Type} {C:Oracle U R} (hC:C.Tells (bS X)) {Cd:PV U→Oracle U R} (hCd: ∀v u u',RcvOK v u u'→(Cd v).Tells (gT X (iF P u u')))
  {f:FuncId} {fn:Func} (hf:P.funcs[f]? =some fn)
  (hname:(fn.name== "runtime.NumGoroutine")=false) (hbody:fn.body.isNone=false) (hnt:fn.ntmps=S.nt) (hlow:S.nt≤1000000) {args:List (PV U)} {boxes:List (Box U)} (hargs:args.length≤S.nt) (hboxes:boxes.length≤1000000)
  {ann:Nat→Option Ann} {fuel:Nat} {keep:Bool} {hand:List Bool} {κ:Out U→Option R} {x:R} (h:yh V S C ann fuel Cd keep hand fn args boxes κ=some x): ∃out,κ out=some x∧bS X f args boxes out:=by
 obtain ⟨code,hcode⟩: ∃code,fn.body=some code:=by
  cases hb:fn.body with
  |none=>rw [hb] at hbody;cases hbody
  |some code=>exact ⟨code,rfl⟩
 unfold yh e9 at h
 rw [hcode] at h
 have hpin: ∀ {w:World} {vs:Array Value} {N0:aw} {ν:Nat→Nat} {δ:Nat→Option Nat} (hg:Given X w vs N0 ν δ args boxes),PinOK S (eU w N0 boxes.length args.length ν δ S.nt hlow hg.bnd X.gblk hg.glob):=by
  intro w vs N0 ν δ hg d _
  simp only [eU]
  rw [if_neg (by omega)]
 rcases SP (X:=X) hm hI hS hlow hC code h with ⟨e,τ,he,hk,hB⟩|⟨hh,caps,e,τ,hk,hB⟩
 ·have key: ∀ {out:Out U},(∀ (w:World) (vs:Array Value) (N0:aw) (ν:Nat→Nat) (δ:Nat→Option Nat) (hg:Given X w vs N0 ν δ args boxes),
    Lands X (eU w N0 boxes.length args.length ν δ S.nt hlow hg.bnd X.gblk hg.glob) [] e τ (bodyPost P fn (dz X w N0 ν δ boxes.length args.length out)))→bS X f args boxes out:=by
   intro out hl
   refine ⟨⟨fn,hf,hname,hbody⟩,fun w vs N0 ν δ hg=>calls_of_wp hf hcode ?_⟩
   have hs:=uh hg hargs hlow
   rw [hnt]
   exact hB _ (hpin hg) rfl _ w _ _ _ hs (hl w vs N0 ν δ hg)
  cases e with
  |exit id=>cases hk
  |normal=>exact absurd rfl he
  |ret=>
   obtain ⟨r,τ0,τ1,gp,hr,ht,hfin⟩:=e_ hC _ hk (St.eqv.refl τ)
   cases r with
   |out o=>
    refine ⟨o,hfin,key fun w vs N0 ν δ hg a' w' g' D' hd hs=> ?_⟩
    obtain ⟨v,h1,h2⟩:=mU iA hg.dom hs hr
    exact ⟨hd,v,h1,h2⟩
   |_=>cases hfin
  |panic v=>
   obtain ⟨r,τ0,τ1,gp,hr,ht,hfin⟩:=e_ hC _ hk (St.eqv.refl τ)
   cases r with
   |out o=>
    refine ⟨o,hfin,key fun w vs N0 ν δ hg a' w' g' D' hd hs val hval=> ?_⟩
    exact ⟨hd,xq iA hg.dom hs hval hr⟩
   |_=>cases hfin
 ·have key: ∀ {out:Out U},(∀ (w:World) (vs:Array Value) (N0:aw) (ν:Nat→Nat) (δ:Nat→Option Nat) (hg:Given X w vs N0 ν δ args boxes) (us:Array Value) (c':Ctx),CtxOf c' w N0 boxes.length args.length ν δ→uw c' caps us→
    Lands X c' [{target:= .fn (.func hh) us,args:= #[]}] e τ (bodyPostD P fn (dz X w N0 ν δ boxes.length args.length out)))→bS X f args boxes out:=by
   intro out hl
   refine ⟨⟨fn,hf,hname,hbody⟩,fun w vs N0 ν δ hg=>calls_of_wp_defers hf hcode ?_⟩
   have hs:=uh hg hargs hlow
   rw [hnt]
   exact hB _ (hpin hg) rfl _ w _ _ _ hs rfl fun us c' hcx _ hct=>hl w vs N0 ν δ hg us c' (hcx _ _ _ _ _ _ iA) hct
  have fin: ∀ {v:PV U} {u u':FrameMode},RcvOK v u u'→(fN (PV.idsL caps) fun _=>gg [] none (.func hh [] caps) []).cps (Cd v) τ [] (fun| .done,σ',_=>(gL V keep hand fn.results.toList boxes.length).cps C σ' [] (Go.Proofs.YtapmagaejigpnaaGreatDoor.PI.fin κ)|_,_,_=>none)=some x→
    ∃ (out:Out U) (r:MR U) (τ0 τ1 τ2:St U) (gp gp':List Loc),κ out=some x∧(fN (PV.idsL caps) fun _=>gg [] none (.func hh [] caps) []).Rel (gT X (iF P u u')) τ [] r τ0 gp∧r= .done∧τ0.eqv τ1∧(gL V keep hand fn.results.toList boxes.length).Rel (bS X) τ1 [] (.out out) τ2 gp':=by
   intro v u u' hv hk
   obtain ⟨r,τ0,τ1,gp,hr,ht,hk1⟩:=e_ (hCd v u u' hv) _ hk (St.eqv.refl τ)
   cases r with
   |raise v=>cases hk1
   |out o=>cases hk1
   |done=>
    obtain ⟨r',τ2,τ3,gp',hr',ht',hk2⟩:=e_ hC _ hk1 (St.eqv.refl τ1)
    cases r' with
    |out o=>exact ⟨o,.done,τ0,τ1,τ2,gp,gp',hk2,hr,rfl,ht,hr'⟩
    |_=>cases hk2
  cases e with
  |exit id=>cases hk
  |normal=>
   obtain ⟨out,r,τ0,τ1,τ2,gp,gp',h1,h2,h3,h4,h5⟩:=fin .nil hk
   refine ⟨out,h1,key fun w vs N0 ν δ hg us c' hcx hct a' w' g' D' hd hs=> ?_⟩
   simp only [bodyPostD,hd]
   exact wK hcx hg.dom .nil hct h2 h3 h4 h5 hs
  |ret=>
   obtain ⟨out,r,τ0,τ1,τ2,gp,gp',h1,h2,h3,h4,h5⟩:=fin .nil hk
   refine ⟨out,h1,key fun w vs N0 ν δ hg us c' hcx hct a' w' g' D' hd hs=> ?_⟩
   simp only [bodyPostD,hd]
   exact wK hcx hg.dom .nil hct h2 h3 h4 h5 hs
  |panic v=>
   simp only [kD] at hk
   split at hk
   case h_2=>cases hk
   rename_i t k n'
   obtain ⟨out,r,τ0,τ1,τ2,gp,gp',h1,h2,h3,h4,h5⟩:=fin (.err t k n') hk
   refine ⟨out,h1,key fun w vs N0 ν δ hg us c' hcx hct a' w' g' D' hd hs val hval=> ?_⟩
   simp only [bodyPostD,hd]
   cases hval with
   |iface _ u _ hu=>cases hu;exact wK hcx hg.dom (.err t k n') hct h2 h3 h4 h5 hs
end
end Go.Proofs.YtapmagaejigpnaaGreatDoor.PI
namespace Go.Proofs.YtapmagaejigpnaaGreatDoor
open Go PI
set_option linter.unusedVariables false
set_option maxRecDepth 100000
noncomputable section
noncomputable def oA:ET→TypeId
 | .C=>61
 | .T=>26
 | .B=>63
 | .I=>3
 | .F=>22
noncomputable def lM:ET→Nat
 | .C=>2
 | .T=>6
 | .B=>2
 | .I=>1
 | .F=>1
noncomputable def su:ET→Nat
 | .C=>8
 | .T=>104
 | .B=>48
 | .I=>8
 | .F=>24
noncomputable def sH (e:ET):Value:=((Tryz.prog.info? (oA e)).bind (·.zero)).getD undef
noncomputable def wa (e:ET):Bool:=match Tryz.prog.info? (oA e) with
 |some i=>i.zero.isSome&&(Nat.beq i.size (lM e)&&Nat.beq i.bytes (su e))&&Nat.beq (sH e).cells.size (lM e)
 | .none=>false
theorem A2 (e:ET):wa e=true:=by cases e<;>kernel_rfl
theorem HH: ∀t r,pU t=some r→zN Tryz.prog oA t r=true:=by
 intro t r h
 unfold pU at h
 split at h<;>first|(injection h with h;subst h;kernel_rfl)|cases h
theorem Pg: ∀t r e,pU t=some r→r.keys=some e→e= .C:=by
 intro t r e h hk
 unfold pU at h
 split at h<;>first|(injection h with h;subst h;cases hk;done)|(injection h with h;subst h;injection hk with hk;exact hk.symm)|cases h
theorem Uw: ∀e cs y,HF e cs=some y→cs.length=lM e∧cs.all PV.isCell=true∧ ∀ (k:Nat) p,cs[k]? =some p→ ∃q,(cQ e y)[k]? =some q∧p.less q:=by
 have hC: ∀ {p:PU} {l},np p=some l→ ∃o,p= .sl (U:=UU) ET.C l o:=by
  intro p l h;unfold np at h;split at h<;>first|(injection h with h;subst h;exact ⟨_,rfl⟩)|cases h
 have hT: ∀ {p:PU} {l},qb p=some l→ ∃o,p= .sl (U:=UU) ET.T l o:=by
  intro p l h;unfold qb at h;split at h<;>first|(injection h with h;subst h;exact ⟨_,rfl⟩)|cases h
 have hB: ∀ {p:PU} {l},u_ p=some l→ ∃o,p= .sl (U:=UU) ET.B l o:=by
  intro p l h;unfold u_ at h;split at h<;>first|(injection h with h;subst h;exact ⟨_,rfl⟩)|cases h
 intro e cs y h
 cases e
 ·have h:zJ cs=some y:=h
  unfold zJ at h
  split at h
  case h_2=>cases h
  injection h with h;subst h
  refine ⟨rfl,rfl,fun k p hp=> ?_⟩
  match k,hp with
  |0,hp=>exact ⟨_,rfl,.inl (Option.some.inj hp).symm⟩
  |1,hp=>exact ⟨_,rfl,.inl (Option.some.inj hp).symm⟩
  |k+2,hp=>simp at hp
 ·have h:zM cs=some y:=h
  unfold zM at h
  split at h
  case h_2=>cases h
  split at h
  case h_2=>cases h
  rename_i h1 h2 h3
  injection h with h;subst h
  obtain ⟨o1,rfl⟩:=hC h1;obtain ⟨o2,rfl⟩:=hT h2;obtain ⟨o3,rfl⟩:=hB h3
  refine ⟨rfl,rfl,fun k p hp=> ?_⟩
  match k,hp with
  |0,hp=>exact ⟨_,rfl,.inl (Option.some.inj hp).symm⟩
  |1,hp=>exact ⟨_,rfl,.inl (Option.some.inj hp).symm⟩
  |2,hp=>exact ⟨_,rfl,.inl (Option.some.inj hp).symm⟩
  |3,hp=>exact ⟨_,rfl,.inr ⟨_,_,_,(Option.some.inj hp).symm,rfl⟩⟩
  |4,hp=>exact ⟨_,rfl,.inr ⟨_,_,_,(Option.some.inj hp).symm,rfl⟩⟩
  |5,hp=>exact ⟨_,rfl,.inr ⟨_,_,_,(Option.some.inj hp).symm,rfl⟩⟩
  |k+6,hp=>simp at hp
 ·have h:zI cs=some y:=h
  unfold zI at h
  split at h
  case h_2=>cases h
  split at h
  case h_2=>cases h
  rename_i h1 h2
  injection h with h;subst h
  obtain ⟨o1,rfl⟩:=hC h1;obtain ⟨o2,rfl⟩:=hT h2
  refine ⟨rfl,rfl,fun k p hp=> ?_⟩
  match k,hp with
  |0,hp=>exact ⟨_,rfl,.inr ⟨_,_,_,(Option.some.inj hp).symm,rfl⟩⟩
  |1,hp=>exact ⟨_,rfl,.inr ⟨_,_,_,(Option.some.inj hp).symm,rfl⟩⟩
  |k+2,hp=>simp at hp
 ·have h:zL cs=some y:=h
  unfold zL at h
  split at h
  case h_2=>cases h
  injection h with h;subst h
  refine ⟨rfl,rfl,fun k p hp=> ?_⟩
  match k,hp with
  |0,hp=>exact ⟨_,rfl,.inl (Option.some.inj hp).symm⟩
  |k+1,hp=>simp at hp
 ·have h:zK cs=some y:=h
  unfold zK at h
  split at h
  case h_2=>cases h
  obtain ⟨o1,rfl⟩:=hC h
  refine ⟨rfl,rfl,fun k p hp=> ?_⟩
  match k,hp with
  |0,hp=>exact ⟨_,rfl,.inr ⟨_,_,_,(Option.some.inj hp).symm,rfl⟩⟩
  |k+1,hp=>simp at hp
theorem NA (e:ET): ∃i,Tryz.prog.info? (oA e)=some i∧i.zero=some (sH e)∧i.size=lM e∧i.bytes=su e:=by
 have h:=A2 e
 unfold wa at h
 split at h
 ·rename_i i hi
  simp only [Bool.and_eq_true] at h
  obtain ⟨⟨h1,h2,h3⟩,h4⟩:=h
  refine ⟨i,hi, ?_,by simpa using h2,by simpa using h3⟩
  unfold sH
  rw [hi]
  obtain ⟨z,hz⟩:=Option.isSome_iff_exists.1 h1
  simp [hz]
 ·cases h
noncomputable def LL (o:Obj):Link VV Tryz.prog where
 gblk:=[(0,o)]
 etid:=oA
 esize:=lM
 ebytes:=su
 ezero:=sH
 einfo:=NA
 zsize:=fun e=>by
  have h:=A2 e
  unfold wa at h
  split at h
  ·simp only [Bool.and_eq_true] at h
   exact by simpa using h.2
  ·cases h
 epos:=fun e=>by cases e<;>decide
 broom:=fun e n h=>by
  have h':n≤1099511627776:=h
  cases e<;>simp only [su,maxLen]<;>omega
 len:=fun e x=>by cases e<;>rfl
 small:=fun e=>by cases e<;>decide
 ecell':=fun e x=>by cases e<;>rfl
 toEl:=Uw
 ty:=fun t r h=>HG (HH t r h)
 keyT:=fun t r e h hk=>by
  have he:=Pg t r e h hk
  subst he
  obtain ⟨fs,h1,h2,_,h4,h5⟩:=(HG (HH 61 _ rfl)).isInts rfl
  exact ⟨⟨fs,h1,h2,h4,h5⟩,fun x y=>⟨_,by simp only [VV,cQ,PV.eqvI];rfl⟩⟩
theorem tg:Tryz.prog.follows .mixedOrders=true:=by kernel_rfl
theorem sw {A B:Out UU→Prop} (h: ∃out,A out∧B out): ∃out,B out∧A out:=by obtain ⟨o,a,b⟩:=h;exact ⟨o,b,a⟩
theorem Lz {S:Type} {b:Bool} {x y:Option S} {v:S} (h:(bif b then x else y)=some v):x=some v∨y=some v:=by
 cases b
 ·exact .inr h
 ·exact .inl h
end
end Go.Proofs.YtapmagaejigpnaaGreatDoor
namespace Go.Proofs.YtapmagaejigpnaaGreatDoor
open Go PI
set_option linter.unusedVariables false
def U32 (s:Int):Prop:=0≤s∧s<4294967296
theorem U32.nat {s:Int} (h:U32 s): ∃n:Nat,n<4294967296∧s=n:=⟨s.toNat,by have:=h.1;have:=h.2;omega,by have:=h.1;omega⟩
theorem jY {n:Nat} (h:n<4294967296):(BitVec.ofInt 32 (n:Int)).toNat=n:=by
 simp
 omega
theorem jM (n:Nat) (h:n<4294967296):IntKind.wrap .u32 (n:Int)=n:=by
 simp [IntKind.wrap,IntKind.bits,IntKind.signed];omega
theorem eX (n:Nat) (h:n<18446744073709551616):IntKind.wrap .u64 (n:Int)=n:=by
 simp [IntKind.wrap,IntKind.bits,IntKind.signed];omega
theorem m_ {n:Int} (h1: -9223372036854775808≤n) (h2:n<9223372036854775808):IntKind.wrap .i64 n=n:=by
 simp [IntKind.wrap,IntKind.bits,IntKind.signed];omega
theorem p_ {a b n:Nat} (h:a<2^n):a&&&b<2^n:=Nat.lt_of_le_of_lt Nat.and_le_left h
theorem iL {a b:Nat} (ha:a<4294967296) (hb:b<4294967296):aV .and .u32 (a:Int) (b:Int)=((a&&&b:Nat):Int):=by
 have h1:=jY ha;have h2:=jY hb
 simp only [aV]
 show IntKind.wrap .u32 (((BitVec.ofInt 32 (a:Int))&&&(BitVec.ofInt 32 (b:Int))).toNat:Int)=_
 rw [BitVec.toNat_and,h1,h2]
 exact jM _ (p_ (n:=32) ha)
theorem qc {a b:Nat} (ha:a<4294967296) (hb:b<4294967296):aV .or .u32 (a:Int) (b:Int)=((a|||b:Nat):Int):=by
 have h1:=jY ha;have h2:=jY hb
 simp only [aV]
 show IntKind.wrap .u32 (((BitVec.ofInt 32 (a:Int))|||(BitVec.ofInt 32 (b:Int))).toNat:Int)=_
 rw [BitVec.toNat_or,h1,h2]
 exact jM _ (Nat.or_lt_two_pow (n:=32) ha hb)
def il (a b:Nat):Nat:=a^^^(a&&&b)
theorem mB (a b i:Nat):(il a b).testBit i=(a.testBit i&& !b.testBit i):=by
 simp only [il,Nat.testBit_xor,Nat.testBit_and]
 cases a.testBit i<;>cases b.testBit i<;>rfl
theorem xd {a b n:Nat} (h:a<2^n):il a b<2^n:=Nat.xor_lt_two_pow h (p_ h)
theorem vc {a b:Nat} (ha:a<4294967296) (hb:b<4294967296):aV .andNot .u32 (a:Int) (b:Int)=((il a b:Nat):Int):=by
 have h1:=jY ha;have h2:=jY hb
 simp only [aV]
 show IntKind.wrap .u32 (((BitVec.ofInt 32 (a:Int))&&& ~~~(BitVec.ofInt 32 (b:Int))).toNat:Int)=_
 have e:((BitVec.ofInt 32 (a:Int))&&& ~~~(BitVec.ofInt 32 (b:Int))).toNat=il a b:=by
  apply Nat.eq_of_testBit_eq
  intro i
  rw [mB,BitVec.toNat_and,Nat.testBit_and,h1]
  by_cases hi:i<32
  ·have:(~~~(BitVec.ofInt 32 (b:Int))).toNat.testBit i= !b.testBit i:=by
    rw [←BitVec.getLsbD,BitVec.getLsbD_not]
    rw [BitVec.getLsbD,h2];simp [hi]
   rw [this]
  ·have:a.testBit i=false:=Nat.testBit_lt_two_pow (Nat.lt_of_lt_of_le ha (by exact Nat.pow_le_pow_right (n:=2) (by decide) (show 32≤i by omega)))
   simp [this]
 rw [e]
 exact jM _ (xd (n:=32) ha)
theorem b9 {α:Type} (p:Prop) [Decidable p] (x y:α):ab (decide p) x y=if p then x else y:=by
 by_cases h:p
 ·rw [decide_eq_true h,if_pos h,ag]
 ·rw [decide_eq_false h,if_neg h,ad]
theorem ew {α:Type} (c:Bool) (x y:α):ab c x y=if c=true then x else y:=by
 cases c
 ·exact ad x y
 ·exact ag x y
abbrev Fu (k:Nat):Prop:=4294967296≤k
theorem aj {R S:Type} {k:Nat} (h:Fu k) (f:(R→Option S)→Option S) (g:R→Option S):aa k f g=f g:=LI (by have:4294967296≤k:=h;omega) f g
theorem bM {S:Type} {n m:Nat} (h:n+m≤1099511627776) (f:Unit→Option S):Option.bind (aP 1099511627776 n m) f=f ():=by
 have:n+m≤1099511627776:=h
 simp [aP,this]
theorem aS {α:Type} {l p r:List α} {x:α} (h:l=p++x::r) (hl:l.length<4611686018427387904):
  decide ((p.length:Int)<(l.length:Int))=true∧av l (p.length:Int)=some x∧IntKind.wrap .i64 ((p.length:Int)+1)=((p++[x]).length:Int)∧l=(p++[x])++r:=by
 subst h
 rw [List.length_append,List.length_cons] at hl
 refine ⟨decide_eq_true (by rw [List.length_append,List.length_cons];omega), ?_, ?_,by simp⟩
 ·simp [av]
 ·rw [List.length_append,List.length_cons,List.length_nil]
  simp [IntKind.wrap,IntKind.bits,IntKind.signed];omega
theorem aU {α:Type} {l p:List α} (h:l=p++[]):decide ((p.length:Int)<(l.length:Int))=false:=by
 subst h
 exact decide_eq_false (by rw [List.append_nil];omega)
theorem am {n m:Nat} (h:n<m): ∃q,m=q+1∧n≤q:=⟨m-1,by omega,by omega⟩
theorem gf {S:Type} (p:Prop) [Decidable p] (h:p) (f:Unit→Option S):Option.bind (cq p) f=f ():=by simp [cq,h]
end Go.Proofs.YtapmagaejigpnaaGreatDoor
namespace Go.Proofs.YtapmagaejigpnaaGreatDoor
open Go PI
set_option linter.unusedVariables false
set_option maxRecDepth 100000
noncomputable section
abbrev fF (S:Type):=Tm→Int→(Int→Option S)→Option S
def qN {S:Type} (hd:fF S) (k:Nat) (ret:Int→Option S) (t:Tm) (most i7:Int) (rec1:Int→Int→Option S) (rec2:Int→Int→Option S) (v5'' v8:Int):Option S:=
 Option.bind (av t.sys i7) fun x5=>
 ab (decide ((v8:Int)<(x5.kids.length:Int))) (
 ab (decide ((v5'':Int)≤most)) (
  Option.bind (av t.sys i7) fun x6=>
  Option.bind (av x6.kids v8) fun x7=>
  hd (ac x7) (IntKind.wrap .i64 (most-v5'')) fun r8=>
   rec2 (IntKind.wrap .i64 (v5''+r8)) (IntKind.wrap .i64 (v8+1))) (
   rec1 v5'' (IntKind.wrap .i64 (i7+1)))) (
  rec1 v5'' (IntKind.wrap .i64 (i7+1)))
noncomputable def ie {S:Type} (hd:fF S) (k:Nat) (ret:Int→Option S) (rec1:Int→Int→Option S) (t:Tm) (most i7:Int):Nat→Int→Int→Option S
 |0=>fun _ _=> .none
 |m+1=>fun v5'' v8=>qN hd k ret t most i7 rec1 (ie hd k ret rec1 t most i7 m) v5'' v8
def nD {S:Type} (hd:fF S) (k:Nat) (ret:Int→Option S) (t:Tm) (most:Int) (J2:Int→Int→Int→Option S) (rec1:Int→Int→Option S) (v5' i7:Int):Option S:=
 ab (decide ((i7:Int)<(t.sys.length:Int))) (
 ab (decide ((v5':Int)≤most)) (
  Option.bind (av t.sys i7) fun x3=>
  ab (decide (((x3.face.length:Int):Int)>most)) (
  ret (IntKind.wrap .i64 (most+1))) (
  Option.bind (av t.sys i7) fun x4=>
    J2 i7 (IntKind.wrap .i64 ((IntKind.wrap .i64 (v5'+1))+(x4.face.length:Int))) 0)) (
  ret v5')) (
 ret v5')
noncomputable def gC {S:Type} (hd:fF S) (k:Nat) (ret:Int→Option S) (t:Tm) (most:Int):Nat→Int→Int→Option S
 |0=>fun _ _=> .none
 |m+1=>fun v5' i7=>nD hd k ret t most (fun i7 v5'' v8=>ie hd k ret (gC hd k ret t most m) t most i7 k v5'' v8) (gC hd k ret t most m) v5' i7
def nC {S:Type} (hd:fF S) (k:Nat) (ret:Int→Option S) (t:Tm) (most:Int) (J1:Int→Int→Option S) (rec0:Int→Int→Option S) (v5 i6:Int):Option S:=
 ab (decide ((i6:Int)<(t.kids.length:Int))) (
 ab (decide ((v5:Int)≤most)) (
  Option.bind (av t.kids i6) fun x1=>
  hd (ac x1) (IntKind.wrap .i64 (most-v5)) fun r2=>
   rec0 (IntKind.wrap .i64 (v5+r2)) (IntKind.wrap .i64 (i6+1))) (
   J1 v5 0)) (
  J1 v5 0)
noncomputable def kr {S:Type} (hd:fF S) (k:Nat) (ret:Int→Option S) (t:Tm) (most:Int):Nat→Int→Int→Option S
 |0=>fun _ _=> .none
 |m+1=>fun v5 i6=>nC hd k ret t most (fun v5' i7=>gC hd k ret t most k v5' i7) (kr hd k ret t most m) v5 i6
def zo {S:Type} (hd:fF S) (k:Nat) (ret:Int→Option S) (J0:Int→Int→Option S) (t:Tm) (most:Int):Option S:=
 ab (decide (((t.r.length:Int):Int)>most)) (
 ret (IntKind.wrap .i64 (most+1))) (
 ab (decide (((t.name.size:Int):Int)>most)) (
  ret (IntKind.wrap .i64 (most+1))) (
   J0 (IntKind.wrap .i64 ((IntKind.wrap .i64 (1+(t.r.length:Int)))+(t.name.size:Int))) 0))
noncomputable def du {S:Type}:Nat→Tm→Int→(Int→Option S)→Option S
 |0=>fun _ _ _=> .none
 |k+1=>fun t most ret=>zo (du k) k ret (fun v5 i6=>kr (du k) k ret t most k v5 i6) t most
def G9 {S:Type} (k:Nat) (ret:Bool→Option S) (a b:Tm) (sys:List (Br Tm)):Option S:=
 du k (ac a) 150 fun r1=>
 ab (decide ((r1:Int)>150)) (
 ret true) (
 du k (ac b) 150 fun r2=>
 ab (decide ((r2:Int)>150)) (
  ret true) (
  du k (Tm.mk 0 0 ByteArray.empty [] [] sys) 150 fun r3=>
  ret (decide ((r3:Int)>150))))
noncomputable def n9 {S:Type} (k:Nat) (a b:Tm) (sys:List (Br Tm)) (ret:Bool→Option S):Option S:=G9 k ret a b sys
def Hp {S:Type} (k:Nat) (ret:Int×Int→Option S) (kind kid:Int):Option S:=
 ab (kind==4) (
 ab (kid==1) (
  ret (1,0)) (
  ret (0,0))) (
 ab (kind==7) (
  ab (kid==1) (
  ret (1,0)) (
  ret (0,0))) (
  ab (kind==5) (
  ab (kid==0) (
   ret (1,0)) (
   ret (0,0))) (
  ab (kind==22) (
   ab (kid==0) (
   ret (1,0)) (
   ret (0,0))) (
   ab (kind==27) (
   ab (kid==0) (
    ret (1,0)) (
    ret (0,0))) (
   ab (kind==11) (
    ab (kid==0) (
    ret (0,1)) (
    ret (0,0))) (
    ab (kind==12) (
    ab (kid==0) (
     ret (0,1)) (
     ret (0,0))) (
    ab (kind==14) (
     ab (kid==0) (
     ret (0,1)) (
     ret (0,0))) (
     ret (0,0)))))))))
noncomputable def gZ {S:Type} (k:Nat) (kind kid:Int) (ret:Int×Int→Option S):Option S:=Hp k ret kind kid
abbrev cM (S:Type):=Tm→Int→(Bool→Option S)→Option S
noncomputable def zB {S:Type} (hd:cM S) (k:Nat) (ret:Bool→Option S) (a_k:Tm) (p p' c0:Int):Option S:=
 hd (ac a_k) (IntKind.wrap .i64 (c0-1)) fun r1=>
 ret r1
noncomputable def oi {S:Type} (hd:cM S) (k:Nat) (a_k:Tm) (p p' c0:Int) (ret:Bool→Option S):Option S:=zB hd k ret a_k p p' c0
def qV {S:Type} (hd:cM S) (k:Nat) (ret:Bool→Option S) (c0:Int) (t:Tm) (v42:Int) (x4:(Br Tm)) (more9:Int) (rec1:Int→Int→Option S) (rec2:Int→Option S) (v49:Int):Option S:=
 ab (decide ((v49:Int)<(x4.kids.length:Int))) (
 Option.bind (av x4.kids v49) fun x5=>
 aa k (oi hd k (ac x5) 0 more9 c0) fun r6=>
 ab (!r6) (
  ret false) (
   rec2 (IntKind.wrap .i64 (v49+1)))) (
  rec1 (IntKind.wrap .i64 (v42+1)) more9)
noncomputable def jv {S:Type} (hd:cM S) (k:Nat) (ret:Bool→Option S) (rec1:Int→Int→Option S) (c0:Int) (t:Tm) (v42:Int) (x4:(Br Tm)) (more9:Int):Nat→Int→Option S
 |0=>fun _=> .none
 |m+1=>fun v49=>qV hd k ret c0 t v42 x4 more9 rec1 (jv hd k ret rec1 c0 t v42 x4 more9 m) v49
def nJ {S:Type} (hd:cM S) (k:Nat) (ret:Bool→Option S) (c0:Int) (t:Tm) (J2:Int→(Br Tm)→Int→Int→Option S) (rec1:Int→Int→Option S) (v42 more9:Int):Option S:=
 ab (decide ((v42:Int)<(t.sys.length:Int))) (
 Option.bind (av t.sys v42) fun x4=>
  J2 v42 x4 more9 0) (
 ret true)
noncomputable def fR {S:Type} (hd:cM S) (k:Nat) (ret:Bool→Option S) (c0:Int) (t:Tm):Nat→Int→Int→Option S
 |0=>fun _ _=> .none
 |m+1=>fun v42 more9=>nJ hd k ret c0 t (fun v42 x4 more9 v49=>jv hd k ret (fR hd k ret c0 t m) c0 t v42 x4 more9 k v49) (fR hd k ret c0 t m) v42 more9
def nI {S:Type} (hd:cM S) (k:Nat) (ret:Bool→Option S) (c0:Int) (t:Tm) (J1:Int→Int→Option S) (rec0:Int→Option S) (v17:Int):Option S:=
 ab (decide ((v17:Int)<(t.kids.length:Int))) (
 Option.bind (av t.kids v17) fun x1=>
 aa k (gZ k t.kind v17) fun r2=>
 aa k (oi hd k (ac x1) r2.1 r2.2 c0) fun r3=>
 ab (!r3) (
  ret false) (
   rec0 (IntKind.wrap .i64 (v17+1)))) (
 ab (t.kind==15) (
   J1 0 1) (
   J1 0 0))
noncomputable def mo {S:Type} (hd:cM S) (k:Nat) (ret:Bool→Option S) (c0:Int) (t:Tm):Nat→Int→Option S
 |0=>fun _=> .none
 |m+1=>fun v17=>nI hd k ret c0 t (fun v42 more9=>fR hd k ret c0 t k v42 more9) (mo hd k ret c0 t m) v17
noncomputable def zy {S:Type} (hd:cM S) (k:Nat) (ret:Bool→Option S) (J0:Int→Option S) (t:Tm) (c0:Int):Option S:=
 J0 0
noncomputable def vT {S:Type} (hd:cM S) (k:Nat) (t:Tm) (c0:Int) (ret:Bool→Option S):Option S:=zy hd k ret (fun v17=>mo hd k ret c0 t k v17) t c0
def Hw {S:Type} (hd:cM S) (k:Nat) (ret:Bool→Option S) (t:Tm) (left:Int):Option S:=
 ab (decide ((left:Int)>0)) (
 aa k (vT hd k (ac t) left) fun r1=>
 ret r1) (
 ret false)
noncomputable def gu {S:Type}:Nat→Tm→Int→(Bool→Option S)→Option S
 |0=>fun _ _ _=> .none
 |k+1=>fun t left ret=>Hw (gu k) k ret t left
abbrev cL (S:Type):=Tm→Int→(Bool×Int→Option S)→Option S
def zD {S:Type} (hd:cL S) (k:Nat) (ret:Bool×Int→Option S) (t:Tm) (c0:Int):Option S:=
 ab (decide ((IntKind.wrap .i64 (c0-1):Int)≥0)) (
 hd (ac t) (IntKind.wrap .i64 (c0-1)) fun r1=>
 ret (r1.1,r1.2)) (
 ret (false,IntKind.wrap .i64 (c0-1)))
noncomputable def lA {S:Type} (hd:cL S) (k:Nat) (t:Tm) (c0:Int) (ret:Bool×Int→Option S):Option S:=zD hd k ret t c0
noncomputable def zC {S:Type} (hd:cL S) (k:Nat) (ret:Bool×Int→Option S) (a_k:Tm) (p p' c1:Int):Option S:=
 aa k (lA hd k (ac a_k) c1) fun r1=>
 ret (r1.1,r1.2)
noncomputable def ol {S:Type} (hd:cL S) (k:Nat) (a_k:Tm) (p p' c1:Int) (ret:Bool×Int→Option S):Option S:=zC hd k ret a_k p p' c1
def qT {S:Type} (hd:cL S) (k:Nat) (ret:Bool×Int→Option S) (t:Tm) (v42:Int) (x4:(Br Tm)) (more9:Int) (rec1:Int→Int→Int→Option S) (rec2:Int→Int→Option S) (e1_0'' v49:Int):Option S:=
 ab (decide ((v49:Int)<(x4.kids.length:Int))) (
 Option.bind (av x4.kids v49) fun x5=>
 aa k (ol hd k (ac x5) 0 more9 e1_0'') fun r6=>
 ab (!r6.1) (
  ret (false,r6.2)) (
   rec2 r6.2 (IntKind.wrap .i64 (v49+1)))) (
  rec1 e1_0'' (IntKind.wrap .i64 (v42+1)) more9)
noncomputable def fP {S:Type} (hd:cL S) (k:Nat) (ret:Bool×Int→Option S) (rec1:Int→Int→Int→Option S) (t:Tm) (v42:Int) (x4:(Br Tm)) (more9:Int):Nat→Int→Int→Option S
 |0=>fun _ _=> .none
 |m+1=>fun e1_0'' v49=>qT hd k ret t v42 x4 more9 rec1 (fP hd k ret rec1 t v42 x4 more9 m) e1_0'' v49
def nF {S:Type} (hd:cL S) (k:Nat) (ret:Bool×Int→Option S) (t:Tm) (J2:Int→(Br Tm)→Int→Int→Int→Option S) (rec1:Int→Int→Int→Option S) (e1_0' v42 more9:Int):Option S:=
 ab (decide ((v42:Int)<(t.sys.length:Int))) (
 Option.bind (av t.sys v42) fun x4=>
  J2 v42 x4 more9 e1_0' 0) (
 ret (true,e1_0'))
noncomputable def eJ {S:Type} (hd:cL S) (k:Nat) (ret:Bool×Int→Option S) (t:Tm):Nat→Int→Int→Int→Option S
 |0=>fun _ _ _=> .none
 |m+1=>fun e1_0' v42 more9=>nF hd k ret t (fun v42 x4 more9 e1_0'' v49=>fP hd k ret (eJ hd k ret t m) t v42 x4 more9 k e1_0'' v49) (eJ hd k ret t m) e1_0' v42 more9
def nE {S:Type} (hd:cL S) (k:Nat) (ret:Bool×Int→Option S) (t:Tm) (J1:Int→Int→Int→Option S) (rec0:Int→Int→Option S) (e1_0 v17:Int):Option S:=
 ab (decide ((v17:Int)<(t.kids.length:Int))) (
 Option.bind (av t.kids v17) fun x1=>
 aa k (gZ k t.kind v17) fun r2=>
 aa k (ol hd k (ac x1) r2.1 r2.2 e1_0) fun r3=>
 ab (!r3.1) (
  ret (false,r3.2)) (
   rec0 r3.2 (IntKind.wrap .i64 (v17+1)))) (
 ab (t.kind==15) (
   J1 e1_0 0 1) (
   J1 e1_0 0 0))
noncomputable def ku {S:Type} (hd:cL S) (k:Nat) (ret:Bool×Int→Option S) (t:Tm):Nat→Int→Int→Option S
 |0=>fun _ _=> .none
 |m+1=>fun e1_0 v17=>nE hd k ret t (fun e1_0' v42 more9=>eJ hd k ret t k e1_0' v42 more9) (ku hd k ret t m) e1_0 v17
noncomputable def zw {S:Type} (hd:cL S) (k:Nat) (ret:Bool×Int→Option S) (J0:Int→Int→Option S) (t:Tm) (c1:Int):Option S:=
 J0 c1 0
noncomputable def d9 {S:Type}:Nat→Tm→Int→(Bool×Int→Option S)→Option S
 |0=>fun _ _ _=> .none
 |k+1=>fun t c1 ret=>zw (d9 k) k ret (fun e1_0 v17=>ku (d9 k) k ret t k e1_0 v17) t c1
noncomputable def Hy {S:Type} (k:Nat) (ret:Bool→Option S) (t:Tm) (most:Int):Option S:=
 aa k (lA (d9 k) k (ac t) most) fun r1=>
 ret r1.1
noncomputable def sb {S:Type} (k:Nat) (t:Tm) (most:Int) (ret:Bool→Option S):Option S:=Hy k ret t most
def Hx {S:Type} (k:Nat) (ret:Int→Option S) (t:Tm):Option S:=
 gu k (ac t) 200 fun r1=>
 ab (!r1) (
 ret 62) (
 aa k (sb k (ac t) 20000) fun r2=>
 ab (!r2) (
  ret 221) (
  ret 0))
noncomputable def oj {S:Type} (k:Nat) (t:Tm) (ret:Int→Option S):Option S:=Hx k ret t
def Hr {S:Type} (k:Nat) (ret:Int→Option S) (kind:Int):Option S:=
 ab (kind==1) (
 ret 0) (
 ab (kind==2) (
  ret 0) (
  ab (kind==3) (
  ret 0) (
  ab (kind==19) (
   ret 0) (
   ab (kind==20) (
   ret 0) (
   ab (kind==24) (
    ret 0) (
    ab (kind==25) (
    ret 0) (
    ab (kind==21) (
     ret 0) (
     ab (kind==5) (
     ret 1) (
     ab (kind==9) (
      ret 1) (
      ab (kind==10) (
      ret 1) (
      ab (kind==23) (
       ret 1) (
       ab (kind==12) (
       ret 1) (
       ab (kind==16) (
        ret 1) (
        ab (kind==17) (
        ret 1) (
        ab (kind==18) (
         ret 1) (
         ab (kind==26) (
         ret 1) (
         ab (kind==4) (
          ret 2) (
          ab (kind==7) (
          ret 2) (
          ab (kind==6) (
           ret 2) (
           ab (kind==8) (
           ret 2) (
           ab (kind==14) (
            ret 2) (
            ab (kind==15) (
            ret 2) (
            ab (kind==28) (
             ret 2) (
             ab (kind==11) (
             ret 3) (
             ab (kind==13) (
              ret 3) (
              ab (kind==22) (
              ret 4) (
              ab (kind==27) (
               ret 5) (
               ret (-1)))))))))))))))))))))))))))))
noncomputable def rZ {S:Type} (k:Nat) (kind:Int) (ret:Int→Option S):Option S:=Hr k ret kind
def Hs {S:Type} (k:Nat) (ret:Int→Option S) (kind:Int):Option S:=
 ab (kind==15) (
 ret 1) (
 ab (kind==17) (
  ret 1) (
  ab (kind==18) (
  ret 1) (
  ab (kind==16) (
   ret 2) (
   ret 0))))
noncomputable def i9 {S:Type} (k:Nat) (kind:Int) (ret:Int→Option S):Option S:=Hs k ret kind
def vf {S:Type} (k:Nat) (ret:Bool→Option S) (s:ByteArray) (v8:Int) (x1:UInt8) (rec0:Int→Option S) (letter5:Bool):Option S:=
 ab (!letter5) (
 ab (v8==0) (
  ret false) (
  ab (decide (((x1.toNat:Int):Int)<48)) (
  ret false) (
  ab (decide (((x1.toNat:Int):Int)>57)) (
   ret false) (
     rec0 (IntKind.wrap .i64 (v8+1)))))) (
  rec0 (IntKind.wrap .i64 (v8+1)))
noncomputable def sZ {S:Type} (k:Nat) (ret:Bool→Option S) (rec0:Int→Option S) (s:ByteArray) (v8:Int) (x1:UInt8):Nat→Bool→Option S
 |0=>fun _=> .none
 |_+1=>fun letter5=>vf k ret s v8 x1 rec0 letter5
def nK {S:Type} (k:Nat) (ret:Bool→Option S) (s:ByteArray) (J1:Int→UInt8→Bool→Option S) (rec0:Int→Option S) (v8:Int):Option S:=
 ab (decide ((v8:Int)<(s.size:Int))) (
 Option.bind (av s.data.toList v8) fun x1=>
 ab (decide (((x1.toNat:Int):Int)≥97)) (
  ab (decide (((x1.toNat:Int):Int)≤122)) (
    J1 v8 x1 true) (
  ab (decide (((x1.toNat:Int):Int)≥65)) (
   ab (decide (((x1.toNat:Int):Int)≤90)) (
      J1 v8 x1 true) (
      J1 v8 x1 ((x1.toNat:Int)==95))) (
     J1 v8 x1 ((x1.toNat:Int)==95)))) (
  ab (decide (((x1.toNat:Int):Int)≥65)) (
  ab (decide (((x1.toNat:Int):Int)≤90)) (
     J1 v8 x1 true) (
     J1 v8 x1 ((x1.toNat:Int)==95))) (
    J1 v8 x1 ((x1.toNat:Int)==95)))) (
 ret (!(s==ByteArray.empty)))
noncomputable def kx {S:Type} (k:Nat) (ret:Bool→Option S) (s:ByteArray):Nat→Int→Option S
 |0=>fun _=> .none
 |m+1=>fun v8=>nK k ret s (fun v8 x1 letter5=>sZ k ret (kx k ret s m) s v8 x1 k letter5) (kx k ret s m) v8
noncomputable def zz {S:Type} (k:Nat) (ret:Bool→Option S) (J0:Int→Option S) (s:ByteArray):Option S:=
 J0 0
noncomputable def sa {S:Type} (k:Nat) (s:ByteArray) (ret:Bool→Option S):Option S:=zz k ret (fun v8=>kx k ret s k v8) s
noncomputable def Hh {S:Type} (k:Nat) (ret:Bool→Option S) (s:Int):Option S:=
 ret ((aV .andNot .u32 s 16777215)==0)
noncomputable def ly {S:Type} (k:Nat) (s:Int) (ret:Bool→Option S):Option S:=Hh k ret s
def GC {S:Type} (k:Nat) (ret:Bool→Option S) (c:Cl):Option S:=
 aa k (ly k c.pos) fun r1=>
 ab (r1) (
 aa k (ly k c.neg) fun r2=>
 ret r2) (
 ret false)
noncomputable def nV {S:Type} (k:Nat) (c:Cl) (ret:Bool→Option S):Option S:=GC k ret c
noncomputable def GB {S:Type} (k:Nat) (ret:Cl→Option S) (a b:Cl):Option S:=
 ret (Cl.mk (aV .or .u32 a.pos b.pos) (aV .or .u32 a.neg b.neg))
noncomputable def lq {S:Type} (k:Nat) (a b:Cl) (ret:Cl→Option S):Option S:=GB k ret a b
noncomputable def Gw {S:Type} (k:Nat) (ret:Bool→Option S) (a b:Cl):Option S:=
 aa k (lq k a b) fun r1=>
 ret ((r1.pos==a.pos)&&((r1.neg==a.neg)&&true))
noncomputable def rt {S:Type} (k:Nat) (a b:Cl) (ret:Bool→Option S):Option S:=Gw k ret a b
def Gz {S:Type} (k:Nat) (ret:Bool→Option S) (d c0:Cl):Option S:=
 ab (!((c0.pos==d.pos)&&((c0.neg==d.neg)&&true))) (
 aa k (rt k c0 d) fun r1=>
 ret r1) (
 ret false)
noncomputable def ry {S:Type} (k:Nat) (d c0:Cl) (ret:Bool→Option S):Option S:=Gz k ret d c0
def qP {S:Type} (k:Nat) (ret:Int→Option S) (c0:Cl) (s:List Cl) (rec0:Int→Option S) (v8:Int):Option S:=
 ab (decide ((v8:Int)<(s.length:Int))) (
 Option.bind (av s v8) fun x1=>
 aa k (ry k x1 c0) fun r2=>
 ab (r2) (
  ret v8) (
   rec0 (IntKind.wrap .i64 (v8+1)))) (
 ret (-1))
noncomputable def mj {S:Type} (k:Nat) (ret:Int→Option S) (c0:Cl) (s:List Cl):Nat→Int→Option S
 |0=>fun _=> .none
 |m+1=>fun v8=>qP k ret c0 s (mj k ret c0 s m) v8
noncomputable def zq {S:Type} (k:Nat) (ret:Int→Option S) (J0:Int→Option S) (s:List Cl) (c0:Cl):Option S:=
 J0 0
noncomputable def vR {S:Type} (k:Nat) (s:List Cl) (c0:Cl) (ret:Int→Option S):Option S:=zq k ret (fun v8=>mj k ret c0 s k v8) s c0
noncomputable def Hn {S:Type} (k:Nat) (ret:Bool→Option S) (s:List Cl) (c0:Cl):Option S:=
 aa k (vR k s c0) fun r1=>
 ret (decide ((r1:Int)≥0))
noncomputable def vP {S:Type} (k:Nat) (s:List Cl) (c0:Cl) (ret:Bool→Option S):Option S:=Hn k ret s c0
noncomputable def Gy {S:Type} (k:Nat) (ret:Bool→Option S) (c:Cl) (c0:List Cl):Option S:=
 aa k (vP k c0 c) fun r1=>
 ret r1
noncomputable def rx {S:Type} (k:Nat) (c:Cl) (c0:List Cl) (ret:Bool→Option S):Option S:=Gy k ret c c0
def qf {S:Type} (k:Nat) (ret:List Cl×Int→Option S) (b5_0:List Cl) (rec1:Int→(List Cl)→Option S) (v36:Int) (kept9:List Cl):Option S:=
 ab (decide ((v36:Int)<(b5_0.length:Int))) (
 Option.bind (av b5_0 v36) fun x4=>
 aa k (rx k x4 b5_0) fun r5=>
 ab (!r5) (
  Option.bind (aP 1099511627776 kept9.length [x4].length) fun x6=>
   rec1 (IntKind.wrap .i64 (v36+1)) (kept9++[x4])) (
   rec1 (IntKind.wrap .i64 (v36+1)) kept9)) (
 ab (decide (((kept9.length:Int):Int)>64)) (
  ret (([]:List Cl),3)) (
  ret (sortCl kept9,0)))
noncomputable def kj {S:Type} (k:Nat) (ret:List Cl×Int→Option S) (b5_0:List Cl):Nat→Int→(List Cl)→Option S
 |0=>fun _ _=> .none
 |m+1=>fun v36 kept9=>qf k ret b5_0 (kj k ret b5_0 m) v36 kept9
def nr {S:Type} (k:Nat) (ret:List Cl×Int→Option S) (l:List Cl) (J1:(List Cl)→Int→(List Cl)→Option S) (rec0:(List (Cl×Bool))→(List Cl)→Int→Option S) (b12_0:List (Cl×Bool)) (b5_0:List Cl) (v15:Int):Option S:=
 ab (decide ((v15:Int)<(l.length:Int))) (
 Option.bind (av l v15) fun x1=>
 aa k (nV k x1) fun r2=>
 ab (!r2) (
  ret (([]:List Cl),2)) (
  ab (!((c8 VV ET.C b12_0 x1).getD false)) (
  Option.bind (aP 1099511627776 b5_0.length [x1].length) fun x3=>
    rec0 (ej VV ET.C b12_0 x1 true) (b5_0++[x1]) (IntKind.wrap .i64 (v15+1))) (
    rec0 b12_0 b5_0 (IntKind.wrap .i64 (v15+1))))) (
  J1 b5_0 0 ([]:List Cl))
noncomputable def lU {S:Type} (k:Nat) (ret:List Cl×Int→Option S) (l:List Cl):Nat→(List (Cl×Bool))→(List Cl)→Int→Option S
 |0=>fun _ _ _=> .none
 |m+1=>fun b12_0 b5_0 v15=>nr k ret l (fun b5_0 v36 kept9=>kj k ret b5_0 k v36 kept9) (lU k ret l m) b12_0 b5_0 v15
noncomputable def yN {S:Type} (k:Nat) (ret:List Cl×Int→Option S) (J0:(List (Cl×Bool))→(List Cl)→Int→Option S) (l:List Cl):Option S:=
 J0 ([]:List (Cl×Bool)) ([]:List Cl) 0
noncomputable def fc {S:Type} (k:Nat) (l:List Cl) (ret:List Cl×Int→Option S):Option S:=yN k ret (fun b12_0 b5_0 v15=>lU k ret l k b12_0 b5_0 v15) l
def qO {S:Type} (k:Nat) (ret:Bool→Option S) (s1 s2:List Cl) (rec0:Int→Option S) (v13:Int):Option S:=
 ab (decide ((v13:Int)<(s1.length:Int))) (
 Option.bind (av s1 v13) fun x1=>
 Option.bind (av s2 v13) fun x2=>
 ab (!((x1.pos==x2.pos)&&((x1.neg==x2.neg)&&true))) (
  ret false) (
   rec0 (IntKind.wrap .i64 (v13+1)))) (
 ret true)
noncomputable def mi {S:Type} (k:Nat) (ret:Bool→Option S) (s1 s2:List Cl):Nat→Int→Option S
 |0=>fun _=> .none
 |m+1=>fun v13=>qO k ret s1 s2 (mi k ret s1 s2 m) v13
def zp {S:Type} (k:Nat) (ret:Bool→Option S) (J0:Int→Option S) (s1 s2:List Cl):Option S:=
 ab (!((s1.length:Int)==(s2.length:Int))) (
 ret false) (
  J0 0)
noncomputable def rY {S:Type} (k:Nat) (s1 s2:List Cl) (ret:Bool→Option S):Option S:=zp k ret (fun v13=>mi k ret s1 s2 k v13) s1 s2
def G4 {S:Type} (k:Nat) (ret:Bool→Option S) (f:List Cl):Option S:=
 aa k (fc k f) fun r1=>
 ab (r1.2==0) (
 aa k (rY k r1.1 f) fun r2=>
 ret r2) (
 ret false)
noncomputable def fJ {S:Type} (k:Nat) (f:List Cl) (ret:Bool→Option S):Option S:=G4 k ret f
def Hl {S:Type} (k:Nat) (ret:Bool→Option S) (i:Int):Option S:=
 ab (decide ((i:Int)≥0)) (
 ret (decide ((i:Int)<24))) (
 ret false)
noncomputable def j8 {S:Type} (k:Nat) (i:Int) (ret:Bool→Option S):Option S:=Hl k ret i
def Hj {S:Type} (k:Nat) (ret:Int→Option S) (s i:Int):Option S:=
 aa k (j8 k i) fun r1=>
 ab (!r1) (
 ret (aV .and .u32 s 16777215)) (
 Option.bind (cq (0≤(IntKind.wrap .u64 i))) fun x2=>
 ret (aV .andNot .u32 (aV .and .u32 s 16777215) (IntKind.wrap .u32 (1*2^min (Int.toNat (IntKind.wrap .u64 i)) 32))))
noncomputable def gY {S:Type} (k:Nat) (s i:Int) (ret:Int→Option S):Option S:=Hj k ret s i
def qy {S:Type} (k:Nat) (ret:Int→Option S) (f:List Cl) (rec0:Int→Int→Option S) (s3 v8:Int):Option S:=
 ab (decide ((v8:Int)<(f.length:Int))) (
 Option.bind (av f v8) fun x1=>
  rec0 (aV .or .u32 s3 (aV .or .u32 x1.pos x1.neg)) (IntKind.wrap .i64 (v8+1))) (
 aa k (gY k s3 (-1)) fun r2=>
 ret r2)
noncomputable def l7 {S:Type} (k:Nat) (ret:Int→Option S) (f:List Cl):Nat→Int→Int→Option S
 |0=>fun _ _=> .none
 |m+1=>fun s3 v8=>qy k ret f (l7 k ret f m) s3 v8
noncomputable def y9 {S:Type} (k:Nat) (ret:Int→Option S) (J0:Int→Int→Option S) (f:List Cl):Option S:=
 J0 0 0
noncomputable def j6 {S:Type} (k:Nat) (f:List Cl) (ret:Int→Option S):Option S:=y9 k ret (fun s3 v8=>l7 k ret f k s3 v8) f
def Hz {S:Type} (k:Nat) (ret:Bool→Option S) (f:List Cl) (dims:Int):Option S:=
 ab (decide ((dims:Int)≥24)) (
 ret true) (
 aa k (j6 k f) fun r1=>
 Option.bind (cq (0≤(IntKind.wrap .u64 dims))) fun x2=>
 ret ((Int.fdiv r1 (2^min (Int.toNat (IntKind.wrap .u64 dims)) 32))==0))
noncomputable def i_ {S:Type} (k:Nat) (f:List Cl) (dims:Int) (ret:Bool→Option S):Option S:=Hz k ret f dims
noncomputable def Gx {S:Type} (k:Nat) (ret:Bool→Option S) (c:Cl):Option S:=
 ret (!((aV .and .u32 c.pos c.neg)==0))
noncomputable def nU {S:Type} (k:Nat) (c:Cl) (ret:Bool→Option S):Option S:=Gx k ret c
def qQ {S:Type} (k:Nat) (ret:Int→Option S) (s:List Cl) (rec0:Int→Option S) (v8:Int):Option S:=
 ab (decide ((v8:Int)<(s.length:Int))) (
 Option.bind (av s v8) fun x1=>
 aa k (nU k x1) fun r2=>
 ab (r2) (
  ret v8) (
   rec0 (IntKind.wrap .i64 (v8+1)))) (
 ret (-1))
noncomputable def ml {S:Type} (k:Nat) (ret:Int→Option S) (s:List Cl):Nat→Int→Option S
 |0=>fun _=> .none
 |m+1=>fun v8=>qQ k ret s (ml k ret s m) v8
noncomputable def zr {S:Type} (k:Nat) (ret:Int→Option S) (J0:Int→Option S) (s:List Cl):Option S:=
 J0 0
noncomputable def vS {S:Type} (k:Nat) (s:List Cl) (ret:Int→Option S):Option S:=zr k ret (fun v8=>ml k ret s k v8) s
noncomputable def Ho {S:Type} (k:Nat) (ret:Bool→Option S) (s:List Cl):Option S:=
 aa k (vS k s) fun r1=>
 ret (decide ((r1:Int)≥0))
noncomputable def vQ {S:Type} (k:Nat) (s:List Cl) (ret:Bool→Option S):Option S:=Ho k ret s
def GR {S:Type} (k:Nat) (ret:Bool→Option S) (f:List Cl):Option S:=
 aa k (fJ k f) fun r1=>
 ab (r1) (
 aa k (vQ k f) fun r2=>
 ret (!r2)) (
 ret false)
noncomputable def iW {S:Type} (k:Nat) (f:List Cl) (ret:Bool→Option S):Option S:=GR k ret f
def qW {S:Type} (k:Nat) (ret:Bool→Option S) (t:Tm) (dims:Int) (rec1:Int→Option S) (v109:Int):Option S:=
 ab (decide ((v109:Int)<(t.sys.length:Int))) (
 Option.bind (av t.sys v109) fun x12=>
 aa k (i9 k t.kind) fun r13=>
 ab (!((x12.kids.length:Int)==r13)) (
  ret false) (
  aa k (iW k x12.face) fun r14=>
  ab (!r14) (
  ret false) (
  aa k (i_ k x12.face dims) fun r15=>
  ab (!r15) (
   ret false) (
     rec1 (IntKind.wrap .i64 (v109+1)))))) (
 ret ((t.r.length:Int)==0))
noncomputable def ig {S:Type} (k:Nat) (ret:Bool→Option S) (t:Tm) (dims:Int):Nat→Int→Option S
 |0=>fun _=> .none
 |m+1=>fun v109=>qW k ret t dims (ig k ret t dims m) v109
def nL {S:Type} (k:Nat) (ret:Bool→Option S) (t:Tm) (vars dims:Int) (J1:Int→Option S):Option S:=
 ab (t.kind==1) (
 ab ((t.r.length:Int)==0) (
  ab (decide ((t.n:Int)≥0)) (
  ab (decide ((vars:Int)<0)) (
   ret true) (
   ret (decide ((t.n:Int)<vars)))) (
  ret false)) (
  ret false)) (
 ab (t.kind==2) (
  ab ((t.r.length:Int)==0) (
  aa k (sa k t.name) fun r3=>
  ret r3) (
  ret false)) (
  ab (t.kind==13) (
  aa k (fJ k t.r) fun r4=>
  ab (r4) (
   aa k (i_ k t.r dims) fun r5=>
   ret r5) (
   ret false)) (
  ab (t.kind==21) (
   aa k (fJ k t.r) fun r6=>
   ab (r6) (
   aa k (i_ k t.r dims) fun r7=>
   ret r7) (
   ret false)) (
   ab (t.kind==26) (
   aa k (fJ k t.r) fun r8=>
   ab (r8) (
    aa k (i_ k t.r dims) fun r9=>
    ret r9) (
    ret false)) (
   ab (t.kind==14) (
    aa k (iW k t.r) fun r10=>
    ab (r10) (
    aa k (i_ k t.r dims) fun r11=>
    ret r11) (
    ret false)) (
       J1 0))))))
noncomputable def s8 {S:Type} (k:Nat) (ret:Bool→Option S) (t:Tm) (vars dims:Int):Nat→Option S
 |0=> .none
 |_+1=>nL k ret t vars dims (fun v109=>ig k ret t dims k v109)
def zA {S:Type} (k:Nat) (ret:Bool→Option S) (J0:Option S) (t:Tm) (vars dims:Int):Option S:=
 aa k (rZ k t.kind) fun r1=>
 ab (!(r1==(t.kids.length:Int))) (
 ret false) (
 ab (!(t.kind==1)) (
  ab (!(t.n==0)) (
  ret false) (
  ab (!(t.kind==2)) (
   ab (!(t.name==ByteArray.empty)) (
   ret false) (
   aa k (i9 k t.kind) fun r2=>
   ab (r2==0) (
    ab (decide (((t.sys.length:Int):Int)>0)) (
    ret false) (
        J0)) (
       J0))) (
   aa k (i9 k t.kind) fun r16=>
   ab (r16==0) (
   ab (decide (((t.sys.length:Int):Int)>0)) (
    ret false) (
       J0)) (
      J0)))) (
  ab (!(t.kind==2)) (
  ab (!(t.name==ByteArray.empty)) (
   ret false) (
   aa k (i9 k t.kind) fun r17=>
   ab (r17==0) (
   ab (decide (((t.sys.length:Int):Int)>0)) (
    ret false) (
       J0)) (
      J0))) (
  aa k (i9 k t.kind) fun r18=>
  ab (r18==0) (
   ab (decide (((t.sys.length:Int):Int)>0)) (
   ret false) (
      J0)) (
     J0))))
noncomputable def oh {S:Type} (k:Nat) (t:Tm) (vars dims:Int) (ret:Bool→Option S):Option S:=zA k ret (s8 k ret t vars dims k) t vars dims
abbrev cK (S:Type):=Tm→Int→Int→Bool→(Bool→Option S)→Option S
def Hv {S:Type} (hd:cK S) (k:Nat) (ret:Bool→Option S) (a_k:Tm) (v d c0 c1:Int) (c2:Bool):Option S:=
 ab (decide ((c0:Int)<0)) (
 hd (ac a_k) (IntKind.wrap .i64 (c0+0)) (IntKind.wrap .i64 (c1+d)) c2 fun r1=>
 ret r1) (
 hd (ac a_k) (IntKind.wrap .i64 (c0+v)) (IntKind.wrap .i64 (c1+d)) c2 fun r2=>
 ret r2)
noncomputable def oe {S:Type} (hd:cK S) (k:Nat) (a_k:Tm) (v d c0 c1:Int) (c2:Bool) (ret:Bool→Option S):Option S:=Hv hd k ret a_k v d c0 c1 c2
def qU {S:Type} (hd:cK S) (k:Nat) (ret:Bool→Option S) (c0 c1:Int) (c2:Bool) (t:Tm) (v42:Int) (x4:(Br Tm)) (more9:Int) (rec1:Int→Int→Option S) (rec2:Int→Option S) (v49:Int):Option S:=
 ab (decide ((v49:Int)<(x4.kids.length:Int))) (
 Option.bind (av x4.kids v49) fun x5=>
 aa k (oe hd k (ac x5) 0 more9 c0 c1 c2) fun r6=>
 ab (!r6) (
  ret false) (
   rec2 (IntKind.wrap .i64 (v49+1)))) (
  rec1 (IntKind.wrap .i64 (v42+1)) more9)
noncomputable def ju {S:Type} (hd:cK S) (k:Nat) (ret:Bool→Option S) (rec1:Int→Int→Option S) (c0 c1:Int) (c2:Bool) (t:Tm) (v42:Int) (x4:(Br Tm)) (more9:Int):Nat→Int→Option S
 |0=>fun _=> .none
 |m+1=>fun v49=>qU hd k ret c0 c1 c2 t v42 x4 more9 rec1 (ju hd k ret rec1 c0 c1 c2 t v42 x4 more9 m) v49
def nH {S:Type} (hd:cK S) (k:Nat) (ret:Bool→Option S) (c0 c1:Int) (c2:Bool) (t:Tm) (J2:Int→(Br Tm)→Int→Int→Option S) (rec1:Int→Int→Option S) (v42 more9:Int):Option S:=
 ab (decide ((v42:Int)<(t.sys.length:Int))) (
 Option.bind (av t.sys v42) fun x4=>
  J2 v42 x4 more9 0) (
 ret true)
noncomputable def fQ {S:Type} (hd:cK S) (k:Nat) (ret:Bool→Option S) (c0 c1:Int) (c2:Bool) (t:Tm):Nat→Int→Int→Option S
 |0=>fun _ _=> .none
 |m+1=>fun v42 more9=>nH hd k ret c0 c1 c2 t (fun v42 x4 more9 v49=>ju hd k ret (fQ hd k ret c0 c1 c2 t m) c0 c1 c2 t v42 x4 more9 k v49) (fQ hd k ret c0 c1 c2 t m) v42 more9
def nG {S:Type} (hd:cK S) (k:Nat) (ret:Bool→Option S) (c0 c1:Int) (c2:Bool) (t:Tm) (J1:Int→Int→Option S) (rec0:Int→Option S) (v17:Int):Option S:=
 ab (decide ((v17:Int)<(t.kids.length:Int))) (
 Option.bind (av t.kids v17) fun x1=>
 aa k (gZ k t.kind v17) fun r2=>
 aa k (oe hd k (ac x1) r2.1 r2.2 c0 c1 c2) fun r3=>
 ab (!r3) (
  ret false) (
   rec0 (IntKind.wrap .i64 (v17+1)))) (
 ab (t.kind==15) (
   J1 0 1) (
   J1 0 0))
noncomputable def kw {S:Type} (hd:cK S) (k:Nat) (ret:Bool→Option S) (c0 c1:Int) (c2:Bool) (t:Tm):Nat→Int→Option S
 |0=>fun _=> .none
 |m+1=>fun v17=>nG hd k ret c0 c1 c2 t (fun v42 more9=>fQ hd k ret c0 c1 c2 t k v42 more9) (kw hd k ret c0 c1 c2 t m) v17
noncomputable def zx {S:Type} (hd:cK S) (k:Nat) (ret:Bool→Option S) (J0:Int→Option S) (t:Tm) (c0 c1:Int) (c2:Bool):Option S:=
 J0 0
noncomputable def r_ {S:Type} (hd:cK S) (k:Nat) (t:Tm) (c0 c1:Int) (c2:Bool) (ret:Bool→Option S):Option S:=zx hd k ret (fun v17=>kw hd k ret c0 c1 c2 t k v17) t c0 c1 c2
def Hu {S:Type} (hd:cK S) (k:Nat) (ret:Bool→Option S) (t:Tm) (vars dims:Int) (bound:Bool):Option S:=
 ab (bound) (
 ab (decide ((dims:Int)>24)) (
  ret false) (
  aa k (oh k (ac t) vars dims) fun r1=>
  ab (!r1) (
  ret false) (
  aa k (r_ hd k (ac t) vars dims bound) fun r2=>
  ret r2))) (
 aa k (oh k (ac t) vars dims) fun r3=>
 ab (!r3) (
  ret false) (
  aa k (r_ hd k (ac t) vars dims bound) fun r4=>
  ret r4))
noncomputable def eF {S:Type}:Nat→Tm→Int→Int→Bool→(Bool→Option S)→Option S
 |0=>fun _ _ _ _ _=> .none
 |k+1=>fun t vars dims bound ret=>Hu (eF k) k ret t vars dims bound
def Hq {S:Type} (k:Nat) (ret:Int→Option S) (t:Tm):Option S:=
 aa k (oj k (ac t)) fun r1=>
 ab (!(r1==0)) (
 ret r1) (
 eF k (ac t) (-1) 24 false fun r2=>
 ab (!r2) (
  ret 100) (
  ret 0))
noncomputable def i8 {S:Type} (k:Nat) (t:Tm) (ret:Int→Option S):Option S:=Hq k ret t
def Gr {S:Type} (k:Nat) (ret:Int→Option S) (a_e c0:Int):Option S:=
 ab (c0==0) (
 ret a_e) (
 ret c0)
noncomputable def fb {S:Type} (k:Nat) (a_e c0:Int) (ret:Int→Option S):Option S:=Gr k ret a_e c0
def qe {S:Type} (k:Nat) (ret:Int→Option S) (l:List Tm) (rec0:Int→Int→Option S) (b7_0 v10:Int):Option S:=
 ab (decide ((v10:Int)<(l.length:Int))) (
 Option.bind (av l v10) fun x1=>
 aa k (i8 k (ac x1)) fun r2=>
 aa k (fb k r2 b7_0) fun r3=>
  rec0 r3 (IntKind.wrap .i64 (v10+1))) (
 ret b7_0)
noncomputable def lS {S:Type} (k:Nat) (ret:Int→Option S) (l:List Tm):Nat→Int→Int→Option S
 |0=>fun _ _=> .none
 |m+1=>fun b7_0 v10=>qe k ret l (lS k ret l m) b7_0 v10
noncomputable def yH {S:Type} (k:Nat) (ret:Int→Option S) (J0:Int→Int→Option S) (l:List Tm):Option S:=
 J0 0 0
noncomputable def gn {S:Type} (k:Nat) (l:List Tm) (ret:Int→Option S):Option S:=yH k ret (fun b7_0 v10=>lS k ret l k b7_0 v10) l
noncomputable def dL {S:Type} (k:Nat) (ret:Bool→Option S) (c0:Int):Option S:=
 ret (c0==0)
noncomputable def ca {S:Type} (k:Nat) (c0:Int) (ret:Bool→Option S):Option S:=dL k ret c0
def qE {S:Type} (k:Nat) (ret:Int→Option S) (l:List (List Cl)) (rec0:Int→Option S) (v7:Int):Option S:=
 ab (decide ((v7:Int)<(l.length:Int))) (
 Option.bind (av l v7) fun x1=>
 aa k (fJ k x1) fun r2=>
 ab (!r2) (
  ret 2) (
   rec0 (IntKind.wrap .i64 (v7+1)))) (
 ret 0)
noncomputable def mc {S:Type} (k:Nat) (ret:Int→Option S) (l:List (List Cl)):Nat→Int→Option S
 |0=>fun _=> .none
 |m+1=>fun v7=>qE k ret l (mc k ret l m) v7
noncomputable def zg {S:Type} (k:Nat) (ret:Int→Option S) (J0:Int→Option S) (l:List (List Cl)):Option S:=
 J0 0
noncomputable def lw {S:Type} (k:Nat) (l:List (List Cl)) (ret:Int→Option S):Option S:=zg k ret (fun v7=>mc k ret l k v7) l
noncomputable def za {S:Type} (k:Nat) (ret:List Cl→Option S):Option S:=
 ret ([]:List Cl)
noncomputable def n8 {S:Type} (k:Nat) (ret:List Cl→Option S):Option S:=za k ret
noncomputable def Hk {S:Type} (k:Nat) (ret:Int→Option S) (i:Int):Option S:=
 Option.bind (cq (0≤(IntKind.wrap .u64 (if 24<i then 24 else i)))) fun x1=>
 ret (IntKind.wrap .u32 (IntKind.wrap .u64 ((IntKind.wrap .u64 (1*2^min (Int.toNat (IntKind.wrap .u64 (if 24<i then 24 else i))) 64))-1)))
noncomputable def lz {S:Type} (k:Nat) (i:Int) (ret:Int→Option S):Option S:=Hk k ret i
def uj {S:Type} (k:Nat) (ret:Int×Int→Option S) (s a_from a_by:Int):Option S:=
 ab (decide ((a_from:Int)<0)) (
 ret (0,2)) (
 ab (decide ((a_by:Int)<0)) (
  ret (0,2)) (
  aa k (lz k a_from) fun r1=>
  aa k (lz k a_from) fun r2=>
  ab ((IntKind.wrap .u64 (aV .andNot .u32 (aV .and .u32 s 16777215) r2))==0) (
  ret (aV .and .u32 (aV .and .u32 s 16777215) r1,0)) (
  ab (decide ((a_by:Int)≥24)) (
   ret (0,10)) (
   Option.bind (cq (0≤(IntKind.wrap .u64 a_by))) fun x3=>
   ab (decide ((IntKind.wrap .u64 ((IntKind.wrap .u64 (aV .andNot .u32 (aV .and .u32 s 16777215) r2))*2^min (Int.toNat (IntKind.wrap .u64 a_by)) 64):Int)>16777215)) (
   ret (0,10)) (
   Option.bind (cq (0≤(IntKind.wrap .u64 a_by))) fun x4=>
   ret (aV .or .u32 (aV .and .u32 (aV .and .u32 s 16777215) r1) (IntKind.wrap .u32 (IntKind.wrap .u64 ((IntKind.wrap .u64 (aV .andNot .u32 (aV .and .u32 s 16777215) r2))*2^min (Int.toNat (IntKind.wrap .u64 a_by)) 64))),0))))))
noncomputable def iZ {S:Type} (k:Nat) (s a_from a_by:Int) (ret:Int×Int→Option S):Option S:=uj k ret s a_from a_by
def GA {S:Type} (k:Nat) (ret:Cl×Int→Option S) (c:Cl) (a_from a_by:Int):Option S:=
 aa k (nV k c) fun r1=>
 ab (!r1) (
 ret ((Cl.mk 0 0),2)) (
 aa k (iZ k c.pos a_from a_by) fun r2=>
 ab (!(r2.2==0)) (
  ret ((Cl.mk 0 0),r2.2)) (
  aa k (iZ k c.neg a_from a_by) fun r3=>
  ab (!(r3.2==0)) (
  ret ((Cl.mk 0 0),r3.2)) (
  ret ((Cl.mk r2.1 r3.1),0))))
noncomputable def rz {S:Type} (k:Nat) (c:Cl) (a_from a_by:Int) (ret:Cl×Int→Option S):Option S:=GA k ret c a_from a_by
noncomputable def GY {S:Type} (k:Nat) (ret:List Cl×Int→Option S) (a_have:List Cl) (c:Cl) (c0 c1:Int):Option S:=
 aa k (rz k c c0 c1) fun r1=>
 Option.bind (aP 1099511627776 a_have.length [r1.1].length) fun x2=>
 ret (a_have++[r1.1],r1.2)
noncomputable def vH {S:Type} (k:Nat) (a_have:List Cl) (c:Cl) (c0 c1:Int) (ret:List Cl×Int→Option S):Option S:=GY k ret a_have c c0 c1
def qB {S:Type} (k:Nat) (ret:List Cl×Int→Option S) (c0 c1:Int) (l:List Cl) (rec0:(List Cl)→Int→Option S) (v1:List Cl) (v15:Int):Option S:=
 ab (decide ((v15:Int)<(l.length:Int))) (
 Option.bind (av l v15) fun x1=>
 aa k (vH k v1 x1 c0 c1) fun r2=>
 ab (!(r2.2==0)) (
  ret (([]:List Cl),r2.2)) (
   rec0 r2.1 (IntKind.wrap .i64 (v15+1)))) (
 ret (v1,0))
noncomputable def l_ {S:Type} (k:Nat) (ret:List Cl×Int→Option S) (c0 c1:Int) (l:List Cl):Nat→(List Cl)→Int→Option S
 |0=>fun _ _=> .none
 |m+1=>fun v1 v15=>qB k ret c0 c1 l (l_ k ret c0 c1 l m) v1 v15
noncomputable def zd {S:Type} (k:Nat) (ret:List Cl×Int→Option S) (J0:(List Cl)→Int→Option S) (l a_from:List Cl) (c0 c1:Int):Option S:=
 J0 a_from 0
noncomputable def rQ {S:Type} (k:Nat) (l a_from:List Cl) (c0 c1:Int) (ret:List Cl×Int→Option S):Option S:=zd k ret (fun v1 v15=>l_ k ret c0 c1 l k v1 v15) l a_from c0 c1
def GX {S:Type} (k:Nat) (ret:List Cl×Int→Option S) (f:List Cl) (a_from a_by:Int):Option S:=
 aa k (lw k [f]) fun r1=>
 ab (!(r1==0)) (
 ret (([]:List Cl),r1)) (
 aa k (n8 k) fun r2=>
 aa k (rQ k f r2 a_from a_by) fun r3=>
 ab (!(r3.2==0)) (
  ret (([]:List Cl),r3.2)) (
  aa k (fc k r3.1) fun r4=>
  ret (r4.1,r4.2)))
noncomputable def iX {S:Type} (k:Nat) (f:List Cl) (a_from a_by:Int) (ret:List Cl×Int→Option S):Option S:=GX k ret f a_from a_by
def yL {S:Type} (k:Nat) (ret:List Cl×Int→Option S) (f:List Cl) (c0:Int):Option S:=
 aa k (ca k c0) fun r1=>
 ab (!r1) (
 ret (([]:List Cl),c0)) (
 aa k (iX k f 0 1) fun r2=>
 aa k (fb k r2.2 c0) fun r3=>
 ret (r2.1,r3))
noncomputable def gq {S:Type} (k:Nat) (f:List Cl) (c0:Int) (ret:List Cl×Int→Option S):Option S:=yL k ret f c0
def qx {S:Type} (k:Nat) (ret:Int→Option S) (l:List (List Cl)) (rec0:Int→Option S) (v7:Int):Option S:=
 ab (decide ((v7:Int)<(l.length:Int))) (
 Option.bind (av l v7) fun x1=>
 aa k (iW k x1) fun r2=>
 ab (!r2) (
  ret 2) (
   rec0 (IntKind.wrap .i64 (v7+1)))) (
 ret 0)
noncomputable def l6 {S:Type} (k:Nat) (ret:Int→Option S) (l:List (List Cl)):Nat→Int→Option S
 |0=>fun _=> .none
 |m+1=>fun v7=>qx k ret l (l6 k ret l m) v7
noncomputable def y8 {S:Type} (k:Nat) (ret:Int→Option S) (J0:Int→Option S) (l:List (List Cl)):Option S:=
 J0 0
noncomputable def rL {S:Type} (k:Nat) (l:List (List Cl)) (ret:Int→Option S):Option S:=y8 k ret (fun v7=>l6 k ret l k v7) l
noncomputable def GU {S:Type} (k:Nat) (ret:List Cl×Int→Option S) (f g:List Cl):Option S:=
 Option.bind (aP 1099511627776 ([]:List Cl).length f.length) fun x1=>
 Option.bind (aP 1099511627776 (([]:List Cl)++f).length g.length) fun x2=>
 aa k (fc k ((([]:List Cl)++f)++g)) fun r3=>
 ret (r3.1,r3.2)
noncomputable def n5 {S:Type} (k:Nat) (f g:List Cl) (ret:List Cl×Int→Option S):Option S:=GU k ret f g
def GO {S:Type} (k:Nat) (ret:List Cl×Int→Option S) (f g:List Cl):Option S:=
 aa k (rL k [f,g]) fun r1=>
 ab (!(r1==0)) (
 ret (([]:List Cl),r1)) (
 aa k (n5 k f g) fun r2=>
 ret (r2.1,r2.2))
noncomputable def rE {S:Type} (k:Nat) (f g:List Cl) (ret:List Cl×Int→Option S):Option S:=GO k ret f g
def yK {S:Type} (k:Nat) (ret:List Cl×Int→Option S) (f g:List Cl) (c0:Int):Option S:=
 aa k (ca k c0) fun r1=>
 ab (!r1) (
 ret (([]:List Cl),c0)) (
 aa k (rE k f g) fun r2=>
 aa k (fb k r2.2 c0) fun r3=>
 ret (r2.1,r3))
noncomputable def iV {S:Type} (k:Nat) (f g:List Cl) (c0:Int) (ret:List Cl×Int→Option S):Option S:=yK k ret f g c0
def He {S:Type} (k:Nat) (ret:Pan Int (List Cl)→Option S) (l_0 l_1:Int) (f:List Cl) (a_from:Int):Option S:=
 ab (l_1==0) (
 Option.bind (aP 1099511627776 0 f.length) fun x1=>
 ret (.ok f)) (
 ab (decide ((a_from:Int)≥24)) (
  Option.bind (aP 1099511627776 0 f.length) fun x2=>
  ret (.ok f)) (
  aa k (iX k f a_from l_1) fun r3=>
  ab (!(r3.2==0)) (
  ret (.pan r3.2)) (
  ret (.ok r3.1))))
noncomputable def oa {S:Type} (k:Nat) (l_0 l_1:Int) (f:List Cl) (a_from:Int) (ret:Pan Int (List Cl)→Option S):Option S:=He k ret l_0 l_1 f a_from
abbrev eC (S:Type):=Int→Int→Tm→Int→Int→(Pan Int Tm→Option S)→Option S
def qM {S:Type} (hd:eC S) (k:Nat) (ret:Pan Int Tm→Option S) (r12:List Cl) (l_0 l_1:Int) (t:Tm) (b9_1:Int) (r2:List Cl) (b9_4:List Tm) (b9_5:List (Br Tm)) (x10:(Br Tm)) (more14 v d v90:Int) (rec2:(List (Br Tm))→Int→Int→Option S) (rec3:(List Tm)→Int→Option S) (b17_1:List Tm) (v103:Int):Option S:=
 ab (decide ((v103:Int)<(x10.kids.length:Int))) (
 Option.bind (av x10.kids v103) fun x14=>
 hd l_0 l_1 (ac x14) v (IntKind.wrap .i64 (d+more14)) fun r16=>Pan.elim r16 (fun r16=>
  Option.bind (aP 1099511627776 b17_1.length [(ac r16)].length) fun x18=>
   rec3 (b17_1++[(ac r16)]) (IntKind.wrap .i64 (v103+1))) (fun e17=>
  ret (.pan e17))) (
 Option.bind (aP 1099511627776 b9_5.length [(Br.mk r12 b17_1)].length) fun x19=>
  rec2 (b9_5++[(Br.mk r12 b17_1)]) more14 (IntKind.wrap .i64 (v90+1)))
noncomputable def jt {S:Type} (hd:eC S) (k:Nat) (ret:Pan Int Tm→Option S) (rec2:(List (Br Tm))→Int→Int→Option S) (r12:List Cl) (l_0 l_1:Int) (t:Tm) (b9_1:Int) (r2:List Cl) (b9_4:List Tm) (b9_5:List (Br Tm)) (x10:(Br Tm)) (more14 v d v90:Int):Nat→(List Tm)→Int→Option S
 |0=>fun _ _=> .none
 |m+1=>fun b17_1 v103=>qM hd k ret r12 l_0 l_1 t b9_1 r2 b9_4 b9_5 x10 more14 v d v90 rec2 (jt hd k ret rec2 r12 l_0 l_1 t b9_1 r2 b9_4 b9_5 x10 more14 v d v90 m) b17_1 v103
def nB {S:Type} (hd:eC S) (k:Nat) (ret:Pan Int Tm→Option S) (l_0 l_1:Int) (t:Tm) (b9_1:Int) (r2:List Cl) (b9_4:List Tm) (v d:Int) (J3:(List Cl)→(List (Br Tm))→(Br Tm)→Int→Int→(List Tm)→Int→Option S) (rec2:(List (Br Tm))→Int→Int→Option S) (b9_5:List (Br Tm)) (more14 v90:Int):Option S:=
 ab (decide ((v90:Int)<(t.sys.length:Int))) (
 Option.bind (av t.sys v90) fun x10=>
 aa k (oa k l_0 l_1 x10.face d) fun r12=>Pan.elim r12 (fun r12=>
   J3 r12 b9_5 x10 more14 v90 ([]:List Tm) 0) (fun e13=>
  ret (.pan e13))) (
 ret (.ok (Tm.mk t.kind b9_1 t.name r2 b9_4 b9_5)))
noncomputable def ef {S:Type} (hd:eC S) (k:Nat) (ret:Pan Int Tm→Option S) (l_0 l_1:Int) (t:Tm) (b9_1:Int) (r2:List Cl) (b9_4:List Tm) (v d:Int):Nat→(List (Br Tm))→Int→Int→Option S
 |0=>fun _ _ _=> .none
 |m+1=>fun b9_5 more14 v90=>nB hd k ret l_0 l_1 t b9_1 r2 b9_4 v d (fun r12 b9_5 x10 more14 v90 b17_1 v103=>jt hd k ret (ef hd k ret l_0 l_1 t b9_1 r2 b9_4 v d m) r12 l_0 l_1 t b9_1 r2 b9_4 b9_5 x10 more14 v d v90 k b17_1 v103) (ef hd k ret l_0 l_1 t b9_1 r2 b9_4 v d m) b9_5 more14 v90
def nA {S:Type} (hd:eC S) (k:Nat) (ret:Pan Int Tm→Option S) (l_0 l_1:Int) (t:Tm) (b9_1:Int) (r2:List Cl) (v d:Int) (J2:(List Tm)→(List (Br Tm))→Int→Int→Option S) (rec1:(List Tm)→Int→Option S) (b9_4:List Tm) (v57:Int):Option S:=
 ab (decide ((v57:Int)<(t.kids.length:Int))) (
 Option.bind (av t.kids v57) fun x4=>
 aa k (gZ k t.kind v57) fun r5=>
 hd l_0 l_1 (ac x4) (IntKind.wrap .i64 (v+r5.1)) (IntKind.wrap .i64 (d+r5.2)) fun r7=>Pan.elim r7 (fun r7=>
  Option.bind (aP 1099511627776 b9_4.length [(ac r7)].length) fun x9=>
   rec1 (b9_4++[(ac r7)]) (IntKind.wrap .i64 (v57+1))) (fun e8=>
  ret (.pan e8))) (
 ab (t.kind==15) (
   J2 b9_4 ([]:List (Br Tm)) 1 0) (
   J2 b9_4 ([]:List (Br Tm)) 0 0))
noncomputable def ic {S:Type} (hd:eC S) (k:Nat) (ret:Pan Int Tm→Option S) (l_0 l_1:Int) (t:Tm) (b9_1:Int) (r2:List Cl) (v d:Int):Nat→(List Tm)→Int→Option S
 |0=>fun _ _=> .none
 |m+1=>fun b9_4 v57=>nA hd k ret l_0 l_1 t b9_1 r2 v d (fun b9_4 b9_5 more14 v90=>ef hd k ret l_0 l_1 t b9_1 r2 b9_4 v d k b9_5 more14 v90) (ic hd k ret l_0 l_1 t b9_1 r2 v d m) b9_4 v57
noncomputable def ve {S:Type} (hd:eC S) (k:Nat) (ret:Pan Int Tm→Option S) (l_0 l_1:Int) (t:Tm) (r2:List Cl) (v d:Int) (J1:Int→(List Tm)→Int→Option S) (b9_1:Int):Option S:=
 J1 b9_1 ([]:List Tm) 0
noncomputable def oJ {S:Type} (hd:eC S) (k:Nat) (ret:Pan Int Tm→Option S) (l_0 l_1:Int) (t:Tm) (r2:List Cl) (v d:Int):Nat→Int→Option S
 |0=>fun _=> .none
 |_+1=>fun b9_1=>ve hd k ret l_0 l_1 t r2 v d (fun b9_1 b9_4 v57=>ic hd k ret l_0 l_1 t b9_1 r2 v d k b9_4 v57) b9_1
def zm {S:Type} (hd:eC S) (k:Nat) (ret:Pan Int Tm→Option S) (J0:(List Cl)→Int→Option S) (l_0 l_1:Int) (t:Tm) (v d:Int):Option S:=
 aa k (oa k l_0 l_1 t.r d) fun r2=>Pan.elim r2 (fun r2=>
 ab (t.kind==1) (
  ab (decide ((t.n:Int)≥v)) (
  ab (decide ((t.n:Int)>(IntKind.wrap .i64 (1000000000-l_0)))) (
   ret (.pan 100)) (
     J0 r2 (IntKind.wrap .i64 (t.n+l_0)))) (
    J0 r2 t.n)) (
   J0 r2 t.n)) (fun e3=>
 ret (.pan e3))
noncomputable def cZ {S:Type}:Nat→Int→Int→Tm→Int→Int→(Pan Int Tm→Option S)→Option S
 |0=>fun _ _ _ _ _ _=> .none
 |k+1=>fun l_0 l_1 t v d ret=>zm (cZ k) k ret (fun r2 b9_1=>oJ (cZ k) k ret l_0 l_1 t r2 v d k b9_1) l_0 l_1 t v d
noncomputable def Hc {S:Type} (k:Nat) (ret:Pan Int Tm→Option S) (c0:Int) (c1:Tm) (c2:Int):Option S:=
 cZ k 0 c0 (ac c1) 0 (if 24<c2 then 24 else c2) fun r2=>Pan.elim r2 (fun r2=>
 ret (.ok (ac r2))) (fun e3=>
 ret (.pan e3))
noncomputable def rX {S:Type} (k:Nat) (c0:Int) (c1:Tm) (c2:Int) (ret:Pan Int Tm→Option S):Option S:=Hc k ret c0 c1 c2
def qK {S:Type} (k:Nat) (ret:Tm×Int→Option S) (c0:Int) (c1:Tm) (c2:Int) (numbers:List Int) (rec0:Int→Option S) (v19:Int):Option S:=
 ab (decide ((v19:Int)<(numbers.length:Int))) (
 Option.bind (av numbers v19) fun x2=>
 ab (decide ((x2:Int)<0)) (
  ret ((Tm.mk 0 0 ByteArray.empty [] [] []),2)) (
   rec0 (IntKind.wrap .i64 (v19+1)))) (
 aa k (rX k c0 (ac c1) c2) fun r4=>Pan.elim r4 (fun r4=>
  ret ((ac r4),0)) (fun e5=>
  ret ((Tm.mk 0 0 ByteArray.empty [] [] []),e5)))
noncomputable def ko {S:Type} (k:Nat) (ret:Tm×Int→Option S) (c0:Int) (c1:Tm) (c2:Int) (numbers:List Int):Nat→Int→Option S
 |0=>fun _=> .none
 |m+1=>fun v19=>qK k ret c0 c1 c2 numbers (ko k ret c0 c1 c2 numbers m) v19
def zk {S:Type} (k:Nat) (ret:Tm×Int→Option S) (J0:Int→Option S) (t:Tm) (numbers:List Int) (c0:Int) (c1:Tm) (c2:Int):Option S:=
 aa k (i8 k (ac t)) fun r1=>
 ab (!(r1==0)) (
 ret ((Tm.mk 0 0 ByteArray.empty [] [] []),r1)) (
  J0 0)
noncomputable def vL {S:Type} (k:Nat) (t:Tm) (numbers:List Int) (c0:Int) (c1:Tm) (c2:Int) (ret:Tm×Int→Option S):Option S:=zk k ret (fun v19=>ko k ret c0 c1 c2 numbers k v19) t numbers c0 c1 c2
noncomputable def Hb {S:Type} (k:Nat) (ret:Tm×Int→Option S) (t:Tm) (a_from a_by:Int):Option S:=
 aa k (vL k (ac t) [a_from,a_by] a_by (ac t) a_from) fun r1=>
 ret ((ac r1.1),r1.2)
noncomputable def rW {S:Type} (k:Nat) (t:Tm) (a_from a_by:Int) (ret:Tm×Int→Option S):Option S:=Hb k ret t a_from a_by
def Hi {S:Type} (k:Nat) (ret:Int→Option S) (s i:Int):Option S:=
 aa k (j8 k i) fun r1=>
 ab (!r1) (
 ret (aV .and .u32 s 16777215)) (
 Option.bind (cq (0≤(IntKind.wrap .u64 i))) fun x2=>
 ret (aV .or .u32 (aV .and .u32 s 16777215) (IntKind.wrap .u32 (1*2^min (Int.toNat (IntKind.wrap .u64 i)) 32))))
noncomputable def gr {S:Type} (k:Nat) (s i:Int) (ret:Int→Option S):Option S:=Hi k ret s i
noncomputable def Uk {S:Type} (k:Nat) (ret:Int→Option S) (a_x:Int):Option S:=
 Option.bind (av (ByteArray.mk #[0,1,1,2,1,2,2,3,1,2,2,3,2,3,3,4,1,2,2,3,2,3,3,4,2,3,3,4,3,4,4,5,1,2,2,3,2,3,3,4,2,3,3,4,3,4,4,5,2,3,3,4,3,4,4,5,3,4,4,5,4,5,5,6,1,2,2,3,2,3,3,4,2,3,3,4,3,4,4,5,2,3,3,4,3,4,4,5,3,4,4,5,4,5,5,6,2,3,3,4,3,4,4,5,3,4,4,5,4,5,5,6,3,4,4,5,4,5,5,6,4,5,5,6,5,6,6,7,1,2,2,3,2,3,3,4,2,3,3,4,3,4,4,5,2,3,3,4,3,4,4,5,3,4,4,5,4,5,5,6,2,3,3,4,3,4,4,5,3,4,4,5,4,5,5,6,3,4,4,5,4,5,5,6,4,5,5,6,5,6,6,7,2,3,3,4,3,4,4,5,3,4,4,5,4,5,5,6,3,4,4,5,4,5,5,6,4,5,5,6,5,6,6,7,3,4,4,5,4,5,5,6,4,5,5,6,5,6,6,7,4,5,5,6,5,6,6,7,5,6,6,7,6,7,7,8]).data.toList (Int.fdiv a_x (2^min (Int.toNat 24) 32))) fun x1=>
 Option.bind (av (ByteArray.mk #[0,1,1,2,1,2,2,3,1,2,2,3,2,3,3,4,1,2,2,3,2,3,3,4,2,3,3,4,3,4,4,5,1,2,2,3,2,3,3,4,2,3,3,4,3,4,4,5,2,3,3,4,3,4,4,5,3,4,4,5,4,5,5,6,1,2,2,3,2,3,3,4,2,3,3,4,3,4,4,5,2,3,3,4,3,4,4,5,3,4,4,5,4,5,5,6,2,3,3,4,3,4,4,5,3,4,4,5,4,5,5,6,3,4,4,5,4,5,5,6,4,5,5,6,5,6,6,7,1,2,2,3,2,3,3,4,2,3,3,4,3,4,4,5,2,3,3,4,3,4,4,5,3,4,4,5,4,5,5,6,2,3,3,4,3,4,4,5,3,4,4,5,4,5,5,6,3,4,4,5,4,5,5,6,4,5,5,6,5,6,6,7,2,3,3,4,3,4,4,5,3,4,4,5,4,5,5,6,3,4,4,5,4,5,5,6,4,5,5,6,5,6,6,7,3,4,4,5,4,5,5,6,4,5,5,6,5,6,6,7,4,5,5,6,5,6,6,7,5,6,6,7,6,7,7,8]).data.toList (aV .and .u32 (Int.fdiv a_x (2^min (Int.toNat 16) 32)) 255)) fun x2=>
 Option.bind (av (ByteArray.mk #[0,1,1,2,1,2,2,3,1,2,2,3,2,3,3,4,1,2,2,3,2,3,3,4,2,3,3,4,3,4,4,5,1,2,2,3,2,3,3,4,2,3,3,4,3,4,4,5,2,3,3,4,3,4,4,5,3,4,4,5,4,5,5,6,1,2,2,3,2,3,3,4,2,3,3,4,3,4,4,5,2,3,3,4,3,4,4,5,3,4,4,5,4,5,5,6,2,3,3,4,3,4,4,5,3,4,4,5,4,5,5,6,3,4,4,5,4,5,5,6,4,5,5,6,5,6,6,7,1,2,2,3,2,3,3,4,2,3,3,4,3,4,4,5,2,3,3,4,3,4,4,5,3,4,4,5,4,5,5,6,2,3,3,4,3,4,4,5,3,4,4,5,4,5,5,6,3,4,4,5,4,5,5,6,4,5,5,6,5,6,6,7,2,3,3,4,3,4,4,5,3,4,4,5,4,5,5,6,3,4,4,5,4,5,5,6,4,5,5,6,5,6,6,7,3,4,4,5,4,5,5,6,4,5,5,6,5,6,6,7,4,5,5,6,5,6,6,7,5,6,6,7,6,7,7,8]).data.toList (aV .and .u32 (Int.fdiv a_x (2^min (Int.toNat 8) 32)) 255)) fun x3=>
 Option.bind (av (ByteArray.mk #[0,1,1,2,1,2,2,3,1,2,2,3,2,3,3,4,1,2,2,3,2,3,3,4,2,3,3,4,3,4,4,5,1,2,2,3,2,3,3,4,2,3,3,4,3,4,4,5,2,3,3,4,3,4,4,5,3,4,4,5,4,5,5,6,1,2,2,3,2,3,3,4,2,3,3,4,3,4,4,5,2,3,3,4,3,4,4,5,3,4,4,5,4,5,5,6,2,3,3,4,3,4,4,5,3,4,4,5,4,5,5,6,3,4,4,5,4,5,5,6,4,5,5,6,5,6,6,7,1,2,2,3,2,3,3,4,2,3,3,4,3,4,4,5,2,3,3,4,3,4,4,5,3,4,4,5,4,5,5,6,2,3,3,4,3,4,4,5,3,4,4,5,4,5,5,6,3,4,4,5,4,5,5,6,4,5,5,6,5,6,6,7,2,3,3,4,3,4,4,5,3,4,4,5,4,5,5,6,3,4,4,5,4,5,5,6,4,5,5,6,5,6,6,7,3,4,4,5,4,5,5,6,4,5,5,6,5,6,6,7,4,5,5,6,5,6,6,7,5,6,6,7,6,7,7,8]).data.toList (aV .and .u32 a_x 255)) fun x4=>
 ret (IntKind.wrap .i64 (IntKind.wrap .u8 ((IntKind.wrap .u8 ((IntKind.wrap .u8 ((x1.toNat:Int)+(x2.toNat:Int)))+(x3.toNat:Int)))+(x4.toNat:Int))))
noncomputable def As {S:Type} (k:Nat) (a_x:Int) (ret:Int→Option S):Option S:=Uk k ret a_x
noncomputable def zn {S:Type} (k:Nat) (ret:Int→Option S) (s:Int):Option S:=
 aa k (As k (aV .and .u32 s 16777215)) fun r1=>
 ret r1
noncomputable def iY {S:Type} (k:Nat) (s:Int) (ret:Int→Option S):Option S:=zn k ret s
noncomputable def GE {S:Type} (k:Nat) (ret:Bool→Option S) (i:Int):Option S:=
 aa k (gr k 0 i) fun r1=>
 aa k (iY k r1) fun r2=>
 ret (r2==1)
noncomputable def rA {S:Type} (k:Nat) (i:Int) (ret:Bool→Option S):Option S:=GE k ret i
def GN {S:Type} (k:Nat) (ret:Int→Option S) (t:Tm) (i:Int) (a_r:List Cl):Option S:=
 aa k (i8 k (ac t)) fun r1=>
 ab (!(r1==0)) (
 ret r1) (
 aa k (rA k i) fun r2=>
 ab (!r2) (
  ret 2) (
  aa k (fJ k a_r) fun r3=>
  ab (!r3) (
  ret 2) (
  ret 0)))
noncomputable def vG {S:Type} (k:Nat) (t:Tm) (i:Int) (a_r:List Cl) (ret:Int→Option S):Option S:=GN k ret t i a_r
noncomputable def GJ {S:Type} (k:Nat) (ret:Unit→Option S) (c0:Int) (c1:List Cl):Option S:=
 ret ()
noncomputable def vA {S:Type} (k:Nat) (c0:Int) (c1:List Cl) (ret:Unit→Option S):Option S:=GJ k ret c0 c1
noncomputable def GK {S:Type} (k:Nat) (ret:Unit→Option S) (c0:Int) (c1:List Cl):Option S:=
 ret ()
noncomputable def vB {S:Type} (k:Nat) (c0:Int) (c1:List Cl) (ret:Unit→Option S):Option S:=GK k ret c0 c1
noncomputable def GG {S:Type} (k:Nat) (ret:Int×List Cl→Option S) (i:Int) (a_r:List Cl):Option S:=
 aa k (vA k i a_r) fun r1=>
 aa k (vB k i a_r) fun r2=>
 ret (i,a_r)
noncomputable def vz {S:Type} (k:Nat) (i:Int) (a_r:List Cl) (ret:Int×List Cl→Option S):Option S:=GG k ret i a_r
def Hg {S:Type} (k:Nat) (ret:Bool→Option S) (s i:Int):Option S:=
 aa k (j8 k i) fun r1=>
 ab (r1) (
 Option.bind (cq (0≤(IntKind.wrap .u64 i))) fun x2=>
 ret ((aV .and .u32 (Int.fdiv s (2^min (Int.toNat (IntKind.wrap .u64 i)) 32)) 1)==1)) (
 ret false)
noncomputable def fK {S:Type} (k:Nat) (s i:Int) (ret:Bool→Option S):Option S:=Hg k ret s i
noncomputable def yP {S:Type} (k:Nat) (ret:List Cl→Option S) (f:List Cl):Option S:=
 Option.bind (aP 1099511627776 0 f.length) fun x1=>
 ret f
noncomputable def nW {S:Type} (k:Nat) (f:List Cl) (ret:List Cl→Option S):Option S:=yP k ret f
noncomputable def GT {S:Type} (k:Nat) (ret:Bool→Option S) (i:Int):Option S:=
 aa k (gr k 0 i) fun r1=>
 aa k (iY k r1) fun r2=>
 ret (r2==1)
noncomputable def rH {S:Type} (k:Nat) (i:Int) (ret:Bool→Option S):Option S:=GT k ret i
noncomputable def GS {S:Type} (k:Nat) (ret:Cl×Bool→Option S) (c:Cl):Option S:=
 aa k (nU k c) fun r1=>
 ret (c,!r1)
noncomputable def n4 {S:Type} (k:Nat) (c:Cl) (ret:Cl×Bool→Option S):Option S:=GS k ret c
def qv {S:Type} (k:Nat) (ret:List Cl→Option S) (l:List Cl) (rec0:Int→(List Cl)→Option S) (v12:Int) (out5:List Cl):Option S:=
 ab (decide ((v12:Int)<(l.length:Int))) (
 Option.bind (av l v12) fun x1=>
 aa k (n4 k x1) fun r2=>
 ab (r2.2) (
  Option.bind (aP 1099511627776 out5.length [r2.1].length) fun x3=>
   rec0 (IntKind.wrap .i64 (v12+1)) (out5++[r2.1])) (
   rec0 (IntKind.wrap .i64 (v12+1)) out5)) (
 ret out5)
noncomputable def lY {S:Type} (k:Nat) (ret:List Cl→Option S) (l:List Cl):Nat→Int→(List Cl)→Option S
 |0=>fun _ _=> .none
 |m+1=>fun v12 out5=>qv k ret l (lY k ret l m) v12 out5
noncomputable def y6 {S:Type} (k:Nat) (ret:List Cl→Option S) (J0:Int→(List Cl)→Option S) (l:List Cl):Option S:=
 J0 0 ([]:List Cl)
noncomputable def rJ {S:Type} (k:Nat) (l:List Cl) (ret:List Cl→Option S):Option S:=y6 k ret (fun v12 out5=>lY k ret l k v12 out5) l
def GP {S:Type} (k:Nat) (ret:List Cl×Int→Option S) (f:List Cl):Option S:=
 aa k (fJ k f) fun r1=>
 ab (!r1) (
 ret (([]:List Cl),2)) (
 aa k (rJ k f) fun r2=>
 aa k (fc k r2) fun r3=>
 ret (r3.1,r3.2))
noncomputable def n1 {S:Type} (k:Nat) (f:List Cl) (ret:List Cl×Int→Option S):Option S:=GP k ret f
noncomputable def GV {S:Type} (k:Nat) (ret:Cl×Bool→Option S) (b c0:Cl):Option S:=
 aa k (lq k c0 b) fun r1=>
 aa k (n4 k r1) fun r2=>
 ret (r2.1,r2.2)
noncomputable def rK {S:Type} (k:Nat) (b c0:Cl) (ret:Cl×Bool→Option S):Option S:=GV k ret b c0
def qu {S:Type} (k:Nat) (ret:List Cl→Option S) (c0:Cl) (l:List Cl) (rec0:Int→(List Cl)→Option S) (v12:Int) (out5:List Cl):Option S:=
 ab (decide ((v12:Int)<(l.length:Int))) (
 Option.bind (av l v12) fun x1=>
 aa k (rK k x1 c0) fun r2=>
 ab (r2.2) (
  Option.bind (aP 1099511627776 out5.length [r2.1].length) fun x3=>
   rec0 (IntKind.wrap .i64 (v12+1)) (out5++[r2.1])) (
   rec0 (IntKind.wrap .i64 (v12+1)) out5)) (
 ret out5)
noncomputable def lX {S:Type} (k:Nat) (ret:List Cl→Option S) (c0:Cl) (l:List Cl):Nat→Int→(List Cl)→Option S
 |0=>fun _ _=> .none
 |m+1=>fun v12 out5=>qu k ret c0 l (lX k ret c0 l m) v12 out5
noncomputable def yZ {S:Type} (k:Nat) (ret:List Cl→Option S) (J0:Int→(List Cl)→Option S) (l:List Cl) (c0:Cl):Option S:=
 J0 0 ([]:List Cl)
noncomputable def rI {S:Type} (k:Nat) (l:List Cl) (c0:Cl) (ret:List Cl→Option S):Option S:=yZ k ret (fun v12 out5=>lX k ret c0 l k v12 out5) l c0
def qw {S:Type} (k:Nat) (ret:List Cl×Int→Option S) (g f:List Cl) (rec0:Int→(List Cl)→Option S) (v11:Int) (out6:List Cl):Option S:=
 ab (decide ((v11:Int)<(f.length:Int))) (
 Option.bind (av f v11) fun x1=>
 aa k (rI k g x1) fun r2=>
 Option.bind (aP 1099511627776 out6.length r2.length) fun x3=>
  rec0 (IntKind.wrap .i64 (v11+1)) (out6++r2)) (
 aa k (fc k out6) fun r4=>
 ret (r4.1,r4.2))
noncomputable def lZ {S:Type} (k:Nat) (ret:List Cl×Int→Option S) (g f:List Cl):Nat→Int→(List Cl)→Option S
 |0=>fun _ _=> .none
 |m+1=>fun v11 out6=>qw k ret g f (lZ k ret g f m) v11 out6
noncomputable def y7 {S:Type} (k:Nat) (ret:List Cl×Int→Option S) (J0:Int→(List Cl)→Option S) (f g:List Cl):Option S:=
 J0 0 ([]:List Cl)
noncomputable def lu {S:Type} (k:Nat) (f g:List Cl) (ret:List Cl×Int→Option S):Option S:=y7 k ret (fun v11 out6=>lZ k ret g f k v11 out6) f g
noncomputable def y_ {S:Type} (k:Nat) (ret:List Cl→Option S):Option S:=
 ret [(Cl.mk 0 0)]
noncomputable def n7 {S:Type} (k:Nat) (ret:List Cl→Option S):Option S:=y_ k ret
def qD {S:Type} (k:Nat) (ret:List Cl×Int→Option S) (r5:List Int) (rec1:Int→(List Cl)→Option S) (v28:Int) (out4':List Cl):Option S:=
 ab (decide ((v28:Int)<(r5.length:Int))) (
 Option.bind (av r5 v28) fun x6=>
 aa k (gr k 0 x6) fun r7=>
 Option.bind (aP 1099511627776 out4'.length [(Cl.mk r7 0)].length) fun x8=>
  rec1 (IntKind.wrap .i64 (v28+1)) (out4'++[(Cl.mk r7 0)])) (
 aa k (fc k out4') fun r9=>
 ret (r9.1,r9.2))
noncomputable def km {S:Type} (k:Nat) (ret:List Cl×Int→Option S) (r5:List Int):Nat→Int→(List Cl)→Option S
 |0=>fun _ _=> .none
 |m+1=>fun v28 out4'=>qD k ret r5 (km k ret r5 m) v28 out4'
def nx {S:Type} (k:Nat) (ret:List Cl×Int→Option S) (c:Cl) (r1:List Int) (J1:(List Int)→Int→(List Cl)→Option S) (rec0:Int→(List Cl)→Option S) (v13:Int) (out4:List Cl):Option S:=
 ab (decide ((v13:Int)<(r1.length:Int))) (
 Option.bind (av r1 v13) fun x2=>
 aa k (gr k 0 x2) fun r3=>
 Option.bind (aP 1099511627776 out4.length [(Cl.mk 0 r3)].length) fun x4=>
  rec0 (IntKind.wrap .i64 (v13+1)) (out4++[(Cl.mk 0 r3)])) (
 pf c.neg fun r5=>
  J1 r5 0 out4)
noncomputable def mb {S:Type} (k:Nat) (ret:List Cl×Int→Option S) (c:Cl) (r1:List Int):Nat→Int→(List Cl)→Option S
 |0=>fun _ _=> .none
 |m+1=>fun v13 out4=>nx k ret c r1 (fun r5 v28 out4'=>km k ret r5 k v28 out4') (mb k ret c r1 m) v13 out4
noncomputable def zf {S:Type} (k:Nat) (ret:List Cl×Int→Option S) (J0:(List Int)→Int→(List Cl)→Option S) (c:Cl):Option S:=
 pf c.pos fun r1=>
 J0 r1 0 ([]:List Cl)
noncomputable def rS {S:Type} (k:Nat) (c:Cl) (ret:List Cl×Int→Option S):Option S:=zf k ret (fun r1 v13 out4=>mb k ret c r1 k v13 out4) c
def qC {S:Type} (k:Nat) (ret:List Cl×Int→Option S) (x1:Cl) (g f:List Cl) (v13:Int) (rec0:Int→(List Cl)→Option S) (rec1:Int→(List Cl)→Option S) (v19:Int) (out6':List Cl):Option S:=
 ab (decide ((v19:Int)<(g.length:Int))) (
 Option.bind (av g v19) fun x2=>
 aa k (lq k x1 x2) fun r3=>
 Option.bind (aP 1099511627776 out6'.length [r3].length) fun x4=>
  rec1 (IntKind.wrap .i64 (v19+1)) (out6'++[r3])) (
  rec0 (IntKind.wrap .i64 (v13+1)) out6')
noncomputable def kl {S:Type} (k:Nat) (ret:List Cl×Int→Option S) (rec0:Int→(List Cl)→Option S) (x1:Cl) (g f:List Cl) (v13:Int):Nat→Int→(List Cl)→Option S
 |0=>fun _ _=> .none
 |m+1=>fun v19 out6'=>qC k ret x1 g f v13 rec0 (kl k ret rec0 x1 g f v13 m) v19 out6'
def nw {S:Type} (k:Nat) (ret:List Cl×Int→Option S) (g f:List Cl) (J1:Cl→Int→Int→(List Cl)→Option S) (rec0:Int→(List Cl)→Option S) (v13:Int) (out6:List Cl):Option S:=
 ab (decide ((v13:Int)<(f.length:Int))) (
 Option.bind (av f v13) fun x1=>
  J1 x1 v13 0 out6) (
 aa k (fc k out6) fun r5=>
 ret (r5.1,r5.2))
noncomputable def js {S:Type} (k:Nat) (ret:List Cl×Int→Option S) (g f:List Cl):Nat→Int→(List Cl)→Option S
 |0=>fun _ _=> .none
 |m+1=>fun v13 out6=>nw k ret g f (fun x1 v13 v19 out6'=>kl k ret (js k ret g f m) x1 g f v13 k v19 out6') (js k ret g f m) v13 out6
noncomputable def ze {S:Type} (k:Nat) (ret:List Cl×Int→Option S) (J0:Int→(List Cl)→Option S) (f g:List Cl):Option S:=
 J0 0 ([]:List Cl)
noncomputable def gW {S:Type} (k:Nat) (f g:List Cl) (ret:List Cl×Int→Option S):Option S:=ze k ret (fun v13 out6=>js k ret g f k v13 out6) f g
def G7 {S:Type} (k:Nat) (ret:List Cl×Int→Option S) (a_have:List Cl) (c:Cl):Option S:=
 aa k (rS k c) fun r1=>
 ab (!(r1.2==0)) (
 ret (([]:List Cl),r1.2)) (
 aa k (gW k a_have r1.1) fun r2=>
 ret (r2.1,r2.2))
noncomputable def rR {S:Type} (k:Nat) (a_have:List Cl) (c:Cl) (ret:List Cl×Int→Option S):Option S:=G7 k ret a_have c
def qA {S:Type} (k:Nat) (ret:List Cl×Int→Option S) (l:List Cl) (rec0:(List Cl)→Int→Option S) (v1:List Cl) (v15:Int):Option S:=
 ab (decide ((v15:Int)<(l.length:Int))) (
 Option.bind (av l v15) fun x1=>
 aa k (rR k v1 x1) fun r2=>
 ab (!(r2.2==0)) (
  ret (([]:List Cl),r2.2)) (
   rec0 r2.1 (IntKind.wrap .i64 (v15+1)))) (
 ret (v1,0))
noncomputable def l9 {S:Type} (k:Nat) (ret:List Cl×Int→Option S) (l:List Cl):Nat→(List Cl)→Int→Option S
 |0=>fun _ _=> .none
 |m+1=>fun v1 v15=>qA k ret l (l9 k ret l m) v1 v15
noncomputable def zc {S:Type} (k:Nat) (ret:List Cl×Int→Option S) (J0:(List Cl)→Int→Option S) (l a_from:List Cl):Option S:=
 J0 a_from 0
noncomputable def vJ {S:Type} (k:Nat) (l a_from:List Cl) (ret:List Cl×Int→Option S):Option S:=zc k ret (fun v1 v15=>l9 k ret l k v1 v15) l a_from
noncomputable def G6 {S:Type} (k:Nat) (ret:List Cl×Int→Option S) (f:List Cl):Option S:=
 aa k (n7 k) fun r1=>
 aa k (vJ k f r1) fun r2=>
 ret (r2.1,r2.2)
noncomputable def lv {S:Type} (k:Nat) (f:List Cl) (ret:List Cl×Int→Option S):Option S:=G6 k ret f
def GZ {S:Type} (k:Nat) (ret:List Cl×Int→Option S) (f:List Cl):Option S:=
 aa k (lw k [f]) fun r1=>
 ab (!(r1==0)) (
 ret (([]:List Cl),r1)) (
 aa k (lv k f) fun r2=>
 ret (r2.1,r2.2))
noncomputable def rN {S:Type} (k:Nat) (f:List Cl) (ret:List Cl×Int→Option S):Option S:=GZ k ret f
def GQ {S:Type} (k:Nat) (ret:List Cl×Int→Option S) (f:List Cl):Option S:=
 aa k (rN k f) fun r1=>
 ab (!(r1.2==0)) (
 ret (([]:List Cl),r1.2)) (
 aa k (n1 k r1.1) fun r2=>
 ret (r2.1,r2.2))
noncomputable def rF {S:Type} (k:Nat) (f:List Cl) (ret:List Cl×Int→Option S):Option S:=GQ k ret f
def qr {S:Type} (k:Nat) (ret:List Cl×Int→Option S) (i:Int) (a_r f:List Cl) (v29:Int) (v8:List Cl) (rec0:Int→(List Cl)→Option S) (g11:List Cl) (v13:Int):Option S:=
 ab (v13==0) (
 aa k (n5 k v8 g11) fun r10=>
 ab (!(r10.2==0)) (
  ret (([]:List Cl),r10.2)) (
   rec0 (IntKind.wrap .i64 (v29+1)) r10.1)) (
 ab (!(v13==0)) (
  ret (([]:List Cl),v13)) (
   rec0 (IntKind.wrap .i64 (v29+1)) v8))
noncomputable def lW {S:Type} (k:Nat) (ret:List Cl×Int→Option S) (rec0:Int→(List Cl)→Option S) (i:Int) (a_r f:List Cl) (v29:Int) (v8:List Cl):Nat→(List Cl)→Int→Option S
 |0=>fun _ _=> .none
 |_+1=>fun g11 v13=>qr k ret i a_r f v29 v8 rec0 g11 v13
def nu {S:Type} (k:Nat) (ret:List Cl×Int→Option S) (i:Int) (a_r f:List Cl) (J1:Int→(List Cl)→(List Cl)→Int→Option S) (rec0:Int→(List Cl)→Option S) (v29:Int) (v8:List Cl):Option S:=
 ab (decide ((v29:Int)<(f.length:Int))) (
 Option.bind (av f v29) fun x4=>
 aa k (gY k x4.pos i) fun r5=>
 aa k (gY k x4.neg i) fun r6=>
 aa k (fK k x4.pos i) fun r7=>
 ab (r7) (
  aa k (n1 k a_r) fun r8=>
  ab (r8.2==0) (
  aa k (lu k [(Cl.mk r5 r6)] r8.1) fun r9=>
    J1 v29 v8 r9.1 r9.2) (
    J1 v29 v8 [(Cl.mk r5 r6)] r8.2)) (
  aa k (fK k x4.neg i) fun r11=>
  ab (r11) (
  aa k (rF k a_r) fun r12=>
  ab (r12.2==0) (
   aa k (lu k [(Cl.mk r5 r6)] r12.1) fun r13=>
     J1 v29 v8 r13.1 r13.2) (
     J1 v29 v8 [(Cl.mk r5 r6)] r12.2)) (
    J1 v29 v8 [(Cl.mk r5 r6)] 0))) (
 ret (v8,0))
noncomputable def jr {S:Type} (k:Nat) (ret:List Cl×Int→Option S) (i:Int) (a_r f:List Cl):Nat→Int→(List Cl)→Option S
 |0=>fun _ _=> .none
 |m+1=>fun v29 v8=>nu k ret i a_r f (fun v29 v8 g11 v13=>lW k ret (jr k ret i a_r f m) i a_r f v29 v8 k g11 v13) (jr k ret i a_r f m) v29 v8
def yY {S:Type} (k:Nat) (ret:List Cl×Int→Option S) (J0:Int→(List Cl)→Option S) (f:List Cl) (i:Int) (a_r:List Cl):Option S:=
 aa k (iW k f) fun r1=>
 ab (!r1) (
 ret (([]:List Cl),2)) (
 aa k (rH k i) fun r2=>
 ab (!r2) (
  ret (([]:List Cl),2)) (
  aa k (fJ k a_r) fun r3=>
  ab (!r3) (
  ret (([]:List Cl),2)) (
    J0 0 [])))
noncomputable def rG {S:Type} (k:Nat) (f:List Cl) (i:Int) (a_r:List Cl) (ret:List Cl×Int→Option S):Option S:=yY k ret (fun v29 v8=>jr k ret i a_r f k v29 v8) f i a_r
def GI {S:Type} (k:Nat) (ret:List Cl×Int→Option S) (f:List Cl) (depth c0:Int) (c1:List Cl):Option S:=
 aa k (j6 k f) fun r1=>
 aa k (fK k r1 (IntKind.wrap .i64 (c0+depth))) fun r2=>
 ab (!r2) (
 aa k (nW k f) fun r3=>
 ret (r3,0)) (
 aa k (iX k c1 0 depth) fun r4=>
 ab (!(r4.2==0)) (
  ret (([]:List Cl),r4.2)) (
  aa k (rG k f (IntKind.wrap .i64 (c0+depth)) r4.1) fun r5=>
  ret (r5.1,r5.2)))
noncomputable def nX {S:Type} (k:Nat) (f:List Cl) (depth c0:Int) (c1:List Cl) (ret:List Cl×Int→Option S):Option S:=GI k ret f depth c0 c1
def GW {S:Type} (k:Nat) (ret:List Cl×Int→Option S) (i:Int):Option S:=
 aa k (gr k 0 i) fun r1=>
 aa k (iY k r1) fun r2=>
 ab (r2==0) (
 ret (([]:List Cl),2)) (
 aa k (gr k 0 i) fun r3=>
 ret ([(Cl.mk r3 0)],0))
noncomputable def rM {S:Type} (k:Nat) (i:Int) (ret:List Cl×Int→Option S):Option S:=GW k ret i
noncomputable def G5 {S:Type} (k:Nat) (ret:List Cl×Int→Option S) (f g:List Cl):Option S:=
 Option.bind (aP 1099511627776 ([]:List Cl).length f.length) fun x1=>
 Option.bind (aP 1099511627776 (([]:List Cl)++f).length g.length) fun x2=>
 aa k (fc k ((([]:List Cl)++f)++g)) fun r3=>
 ret (r3.1,r3.2)
noncomputable def j7 {S:Type} (k:Nat) (f g:List Cl) (ret:List Cl×Int→Option S):Option S:=G5 k ret f g
def G3 {S:Type} (k:Nat) (ret:List Cl×Int→Option S) (a_have:List Cl) (c:Cl) (c0:Int) (c1:List Cl):Option S:=
 aa k (gY k c.pos c0) fun r1=>
 aa k (gY k c.neg c0) fun r2=>
 aa k (fK k c.pos c0) fun r3=>
 ab (r3) (
 aa k (gW k [(Cl.mk r1 r2)] c1) fun r4=>
 ab (!(r4.2==0)) (
  ret (([]:List Cl),r4.2)) (
  aa k (fK k c.neg c0) fun r5=>
  ab (r5) (
  aa k (lv k c1) fun r6=>
  ab (!(r6.2==0)) (
   ret (([]:List Cl),r6.2)) (
   aa k (gW k r4.1 r6.1) fun r7=>
   ab (!(r7.2==0)) (
   ret (([]:List Cl),r7.2)) (
   aa k (j7 k a_have r7.1) fun r8=>
   ret (r8.1,r8.2)))) (
  aa k (j7 k a_have r4.1) fun r9=>
  ret (r9.1,r9.2)))) (
 aa k (fK k c.neg c0) fun r10=>
 ab (r10) (
  aa k (lv k c1) fun r11=>
  ab (!(r11.2==0)) (
  ret (([]:List Cl),r11.2)) (
  aa k (gW k [(Cl.mk r1 r2)] r11.1) fun r12=>
  ab (!(r12.2==0)) (
   ret (([]:List Cl),r12.2)) (
   aa k (j7 k a_have r12.1) fun r13=>
   ret (r13.1,r13.2)))) (
  aa k (j7 k a_have [(Cl.mk r1 r2)]) fun r14=>
  ret (r14.1,r14.2)))
noncomputable def rP {S:Type} (k:Nat) (a_have:List Cl) (c:Cl) (c0:Int) (c1:List Cl) (ret:List Cl×Int→Option S):Option S:=G3 k ret a_have c c0 c1
def qz {S:Type} (k:Nat) (ret:List Cl×Int→Option S) (c0:Int) (c1 l:List Cl) (rec0:(List Cl)→Int→Option S) (v1:List Cl) (v15:Int):Option S:=
 ab (decide ((v15:Int)<(l.length:Int))) (
 Option.bind (av l v15) fun x1=>
 aa k (rP k v1 x1 c0 c1) fun r2=>
 ab (!(r2.2==0)) (
  ret (([]:List Cl),r2.2)) (
   rec0 r2.1 (IntKind.wrap .i64 (v15+1)))) (
 ret (v1,0))
noncomputable def l8 {S:Type} (k:Nat) (ret:List Cl×Int→Option S) (c0:Int) (c1 l:List Cl):Nat→(List Cl)→Int→Option S
 |0=>fun _ _=> .none
 |m+1=>fun v1 v15=>qz k ret c0 c1 l (l8 k ret c0 c1 l m) v1 v15
noncomputable def zb {S:Type} (k:Nat) (ret:List Cl×Int→Option S) (J0:(List Cl)→Int→Option S) (l a_from:List Cl) (c0:Int) (c1:List Cl):Option S:=
 J0 a_from 0
noncomputable def vI {S:Type} (k:Nat) (l a_from:List Cl) (c0:Int) (c1:List Cl) (ret:List Cl×Int→Option S):Option S:=zb k ret (fun v1 v15=>l8 k ret c0 c1 l k v1 v15) l a_from c0 c1
def G2 {S:Type} (k:Nat) (ret:List Cl×Int→Option S) (f:List Cl) (i:Int) (a_r:List Cl):Option S:=
 aa k (lw k [f,a_r]) fun r1=>
 ab (!(r1==0)) (
 ret (([]:List Cl),r1)) (
 aa k (rM k i) fun r2=>
 ab (!(r2.2==0)) (
  ret (([]:List Cl),r2.2)) (
  aa k (n8 k) fun r3=>
  aa k (vI k f r3 i a_r) fun r4=>
  ret (r4.1,r4.2)))
noncomputable def rO {S:Type} (k:Nat) (f:List Cl) (i:Int) (a_r:List Cl) (ret:List Cl×Int→Option S):Option S:=G2 k ret f i a_r
def GH {S:Type} (k:Nat) (ret:List Cl×Int→Option S) (f:List Cl) (depth c0:Int) (c1:List Cl):Option S:=
 aa k (j6 k f) fun r1=>
 aa k (fK k r1 (IntKind.wrap .i64 (c0+depth))) fun r2=>
 ab (!r2) (
 aa k (nW k f) fun r3=>
 ret (r3,0)) (
 aa k (iX k c1 0 depth) fun r4=>
 ab (!(r4.2==0)) (
  ret (([]:List Cl),r4.2)) (
  aa k (rO k f (IntKind.wrap .i64 (c0+depth)) r4.1) fun r5=>
  ret (r5.1,r5.2)))
noncomputable def rB {S:Type} (k:Nat) (f:List Cl) (depth c0:Int) (c1:List Cl) (ret:List Cl×Int→Option S):Option S:=GH k ret f depth c0 c1
def GL {S:Type} (k:Nat) (ret:List Cl×Int→Option S) (t:Tm) (depth c0:Int) (c1:List Cl):Option S:=
 ab (t.kind==14) (
 aa k (nX k t.r depth c0 c1) fun r1=>
 ret (r1.1,r1.2)) (
 aa k (rB k t.r depth c0 c1) fun r2=>
 ret (r2.1,r2.2))
noncomputable def rC {S:Type} (k:Nat) (t:Tm) (depth c0:Int) (c1:List Cl) (ret:List Cl×Int→Option S):Option S:=GL k ret t depth c0 c1
noncomputable def yU {S:Type} (k:Nat) (ret:Int→Option S) (i:Int) (c0:Tm):Option S:=
 aa k (gZ k c0.kind i) fun r1=>
 ret r1.2
noncomputable def nY {S:Type} (k:Nat) (i:Int) (c0:Tm) (ret:Int→Option S):Option S:=yU k ret i c0
noncomputable def yV {S:Type} (k:Nat) (ret:Int→Option S) (p c0:Int):Option S:=
 ret c0
noncomputable def nZ {S:Type} (k:Nat) (p c0:Int) (ret:Int→Option S):Option S:=yV k ret p c0
abbrev cz (S:Type):=Tm→Int→Int→(List Cl)→(Tm×Int→Option S)→Option S
def qk {S:Type} (hd:cz S) (k:Nat) (ret:List Tm×Int→Option S) (c0:Int) (c1:List Cl) (c4:Int) (l:List Tm) (depth:Int) (rec0:(List Tm)→Int→Option S) (out10:List Tm) (v17:Int):Option S:=
 ab (decide ((v17:Int)<(l.length:Int))) (
 Option.bind (av l v17) fun x1=>
 aa k (nZ k v17 c4) fun r2=>
 hd (ac x1) (IntKind.wrap .i64 (depth+r2)) c0 c1 fun r3=>
 ab (!(r3.2==0)) (
  ret (([]:List Tm),r3.2)) (
  Option.bind (aP 1099511627776 out10.length [(ac r3.1)].length) fun x4=>
   rec0 (out10++[(ac r3.1)]) (IntKind.wrap .i64 (v17+1)))) (
 ret (out10,0))
noncomputable def jp {S:Type} (hd:cz S) (k:Nat) (ret:List Tm×Int→Option S) (c0:Int) (c1:List Cl) (c4:Int) (l:List Tm) (depth:Int):Nat→(List Tm)→Int→Option S
 |0=>fun _ _=> .none
 |m+1=>fun out10 v17=>qk hd k ret c0 c1 c4 l depth (jp hd k ret c0 c1 c4 l depth m) out10 v17
noncomputable def yS {S:Type} (hd:cz S) (k:Nat) (ret:List Tm×Int→Option S) (J0:(List Tm)→Int→Option S) (l:List Tm) (depth c0:Int) (c1:List Cl) (c4:Int):Option S:=
 J0 ([]:List Tm) 0
noncomputable def vE {S:Type} (hd:cz S) (k:Nat) (l:List Tm) (depth c0:Int) (c1:List Cl) (c4:Int) (ret:List Tm×Int→Option S):Option S:=yS hd k ret (fun out10 v17=>jp hd k ret c0 c1 c4 l depth k out10 v17) l depth c0 c1 c4
def ql {S:Type} (hd:cz S) (k:Nat) (ret:List Tm×Int→Option S) (c0:Int) (c1:List Cl) (c4:Tm) (l:List Tm) (depth:Int) (rec0:(List Tm)→Int→Option S) (out10:List Tm) (v17:Int):Option S:=
 ab (decide ((v17:Int)<(l.length:Int))) (
 Option.bind (av l v17) fun x1=>
 aa k (nY k v17 (ac c4)) fun r2=>
 hd (ac x1) (IntKind.wrap .i64 (depth+r2)) c0 c1 fun r3=>
 ab (!(r3.2==0)) (
  ret (([]:List Tm),r3.2)) (
  Option.bind (aP 1099511627776 out10.length [(ac r3.1)].length) fun x4=>
   rec0 (out10++[(ac r3.1)]) (IntKind.wrap .i64 (v17+1)))) (
 ret (out10,0))
noncomputable def jq {S:Type} (hd:cz S) (k:Nat) (ret:List Tm×Int→Option S) (c0:Int) (c1:List Cl) (c4:Tm) (l:List Tm) (depth:Int):Nat→(List Tm)→Int→Option S
 |0=>fun _ _=> .none
 |m+1=>fun out10 v17=>ql hd k ret c0 c1 c4 l depth (jq hd k ret c0 c1 c4 l depth m) out10 v17
noncomputable def yT {S:Type} (hd:cz S) (k:Nat) (ret:List Tm×Int→Option S) (J0:(List Tm)→Int→Option S) (l:List Tm) (depth c0:Int) (c1:List Cl) (c4:Tm):Option S:=
 J0 ([]:List Tm) 0
noncomputable def vF {S:Type} (hd:cz S) (k:Nat) (l:List Tm) (depth c0:Int) (c1:List Cl) (c4:Tm) (ret:List Tm×Int→Option S):Option S:=yT hd k ret (fun out10 v17=>jq hd k ret c0 c1 c4 l depth k out10 v17) l depth c0 c1 c4
def qm {S:Type} (hd:cz S) (k:Nat) (ret:Tm×Int→Option S) (c0:Int) (c1:List Cl) (t:Tm) (r1:List Cl×Int) (r2:List Tm×Int) (depth:Int) (rec0:Int→(List (Br Tm))→Int→Option S) (b10_0:Int) (b8_5:List (Br Tm)) (v55:Int):Option S:=
 ab (decide ((v55:Int)<(t.sys.length:Int))) (
 Option.bind (av t.sys v55) fun x3=>
 aa k (nX k x3.face depth c0 c1) fun r4=>
 ab (!(r4.2==0)) (
  ret ((Tm.mk 0 0 ByteArray.empty [] [] []),r4.2)) (
  ab ((r4.1.length:Int)==0) (
    rec0 b10_0 b8_5 (IntKind.wrap .i64 (v55+1))) (
  aa k (vE hd k x3.kids depth c0 c1 b10_0) fun r5=>
  ab (!(r5.2==0)) (
   ret ((Tm.mk 0 0 ByteArray.empty [] [] []),r5.2)) (
   Option.bind (aP 1099511627776 b8_5.length [(Br.mk r4.1 r5.1)].length) fun x6=>
     rec0 b10_0 (b8_5++[(Br.mk r4.1 r5.1)]) (IntKind.wrap .i64 (v55+1)))))) (
 ret ((Tm.mk t.kind t.n t.name r1.1 r2.1 b8_5),0))
noncomputable def eH {S:Type} (hd:cz S) (k:Nat) (ret:Tm×Int→Option S) (c0:Int) (c1:List Cl) (t:Tm) (r1:List Cl×Int) (r2:List Tm×Int) (depth:Int):Nat→Int→(List (Br Tm))→Int→Option S
 |0=>fun _ _ _=> .none
 |m+1=>fun b10_0 b8_5 v55=>qm hd k ret c0 c1 t r1 r2 depth (eH hd k ret c0 c1 t r1 r2 depth m) b10_0 b8_5 v55
def yW {S:Type} (hd:cz S) (k:Nat) (ret:Tm×Int→Option S) (J0:(List Cl×Int)→(List Tm×Int)→Int→(List (Br Tm))→Int→Option S) (t:Tm) (depth c0:Int) (c1:List Cl):Option S:=
 aa k (rC k (ac t) depth c0 c1) fun r1=>
 ab (!(r1.2==0)) (
 ret ((Tm.mk 0 0 ByteArray.empty [] [] []),r1.2)) (
 aa k (vF hd k t.kids depth c0 c1 (ac t)) fun r2=>
 ab (!(r2.2==0)) (
  ret ((Tm.mk 0 0 ByteArray.empty [] [] []),r2.2)) (
  ab (t.kind==15) (
    J0 r1 r2 1 ([]:List (Br Tm)) 0) (
    J0 r1 r2 0 ([]:List (Br Tm)) 0)))
noncomputable def dk {S:Type}:Nat→Tm→Int→Int→(List Cl)→(Tm×Int→Option S)→Option S
 |0=>fun _ _ _ _ _=> .none
 |k+1=>fun t depth c0 c1 ret=>yW (dk k) k ret (fun r1 r2 b10_0 b8_5 v55=>eH (dk k) k ret c0 c1 t r1 r2 depth k b10_0 b8_5 v55) t depth c0 c1
noncomputable def GF {S:Type} (k:Nat) (ret:Int→Option S) (i:Int):Option S:=
 ret i
noncomputable def vw {S:Type} (k:Nat) (i:Int) (ret:Int→Option S):Option S:=GF k ret i
def Hf {S:Type} (k:Nat) (ret:Int→Option S) (s i:Int):Option S:=
 aa k (j8 k i) fun r1=>
 ab (!r1) (
 ret (aV .and .u32 s 16777215)) (
 aa k (lz k i) fun r2=>
 Option.bind (cq (0≤(IntKind.wrap .u64 (IntKind.wrap .i64 (i+1))))) fun x3=>
 Option.bind (cq (0≤(IntKind.wrap .u64 i))) fun x4=>
 ret (aV .or .u32 (aV .and .u32 (aV .and .u32 s 16777215) r2) (IntKind.wrap .u32 ((Int.fdiv (aV .and .u32 s 16777215) (2^min (Int.toNat (IntKind.wrap .u64 (IntKind.wrap .i64 (i+1)))) 32))*2^min (Int.toNat (IntKind.wrap .u64 i)) 32))))
noncomputable def lx {S:Type} (k:Nat) (s i:Int) (ret:Int→Option S):Option S:=Hf k ret s i
def qh {S:Type} (k:Nat) (ret:List Cl×Int→Option S) (c0 depth:Int) (f:List Cl) (rec0:Int→(List Cl)→Option S) (v12:Int) (out7:List Cl):Option S:=
 ab (decide ((v12:Int)<(f.length:Int))) (
 Option.bind (av f v12) fun x1=>
 aa k (lx k x1.pos (IntKind.wrap .i64 (c0+depth))) fun r2=>
 aa k (lx k x1.neg (IntKind.wrap .i64 (c0+depth))) fun r3=>
 Option.bind (aP 1099511627776 out7.length [(Cl.mk r2 r3)].length) fun x4=>
  rec0 (IntKind.wrap .i64 (v12+1)) (out7++[(Cl.mk r2 r3)])) (
 aa k (fc k out7) fun r5=>
 ret (r5.1,r5.2))
noncomputable def lV {S:Type} (k:Nat) (ret:List Cl×Int→Option S) (c0 depth:Int) (f:List Cl):Nat→Int→(List Cl)→Option S
 |0=>fun _ _=> .none
 |m+1=>fun v12 out7=>qh k ret c0 depth f (lV k ret c0 depth f m) v12 out7
noncomputable def yO {S:Type} (k:Nat) (ret:List Cl×Int→Option S) (J0:Int→(List Cl)→Option S) (f:List Cl) (depth c0:Int):Option S:=
 J0 0 ([]:List Cl)
noncomputable def ls {S:Type} (k:Nat) (f:List Cl) (depth c0:Int) (ret:List Cl×Int→Option S):Option S:=yO k ret (fun v12 out7=>lV k ret c0 depth f k v12 out7) f depth c0
def GM {S:Type} (k:Nat) (ret:List Cl×Int→Option S) (t:Tm) (depth c0:Int):Option S:=
 ab (t.kind==14) (
 aa k (ls k t.r depth c0) fun r1=>
 ret (r1.1,r1.2)) (
 aa k (ls k t.r depth c0) fun r2=>
 ret (r2.1,r2.2))
noncomputable def rD {S:Type} (k:Nat) (t:Tm) (depth c0:Int) (ret:List Cl×Int→Option S):Option S:=GM k ret t depth c0
abbrev cA (S:Type):=Tm→Int→Int→(Tm×Int→Option S)→Option S
def qi {S:Type} (hd:cA S) (k:Nat) (ret:List Tm×Int→Option S) (c0 c1:Int) (l:List Tm) (depth:Int) (rec0:(List Tm)→Int→Option S) (out10:List Tm) (v17:Int):Option S:=
 ab (decide ((v17:Int)<(l.length:Int))) (
 Option.bind (av l v17) fun x1=>
 aa k (nZ k v17 c1) fun r2=>
 hd (ac x1) (IntKind.wrap .i64 (depth+r2)) c0 fun r3=>
 ab (!(r3.2==0)) (
  ret (([]:List Tm),r3.2)) (
  Option.bind (aP 1099511627776 out10.length [(ac r3.1)].length) fun x4=>
   rec0 (out10++[(ac r3.1)]) (IntKind.wrap .i64 (v17+1)))) (
 ret (out10,0))
noncomputable def jm {S:Type} (hd:cA S) (k:Nat) (ret:List Tm×Int→Option S) (c0 c1:Int) (l:List Tm) (depth:Int):Nat→(List Tm)→Int→Option S
 |0=>fun _ _=> .none
 |m+1=>fun out10 v17=>qi hd k ret c0 c1 l depth (jm hd k ret c0 c1 l depth m) out10 v17
noncomputable def yQ {S:Type} (hd:cA S) (k:Nat) (ret:List Tm×Int→Option S) (J0:(List Tm)→Int→Option S) (l:List Tm) (depth c0 c1:Int):Option S:=
 J0 ([]:List Tm) 0
noncomputable def vC {S:Type} (hd:cA S) (k:Nat) (l:List Tm) (depth c0 c1:Int) (ret:List Tm×Int→Option S):Option S:=yQ hd k ret (fun out10 v17=>jm hd k ret c0 c1 l depth k out10 v17) l depth c0 c1
def qj {S:Type} (hd:cA S) (k:Nat) (ret:List Tm×Int→Option S) (c0:Int) (c1:Tm) (l:List Tm) (depth:Int) (rec0:(List Tm)→Int→Option S) (out10:List Tm) (v17:Int):Option S:=
 ab (decide ((v17:Int)<(l.length:Int))) (
 Option.bind (av l v17) fun x1=>
 aa k (nY k v17 (ac c1)) fun r2=>
 hd (ac x1) (IntKind.wrap .i64 (depth+r2)) c0 fun r3=>
 ab (!(r3.2==0)) (
  ret (([]:List Tm),r3.2)) (
  Option.bind (aP 1099511627776 out10.length [(ac r3.1)].length) fun x4=>
   rec0 (out10++[(ac r3.1)]) (IntKind.wrap .i64 (v17+1)))) (
 ret (out10,0))
noncomputable def jo {S:Type} (hd:cA S) (k:Nat) (ret:List Tm×Int→Option S) (c0:Int) (c1:Tm) (l:List Tm) (depth:Int):Nat→(List Tm)→Int→Option S
 |0=>fun _ _=> .none
 |m+1=>fun out10 v17=>qj hd k ret c0 c1 l depth (jo hd k ret c0 c1 l depth m) out10 v17
noncomputable def yR {S:Type} (hd:cA S) (k:Nat) (ret:List Tm×Int→Option S) (J0:(List Tm)→Int→Option S) (l:List Tm) (depth c0:Int) (c1:Tm):Option S:=
 J0 ([]:List Tm) 0
noncomputable def vD {S:Type} (hd:cA S) (k:Nat) (l:List Tm) (depth c0:Int) (c1:Tm) (ret:List Tm×Int→Option S):Option S:=yR hd k ret (fun out10 v17=>jo hd k ret c0 c1 l depth k out10 v17) l depth c0 c1
def qn {S:Type} (hd:cA S) (k:Nat) (ret:Tm×Int→Option S) (c0:Int) (t:Tm) (r1:List Cl×Int) (r2:List Tm×Int) (depth:Int) (rec0:Int→(List (Br Tm))→Int→Option S) (b10_0:Int) (b8_5:List (Br Tm)) (v55:Int):Option S:=
 ab (decide ((v55:Int)<(t.sys.length:Int))) (
 Option.bind (av t.sys v55) fun x3=>
 aa k (ls k x3.face depth c0) fun r4=>
 ab (!(r4.2==0)) (
  ret ((Tm.mk 0 0 ByteArray.empty [] [] []),r4.2)) (
  ab ((r4.1.length:Int)==0) (
    rec0 b10_0 b8_5 (IntKind.wrap .i64 (v55+1))) (
  aa k (vC hd k x3.kids depth c0 b10_0) fun r5=>
  ab (!(r5.2==0)) (
   ret ((Tm.mk 0 0 ByteArray.empty [] [] []),r5.2)) (
   Option.bind (aP 1099511627776 b8_5.length [(Br.mk r4.1 r5.1)].length) fun x6=>
     rec0 b10_0 (b8_5++[(Br.mk r4.1 r5.1)]) (IntKind.wrap .i64 (v55+1)))))) (
 ret ((Tm.mk t.kind t.n t.name r1.1 r2.1 b8_5),0))
noncomputable def eI {S:Type} (hd:cA S) (k:Nat) (ret:Tm×Int→Option S) (c0:Int) (t:Tm) (r1:List Cl×Int) (r2:List Tm×Int) (depth:Int):Nat→Int→(List (Br Tm))→Int→Option S
 |0=>fun _ _ _=> .none
 |m+1=>fun b10_0 b8_5 v55=>qn hd k ret c0 t r1 r2 depth (eI hd k ret c0 t r1 r2 depth m) b10_0 b8_5 v55
def yX {S:Type} (hd:cA S) (k:Nat) (ret:Tm×Int→Option S) (J0:(List Cl×Int)→(List Tm×Int)→Int→(List (Br Tm))→Int→Option S) (t:Tm) (depth c0:Int):Option S:=
 aa k (rD k (ac t) depth c0) fun r1=>
 ab (!(r1.2==0)) (
 ret ((Tm.mk 0 0 ByteArray.empty [] [] []),r1.2)) (
 aa k (vD hd k t.kids depth c0 (ac t)) fun r2=>
 ab (!(r2.2==0)) (
  ret ((Tm.mk 0 0 ByteArray.empty [] [] []),r2.2)) (
  ab (t.kind==15) (
    J0 r1 r2 1 ([]:List (Br Tm)) 0) (
    J0 r1 r2 0 ([]:List (Br Tm)) 0)))
noncomputable def de {S:Type}:Nat→Tm→Int→Int→(Tm×Int→Option S)→Option S
 |0=>fun _ _ _ _=> .none
 |k+1=>fun t depth c0 ret=>yX (de k) k ret (fun r1 r2 b10_0 b8_5 v55=>eI (de k) k ret c0 t r1 r2 depth k b10_0 b8_5 v55) t depth c0
def GD {S:Type} (k:Nat) (ret:Tm×Int→Option S) (t:Tm) (i:Int) (a_r:List Cl):Option S:=
 aa k (vG k (ac t) i a_r) fun r1=>
 ab (!(r1==0)) (
 ret ((Tm.mk 0 0 ByteArray.empty [] [] []),r1)) (
 aa k (iX k a_r i 1) fun r2=>
 ab (!(r2.2==0)) (
  ret ((Tm.mk 0 0 ByteArray.empty [] [] []),r2.2)) (
  aa k (vz k i r2.1) fun r3=>
  dk k (ac t) 0 r3.1 r3.2 fun r4=>
  ab (!(r4.2==0)) (
  ret ((Tm.mk 0 0 ByteArray.empty [] [] []),r4.2)) (
  aa k (vw k i) fun r5=>
  de k (ac r4.1) 0 r5 fun r6=>
  ret ((ac r6.1),r6.2))))
noncomputable def lr {S:Type} (k:Nat) (t:Tm) (i:Int) (a_r:List Cl) (ret:Tm×Int→Option S):Option S:=GD k ret t i a_r
def yI {S:Type} (k:Nat) (ret:Tm×Int→Option S) (line:Tm) (a_r:List Cl) (c0:Int):Option S:=
 aa k (ca k c0) fun r1=>
 ab (!r1) (
 ret ((Tm.mk 0 0 ByteArray.empty [] [] []),c0)) (
 aa k (rW k (ac line) 1 2) fun r2=>
 aa k (fb k r2.2 c0) fun r3=>
 aa k (ca k r3) fun r4=>
 ab (!r4) (
  ret ((Tm.mk 0 0 ByteArray.empty [] [] []),r3)) (
  aa k (lr k (ac r2.1) 0 a_r) fun r5=>
  aa k (fb k r5.2 r3) fun r6=>
  ret ((ac r5.1),r6)))
noncomputable def fI {S:Type} (k:Nat) (line:Tm) (a_r:List Cl) (c0:Int) (ret:Tm×Int→Option S):Option S:=yI k ret line a_r c0
noncomputable def Ha {S:Type} (k:Nat) (ret:Pan Int Tm→Option S) (c0 c1:Int) (c2:Tm):Option S:=
 cZ k c1 0 (ac c2) 0 0 fun r2=>Pan.elim r2 (fun r2=>
 cZ k 0 c0 (ac r2) 0 0 fun r5=>Pan.elim r5 (fun r5=>
  ret (.ok (ac r5))) (fun e6=>
  ret (.pan e6))) (fun e3=>
 ret (.pan e3))
noncomputable def rV {S:Type} (k:Nat) (c0 c1:Int) (c2:Tm) (ret:Pan Int Tm→Option S):Option S:=Ha k ret c0 c1 c2
def qL {S:Type} (k:Nat) (ret:Tm×Int→Option S) (c0 c1:Int) (c2:Tm) (numbers:List Int) (rec0:Int→Option S) (v19:Int):Option S:=
 ab (decide ((v19:Int)<(numbers.length:Int))) (
 Option.bind (av numbers v19) fun x2=>
 ab (decide ((x2:Int)<0)) (
  ret ((Tm.mk 0 0 ByteArray.empty [] [] []),2)) (
   rec0 (IntKind.wrap .i64 (v19+1)))) (
 aa k (rV k c0 c1 (ac c2)) fun r4=>Pan.elim r4 (fun r4=>
  ret ((ac r4),0)) (fun e5=>
  ret ((Tm.mk 0 0 ByteArray.empty [] [] []),e5)))
noncomputable def kq {S:Type} (k:Nat) (ret:Tm×Int→Option S) (c0 c1:Int) (c2:Tm) (numbers:List Int):Nat→Int→Option S
 |0=>fun _=> .none
 |m+1=>fun v19=>qL k ret c0 c1 c2 numbers (kq k ret c0 c1 c2 numbers m) v19
def zl {S:Type} (k:Nat) (ret:Tm×Int→Option S) (J0:Int→Option S) (t:Tm) (numbers:List Int) (c0 c1:Int) (c2:Tm):Option S:=
 aa k (i8 k (ac t)) fun r1=>
 ab (!(r1==0)) (
 ret ((Tm.mk 0 0 ByteArray.empty [] [] []),r1)) (
  J0 0)
noncomputable def vM {S:Type} (k:Nat) (t:Tm) (numbers:List Int) (c0 c1:Int) (c2:Tm) (ret:Tm×Int→Option S):Option S:=zl k ret (fun v19=>kq k ret c0 c1 c2 numbers k v19) t numbers c0 c1 c2
noncomputable def G_ {S:Type} (k:Nat) (ret:Tm×Int→Option S) (t:Tm) (vars dims:Int):Option S:=
 aa k (vM k (ac t) [vars,dims,IntKind.wrap .i64 (1000000-vars)] dims vars (ac t)) fun r1=>
 ret ((ac r1.1),r1.2)
noncomputable def rU {S:Type} (k:Nat) (t:Tm) (vars dims:Int) (ret:Tm×Int→Option S):Option S:=G_ k ret t vars dims
def yM {S:Type} (k:Nat) (ret:Tm×Int→Option S) (t:Tm) (vars dims c0:Int):Option S:=
 aa k (ca k c0) fun r1=>
 ab (!r1) (
 ret ((Tm.mk 0 0 ByteArray.empty [] [] []),c0)) (
 aa k (rU k (ac t) vars dims) fun r2=>
 aa k (fb k r2.2 c0) fun r3=>
 ret ((ac r2.1),r3))
noncomputable def bZ {S:Type} (k:Nat) (t:Tm) (vars dims c0:Int) (ret:Tm×Int→Option S):Option S:=yM k ret t vars dims c0
noncomputable def eA {S:Type} (k:Nat) (ret:Int×Int×ByteArray×List Tm→Option S) (kind:Int) (kids:List Tm):Option S:=
 ret (kind,0,ByteArray.empty,kids)
noncomputable def bh {S:Type} (k:Nat) (kind:Int) (kids:List Tm) (ret:Int×Int×ByteArray×List Tm→Option S):Option S:=eA k ret kind kids
def yJ {S:Type} (k:Nat) (ret:Tm×Int×Int→Option S) (t:Tm) (c0:Int):Option S:=
 aa k (ca k c0) fun r1=>
 ab (r1) (
 aa k (i8 k (ac t)) fun r2=>
 aa k (fb k r2 c0) fun r3=>
 aa k (ca k r3) fun r4=>
 ab (!r4) (
  ret ((Tm.mk 0 0 ByteArray.empty [] [] []),r3,r3)) (
  ret ((ac t),0,r3))) (
 aa k (ca k c0) fun r5=>
 ab (!r5) (
  ret ((Tm.mk 0 0 ByteArray.empty [] [] []),c0,c0)) (
  ret ((ac t),0,c0)))
noncomputable def cE {S:Type} (k:Nat) (t:Tm) (c0:Int) (ret:Tm×Int×Int→Option S):Option S:=yJ k ret t c0
def Gq {S:Type} (k:Nat) (ret:Tm×Int→Option S) (line:Tm) (phi:List Cl) (a:Tm) (a_end:Cl) (a_r:List Cl):Option S:=
 aa k (gn k [(ac line),(ac a)]) fun r1=>
 aa k (iW k phi) fun r2=>
 ab (!r2) (
 aa k (fb k 2 r1) fun r3=>
 aa k (gq k phi r3) fun r4=>
 aa k (iV k r4.1 [a_end] r4.2) fun r5=>
 aa k (fI k (ac line) a_r r5.2) fun r6=>
 aa k (bZ k (ac a) 0 1 r6.2) fun r7=>
 aa k (bh k 14 [(ac r6.1),(ac r7.1)]) fun r8=>
 aa k (cE k (Tm.mk r8.1 r8.2.1 r8.2.2.1 r5.1 r8.2.2.2 []) r7.2) fun r9=>
 ret ((ac r9.1),r9.2.1)) (
 aa k (gq k phi r1) fun r10=>
 aa k (iV k r10.1 [a_end] r10.2) fun r11=>
 aa k (fI k (ac line) a_r r11.2) fun r12=>
 aa k (bZ k (ac a) 0 1 r12.2) fun r13=>
 aa k (bh k 14 [(ac r12.1),(ac r13.1)]) fun r14=>
 aa k (cE k (Tm.mk r14.1 r14.2.1 r14.2.2.1 r11.1 r14.2.2.2 []) r13.2) fun r15=>
 ret ((ac r15.1),r15.2.1))
noncomputable def nS {S:Type} (k:Nat) (line:Tm) (phi:List Cl) (a:Tm) (a_end:Cl) (a_r:List Cl) (ret:Tm×Int→Option S):Option S:=Gq k ret line phi a a_end a_r
noncomputable def Gp {S:Type} (k:Nat) (ret:Tm×Int→Option S) (line:Tm) (phi:List Cl) (a:Tm):Option S:=
 aa k (nS k (ac line) phi (ac a) (Cl.mk 0 1) [(Cl.mk 3 0)]) fun r1=>
 ret ((ac r1.1),r1.2)
noncomputable def nR {S:Type} (k:Nat) (line:Tm) (phi:List Cl) (a:Tm) (ret:Tm×Int→Option S):Option S:=Gp k ret line phi a
noncomputable def Gv {S:Type} (k:Nat) (ret:Int×Int×ByteArray×List Tm×List (Br Tm)→Option S) (sys:List (Br Tm)):Option S:=
 aa k (bh k 3 ([]:List Tm)) fun r1=>
 aa k (bh k 3 ([]:List Tm)) fun r2=>
 ret (15,0,ByteArray.empty,[(Tm.mk r1.1 r1.2.1 r1.2.2.1 [] r1.2.2.2 []),(Tm.mk r2.1 r2.2.1 r2.2.2.1 [] r2.2.2.2 [])],sys)
noncomputable def ln {S:Type} (k:Nat) (sys:List (Br Tm)) (ret:Int×Int×ByteArray×List Tm×List (Br Tm)→Option S):Option S:=Gv k ret sys
def ld {S:Type} (k:Nat) (ret:Tm×Int→Option S) (a:Tm) (r5:Int×Int×ByteArray×List Tm) (sys:List (Br Tm)) (rec0:Int→(List (Br Tm))→Int→Option S) (b19000_0:Int) (b9_5:List (Br Tm)) (v29:Int):Option S:=
 ab (decide ((v29:Int)<(sys.length:Int))) (
 Option.bind (av sys v29) fun x6=>
 aa k (ca k b19000_0) fun r7=>
 ab (!r7) (
  aa k (bZ k (ac a) 0 2 b19000_0) fun r8=>
  Option.bind (aP 1099511627776 b9_5.length [(Br.mk [(Cl.mk 0 1)] [(ac r8.1)])].length) fun x9=>
  aa k (cE k (Tm.mk r5.1 r5.2.1 r5.2.2.1 [] r5.2.2.2 (b9_5++[(Br.mk [(Cl.mk 0 1)] [(ac r8.1)])])) r8.2) fun r10=>
  ret ((ac r10.1),r10.2.1)) (
  aa k (gq k x6.face b19000_0) fun r11=>
  Option.bind (av x6.kids 0) fun x12=>
  aa k (fI k (ac x12) [(Cl.mk 3 0)] r11.2) fun r13=>
  Option.bind (aP 1099511627776 b9_5.length [(Br.mk r11.1 [(ac r13.1)])].length) fun x14=>
   rec0 r13.2 (b9_5++[(Br.mk r11.1 [(ac r13.1)])]) (IntKind.wrap .i64 (v29+1)))) (
 aa k (bZ k (ac a) 0 2 b19000_0) fun r15=>
 Option.bind (aP 1099511627776 b9_5.length [(Br.mk [(Cl.mk 0 1)] [(ac r15.1)])].length) fun x16=>
 aa k (cE k (Tm.mk r5.1 r5.2.1 r5.2.2.1 [] r5.2.2.2 (b9_5++[(Br.mk [(Cl.mk 0 1)] [(ac r15.1)])])) r15.2) fun r17=>
 ret ((ac r17.1),r17.2.1))
noncomputable def ff {S:Type} (k:Nat) (ret:Tm×Int→Option S) (a:Tm) (r5:Int×Int×ByteArray×List Tm) (sys:List (Br Tm)):Nat→Int→(List (Br Tm))→Int→Option S
 |0=>fun _ _ _=> .none
 |m+1=>fun b19000_0 b9_5 v29=>ld k ret a r5 sys (ff k ret a r5 sys m) b19000_0 b9_5 v29
noncomputable def yG {S:Type} (k:Nat) (ret:Tm×Int→Option S) (J0:(Int×Int×ByteArray×List Tm)→Int→(List (Br Tm))→Int→Option S) (t a:Tm) (sys:List (Br Tm)):Option S:=
 aa k (ln k sys) fun r1=>
 aa k (gn k [(ac t),(ac a),(Tm.mk r1.1 r1.2.1 r1.2.2.1 [] r1.2.2.2.1 r1.2.2.2.2)]) fun r2=>
 aa k (bZ k (ac t) 0 1 r2) fun r3=>
 aa k (bZ k (ac a) 0 1 r3.2) fun r4=>
 aa k (bh k 15 [(ac r3.1),(ac r4.1)]) fun r5=>
 J0 r5 r4.2 ([]:List (Br Tm)) 0
noncomputable def nQ {S:Type} (k:Nat) (t a:Tm) (sys:List (Br Tm)) (ret:Tm×Int→Option S):Option S:=yG k ret (fun r5 b19000_0 b9_5 v29=>ff k ret a r5 sys k b19000_0 b9_5 v29) t a sys
def Aa {S:Type} (k:Nat) (ret:Bool→Option S) (a b:List Cl) (rec0:Int→Option S) (i5:Int):Option S:=
 ab (decide ((i5:Int)<(a.length:Int))) (
 Option.bind (av a i5) fun x1=>
 Option.bind (av b i5) fun x2=>
 ab (!((x1.pos==x2.pos)&&((x1.neg==x2.neg)&&true))) (
  ret false) (
   rec0 (IntKind.wrap .i64 (i5+1)))) (
 ret true)
noncomputable def wH {S:Type} (k:Nat) (ret:Bool→Option S) (a b:List Cl):Nat→Int→Option S
 |0=>fun _=> .none
 |m+1=>fun i5=>Aa k ret a b (wH k ret a b m) i5
def Hm {S:Type} (k:Nat) (ret:Bool→Option S) (J0:Int→Option S) (a b:List Cl):Option S:=
 ab (!((a.length:Int)==(b.length:Int))) (
 ret false) (
  J0 0)
noncomputable def vO {S:Type} (k:Nat) (a b:List Cl) (ret:Bool→Option S):Option S:=Hm k ret (fun i5=>wH k ret a b k i5) a b
noncomputable def ui {S:Type} (k:Nat) (ret:Int×Int×ByteArray→Option S) (a_n:Int):Option S:=
 ret (1,a_n,ByteArray.empty)
noncomputable def dR {S:Type} (k:Nat) (a_n:Int) (ret:Int×Int×ByteArray→Option S):Option S:=ui k ret a_n
noncomputable def Ui {S:Type} (k:Nat) (ret:Int×Int×ByteArray×List Cl×List Tm→Option S) (a_r:List Cl):Option S:=
 aa k (dR k 0) fun r1=>
 aa k (bh k 10 [(Tm.mk r1.1 r1.2.1 r1.2.2 [] [] [])]) fun r2=>
 aa k (dR k 1) fun r3=>
 aa k (dR k 0) fun r4=>
 aa k (bh k 9 [(Tm.mk r4.1 r4.2.1 r4.2.2 [] [] [])]) fun r5=>
 ret (13,0,ByteArray.empty,a_r,[(Tm.mk r2.1 r2.2.1 r2.2.2.1 [] r2.2.2.2 []),(Tm.mk r3.1 r3.2.1 r3.2.2 [] [] []),(Tm.mk r5.1 r5.2.1 r5.2.2.1 [] r5.2.2.2 [])])
noncomputable def vv {S:Type} (k:Nat) (a_r:List Cl) (ret:Int×Int×ByteArray×List Cl×List Tm→Option S):Option S:=Ui k ret a_r
noncomputable def Uh {S:Type} (k:Nat) (ret:Int×Int×ByteArray×List Tm→Option S):Option S:=
 aa k (dR k 0) fun r1=>
 aa k (dR k 0) fun r2=>
 aa k (bh k 12 [(Tm.mk r2.1 r2.2.1 r2.2.2 [] [] [])]) fun r3=>
 aa k (bh k 8 [(Tm.mk r1.1 r1.2.1 r1.2.2 [] [] []),(Tm.mk r3.1 r3.2.1 r3.2.2.1 [] r3.2.2.2 [])]) fun r4=>
 aa k (vv k [(Cl.mk 1 0)]) fun r5=>
 aa k (vv k [(Cl.mk 3 0)]) fun r6=>
 aa k (bh k 12 [(Tm.mk r6.1 r6.2.1 r6.2.2.1 r6.2.2.2.1 r6.2.2.2.2 [])]) fun r7=>
 aa k (bh k 8 [(Tm.mk r5.1 r5.2.1 r5.2.2.1 r5.2.2.2.1 r5.2.2.2.2 []),(Tm.mk r7.1 r7.2.1 r7.2.2.1 [] r7.2.2.2 [])]) fun r8=>
 aa k (bh k 12 [(Tm.mk r8.1 r8.2.1 r8.2.2.1 [] r8.2.2.2 [])]) fun r9=>
 aa k (bh k 5 [(Tm.mk r9.1 r9.2.1 r9.2.2.1 [] r9.2.2.2 [])]) fun r10=>
 aa k (dR k 0) fun r11=>
 aa k (bh k 5 [(Tm.mk r11.1 r11.2.1 r11.2.2 [] [] [])]) fun r12=>
 aa k (bh k 8 [(Tm.mk r4.1 r4.2.1 r4.2.2.1 [] r4.2.2.2 []),(Tm.mk r10.1 r10.2.1 r10.2.2.1 [] r10.2.2.2 [])]) fun r13=>
 aa k (bh k 5 [(Tm.mk r13.1 r13.2.1 r13.2.2.1 [] r13.2.2.2 [])]) fun r14=>
 aa k (bh k 8 [(Tm.mk r12.1 r12.2.1 r12.2.2.1 [] r12.2.2.2 []),(Tm.mk r14.1 r14.2.1 r14.2.2.1 [] r14.2.2.2 [])]) fun r15=>
 ret (r15.1,r15.2.1,r15.2.2.1,r15.2.2.2)
noncomputable def Ar {S:Type} (k:Nat) (ret:Int×Int×ByteArray×List Tm→Option S):Option S:=Uh k ret
def Ht {S:Type} (k:Nat) (ret:Int→Option S) (t:Tm) (vars dims:Int):Option S:=
 ab (decide ((vars:Int)<0)) (
 ret 2) (
 ab (decide ((dims:Int)<0)) (
  ret 2) (
  ab (decide ((dims:Int)>24)) (
  ret 2) (
  aa k (oj k (ac t)) fun r1=>
  ab (!(r1==0)) (
   ret r1) (
   eF k (ac t) vars dims true fun r2=>
   ab (!r2) (
   ret 100) (
   ret 0)))))
noncomputable def d8 {S:Type} (k:Nat) (t:Tm) (vars dims:Int) (ret:Int→Option S):Option S:=Ht k ret t vars dims
def Uj {S:Type} (k:Nat) (ret:Bool→Option S):Option S:=
 aa k (nR k (Tm.mk 3 0 ByteArray.empty [] [] []) ([]:List Cl) (Tm.mk 20 0 ByteArray.empty [] [] [])) fun r1=>
 aa k (nQ k (Tm.mk 19 0 ByteArray.empty [] [] []) (Tm.mk 20 0 ByteArray.empty [] [] []) ([]:List (Br Tm))) fun r2=>
 ab (r1.2==0) (
 ab (r1.1.kind==14) (
  aa k (vO k r1.1.r [(Cl.mk 0 1)]) fun r3=>
  ab (r3) (
  ab ((r1.1.kids.length:Int)==2) (
   Option.bind (av r1.1.kids 0) fun x4=>
   ab (x4.kind==3) (
   ab (r2.2==0) (
    ab (r2.1.kind==15) (
    ab ((r2.1.sys.length:Int)==1) (
     Option.bind (av r2.1.sys 0) fun x5=>
     aa k (vO k x5.face [(Cl.mk 0 1)]) fun r6=>
     ab (r6) (
     aa k (Ar k) fun r7=>
     aa k (d8 k (Tm.mk r7.1 r7.2.1 r7.2.2.1 [] r7.2.2.2 []) 0 0) fun r8=>
     ret (r8==0)) (
     ret false)) (
     ret false)) (
    ret false)) (
    ret false)) (
   ret false)) (
   ret false)) (
  ret false)) (
  ret false)) (
 ret false)
noncomputable def rT {S:Type} (k:Nat) (ret:Bool→Option S):Option S:=Uj k ret
abbrev JU (S:Type):=Tm→(Int→Option S)→Option S
abbrev JV (S:Type):=Tm→(Int→Option S)→Option S
abbrev JS (S:Type):=Tm→Int→Int→Bool→(Bool→Option S)→Option S
end
end Go.Proofs.YtapmagaejigpnaaGreatDoor
