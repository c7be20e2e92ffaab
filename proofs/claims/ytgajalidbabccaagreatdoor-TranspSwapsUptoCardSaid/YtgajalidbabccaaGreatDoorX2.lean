/- Part 2 of a proof: the sources, with their names and remarks, lie in wip/. -/
import Derived.Test.YtgajalidbabccaaGreatDoorX1
import Derived.LoopN
import Derived.Scope
import Derived.Recover
import Derived.Orders
import Derived.Test.YtgajalidbabccaaGreatDoorProg
import Derived.KernelRfl
namespace Go.Proofs.YtgajalidbabccaaGreatDoor.PI
open Go
set_option linter.unusedVariables false
set_option linter.unusedSimpArgs false
section
variable {U:Uni} {V:Env U} {P:Program} {X:Link V P} {K:bK U} {S:Side U} {c:Ctx} {ops:Array Oper} {σ0 σ1:St U}
theorem rF {o:Oper} {y:Tmp×Nat} (h:rD V S σ0 σ1 o=some y): ∃t z,o.op= .alloc t∧o.dst=some y.1∧o.guard=none∧V.zero t=some z∧y.2=S.boxId y.1∧σ0.b y.2=none∧σ1.b y.2=none∧ ∀e∈o.after.toList,Region.binds .any e=false:=by
 unfold rD at h
 split at h
 case h_2=>cases h
 rename_i t d h1 h2 h3
 cases hb:((V.zero t).isSome&&((σ0.b (S.boxId d)).isNone&&((σ1.b (S.boxId d)).isNone&&(o.after.toList.all fun e=> !Region.binds .any e)))) with
 |false=>rw [hb] at h;cases h
 |true=>
 rw [hb] at h
 injection h with h
 subst h
 simp only [Bool.and_eq_true,Option.isNone_iff_eq_none] at hb
 obtain ⟨a,b,c,d'⟩:=hb
 obtain ⟨z,hz⟩:=Option.isSome_iff_exists.1 a
 exact ⟨t,z,h1,h2,h3,hz,rfl,b,c,fun e he=>by have:=List.all_eq_true.1 d' e he;simpa using this⟩
theorem adq {bf:List Nat} {j:Nat}: ∀ (l:List Oper) (i:Nat) (fps:List (List Loc)) (ll:List (Nat×List Loc)),ops.toList.drop i=l→ol V S σ0 σ1 bf j i l fps=some ll→
  (∀x∈ll,i≤x.1∧x.1<ops.size∧ ∃o y,ops[x.1]? =some o∧rD V S σ0 σ1 o=some y∧x.2=g7 y)∧(ll.map (·.1)).Pairwise (· < ·)∧(∀x∈ll,∀f∈fps,cY f x.2=true)∧ll.Pairwise (fun x y=>cY x.2 y.2=true)∧
  ∀k,i≤k→k<ops.size→k∉ll.map (·.1)→(bf.getD k 0).testBit j=true:=by
 intro l
 induction l with
 |nil=>
  intro i fps ll hd h
  simp only [ol] at h
  injection h with h
  subst h
  refine ⟨by simp,by simp,by simp,by simp,fun k hk hk2 _=> ?_⟩
  exfalso
  have:=congrArg List.length hd
  simp at this;omega
 |cons o l ih=>
  intro i fps ll hd h
  have hi:ops[i]? =some o:=by
   have:=congrArg (·[0]?) hd
   simpa using this
  have his:i<ops.size:=(Array.getElem?_eq_some_iff.1 hi).1
  have hd':ops.toList.drop (i+1)=l:=by rw [←List.drop_drop,hd];rfl
  simp only [ol] at h
  cases hb:(bf.getD i 0).testBit j with
  |true=>
   rw [hb] at h
   obtain ⟨a,b,c,d,e⟩:=ih (i+1) fps ll hd' h
   refine ⟨fun x hx=>by obtain ⟨p,q⟩:=a x hx;exact ⟨by omega,q⟩,b,c,d,fun k hk hk2 hkn=> ?_⟩
   by_cases hki:k=i
   ·rw [hki];exact hb
   ·exact e k (by omega) hk2 hkn
  |false=>
   rw [hb] at h
   simp only [cond_false] at h
   split at h
   case h_2=>cases h
   rename_i y hy
   cases hap:fps.all (fun f=>cY f (g7 y)) with
   |false=>rw [hap] at h;cases h
   |true=>
   rw [hap] at h
   simp only [cond_true] at h
   split at h
   case h_2=>cases h
   rename_i l' hl'
   injection h with h
   subst h
   obtain ⟨a,b,c,d,e⟩:=ih (i+1) (g7 y::fps) l' hd' hl'
   refine ⟨fun x hx=> ?_, ?_,fun x hx f hf=> ?_, ?_,fun k hk hk2 hkn=> ?_⟩
   ·rcases List.mem_cons.1 hx with rfl|hx
    ·exact ⟨Nat.le_refl _,his,o,y,hi,hy,rfl⟩
    ·obtain ⟨p,q⟩:=a x hx;exact ⟨by omega,q⟩
   ·simp only [List.map_cons,List.pairwise_cons]
    refine ⟨fun k hk=> ?_,b⟩
    obtain ⟨x,hx,rfl⟩:=List.mem_map.1 hk
    have:=(a x hx).1
    omega
   ·rcases List.mem_cons.1 hx with rfl|hx
    ·exact List.all_eq_true.1 hap f hf
    ·exact c x hx f (by simp [hf])
   ·simp only [List.pairwise_cons]
    exact ⟨fun x hx=>c x hx _ (by simp),d⟩
   ·simp only [List.map_cons,List.mem_cons,not_or] at hkn
    exact e k (by omega) hk2 hkn.2
theorem adp: ∀ (ll:List (Nat×List Loc)) (σ:St U),(∀x∈ll,∃o y,ops[x.1]? =some o∧rD V S σ0 σ1 o=some y∧x.2=g7 y∧σ.b y.2=none)→ll.Pairwise (fun x y=>cY x.2 y.2=true)→
  ∃σe,SeqR V K S ops (ll.map fun x=>(x.1,x.2,.done)) σ σe:=by
 intro ll
 induction ll with
 |nil=>intro σ _ _;exact ⟨σ,St.eqv.refl _⟩
 |cons x ll ih=>
  intro σ h hp
  obtain ⟨o,y,ho,hy,hx,hb⟩:=h x (by simp)
  obtain ⟨t,z,h1,h2,h3,h4,h5,_⟩:=rF hy
  simp only [List.pairwise_cons] at hp
  obtain ⟨σe,he⟩:=ih ((σ.setB y.2 (.cells z)).setR y.1 (.ptr y.2 0)) (fun x' hx'=>by
   obtain ⟨o',y',a,b,c,d⟩:=h x' (by simp [hx'])
   refine ⟨o',y',a,b,c, ?_⟩
   have hne:y.2≠y'.2:=by
    intro e
    have:=hp.1 x' hx'
    rw [hx,c] at this
    simp [cY,g7,Loc.meets,e] at this
   simp [hne,d]) hp.2
  refine ⟨σe,o,_,ho, ?_,he⟩
  unfold g_
  rw [h3]
  simp only
  unfold ba
  rw [h1]
  simp only [h2,h4,←h5,M.Rel,hb]
  exact ⟨trivial,trivial,by rw [hx];rfl⟩
theorem IX {y:Tmp×Nat} (h:σ0.b y.2=none):PI.harmless σ0 (g7 y)=true:=by
 simp [PI.harmless,g7,h]
theorem afM {fs:List (List Loc)} {f:List Loc} {o:Oper} {σ σa σ' σ'':St U} {v:PV U} (ho:ops[fs.length]? =some o) (hseq:SeqRel V K S ops ((List.range' 0 fs.length).zip fs) σ σa) (hj:(g_ V S o (fA ops.toList)).Rel K σa [] (.raise v) σ' f) (he:σ'.eqv σ'')
  (hf:sZ V S ops.toList σ σ'' (fs++[f])=true): ∃L σe,Raises ops σ L fs.length v∧SeqR V K S ops L σ σe∧Alike σ σ'' σe∧f8 0 ops.toList=true∧fs.length∈L.map (·.1)∧L.length≤ops.size:=by
 unfold sZ at hf
 simp only [Bool.and_eq_true,List.length_append,List.length_singleton,Nat.add_sub_cancel] at hf
 obtain ⟨hfor,hfree,hharm,hlate⟩:=hf
 obtain ⟨ll,hll⟩:=Option.isSome_iff_exists.1 hlate
 obtain ⟨a,b,cc,d,e⟩:=adq (ops:=ops) _ _ _ ll rfl hll
 have hjs:fs.length<ops.size:=(Array.getElem?_eq_some_iff.1 ho).1
 obtain ⟨σe,hse⟩:=adp (K:=K) (V:=V) (S:=S) (ops:=ops) (σ0:=σ) (σ1:=σ'') ll σ' (fun x hx=>by
  obtain ⟨_,_,o',y,h1,h2,h3⟩:=a x hx
  obtain ⟨_,_,_,_,_,_,_,_,h4,_⟩:=rF h2
  exact ⟨o',y,h1,h2,h3,(he.b _).trans h4⟩) d
 generalize hEx:(List.range' 0 fs.length).zip fs=ex at hseq
 have hex:ex.map (·.1)=List.range' 0 fs.length:=by rw [←hEx];exact List.map_fst_zip (by simp)
 have hexm: ∀x∈ex,x.1<fs.length∧fs[x.1]? =some x.2:=by
  intro x hx
  rw [←hEx] at hx
  obtain ⟨i,hi⟩:=List.mem_iff_getElem?.1 hx
  rw [List.getElem?_zip_eq_some] at hi
  obtain ⟨h1,h2⟩:=hi
  have hil:i<fs.length:=(List.getElem?_eq_some_iff.1 h2).1
  have h3:(List.range' 0 fs.length)[i]? =some i:=by simp [hil]
  rw [h3] at h1
  injection h1 with h1
  rw [←h1];exact ⟨hil,h2⟩
 let L:List (Nat×List Loc×MR U):=(ex.map fun x=>(x.1,x.2,MR.done))++((fs.length,f,MR.raise v)::ll.map fun x=>(x.1,x.2,MR.done))
 have hLm:L.map (·.1)=List.range' 0 (fs.length+1)++ll.map (·.1):=by
  simp only [L,List.map_append,List.map_map,List.map_cons]
  have:(fun x:Nat×List Loc×MR U=>x.1)∘(fun x:Nat×List Loc=>(x.1,x.2,(MR.done:MR U)))=fun x=>x.1:=rfl
  rw [this,hex,List.range'_concat]
  simp
 have hinc:(L.map (·.1)).Pairwise (· < ·):=by
  rw [hLm,List.pairwise_append]
  refine ⟨List.pairwise_lt_range',b,fun x hx y hy=> ?_⟩
  obtain ⟨z,hz,rfl⟩:=List.mem_map.1 hy
  have h1:=(a z hz).1
  have h2:x<fs.length+1:=by
   rw [List.mem_range'] at hx
   obtain ⟨i,hi,rfl⟩:=hx;omega
  omega
 have cases3: ∀x∈L,(∃y∈ex,x=(y.1,y.2,.done))∨x=(fs.length,f,.raise v)∨ ∃y∈ll,x=(y.1,y.2,.done):=by
  intro x hx
  simp only [L,List.mem_append,List.mem_map,List.mem_cons] at hx
  rcases hx with ⟨y,hy,rfl⟩|rfl|⟨y,hy,rfl⟩
  ·exact .inl ⟨y,hy,rfl⟩
  ·exact .inr (.inl rfl)
  ·exact .inr (.inr ⟨y,hy,rfl⟩)
 have hLlt: ∀x∈L,x.1<ops.size:=by
  intro x hx
  rcases cases3 x hx with ⟨y,hy,rfl⟩|rfl|⟨y,hy,rfl⟩
  ·have:=(hexm y hy).1;simp only;omega
  ·exact hjs
  ·exact (a y hy).2.1
 have hfps: ∀x∈ex,x.2∈fs++[f]:=fun x hx=>by
  have:=List.mem_of_getElem? (hexm x hx).2
  simp [this]
 refine ⟨L,σe,⟨hinc.imp Nat.ne_of_lt,hLlt, ?_, ?_, ?_, ?_, ?_, ?_⟩, ?_, ?_,hfor, ?_, ?_⟩
 ·
  simp only [L,List.pairwise_append,List.pairwise_cons]
  have fo: ∀p q g h,p<q→(fs++[f])[p]? =some g→(fs++[f])[q]? =some h→((de ops.toList []).getD q 0).testBit p=true∨cY g h=true:=fun p q g h hpq hp hq=>
   H4 _ (fs++[f]) 0 [] rfl hfree p q g h hpq (by simpa using hp) (by simpa using hq) (by simp)
  refine ⟨?_,⟨fun y hy=> ?_, ?_⟩,fun x hx y hy=> ?_⟩
  ·have h1:ex.Pairwise fun x y=>x.1<y.1:=by
    have:(ex.map (·.1)).Pairwise (· < ·):=by rw [hex];exact List.pairwise_lt_range'
    exact List.pairwise_map.1 this
   rw [List.pairwise_map]
   refine (List.Pairwise.and_mem.1 h1).imp fun {x y} h=> ?_
   obtain ⟨hx,hy,hlt⟩:=h
   exact fo x.1 y.1 x.2 y.2 hlt (by rw [List.getElem?_append_left (hexm x hx).1];exact (hexm x hx).2) (by rw [List.getElem?_append_left (hexm y hy).1];exact (hexm y hy).2)
  ·obtain ⟨z,hz,rfl⟩:=List.mem_map.1 hy
   exact .inr (cc z hz f (by simp))
  ·rw [List.pairwise_map]
   exact d.imp fun h=> .inr h
  ·obtain ⟨x',hx',rfl⟩:=List.mem_map.1 hx
   rcases List.mem_cons.1 hy with rfl|hy
   ·exact fo x'.1 fs.length x'.2 f (hexm x' hx').1 (by rw [List.getElem?_append_left (hexm x' hx').1];exact (hexm x' hx').2) (by simp)
   ·obtain ⟨z,hz,rfl⟩:=List.mem_map.1 hy
    exact .inr (cc z hz x'.2 (hfps x' hx'))
 ·
  intro pre x post hpp o' ho' ed hed hb
  have hxL:x∈L:=by rw [hpp];simp
  have hk:x.1≤fs.length∨fs.length<x.1:=by omega
  rcases hk with hk|hk
  ·have hlt:=Bp ops.toList 0 x.1 _ hfor (by simpa using ho') ed hed hb
   rw [Nat.zero_add] at hlt
   have hin:ed.on∈L.map (·.1):=by
    rw [hLm]
    refine List.mem_append.2 (.inl ?_)
    rw [List.mem_range']
    exact ⟨ed.on,by omega,by omega⟩
   rw [hpp,List.map_append,List.map_cons] at hin hinc
   rcases List.mem_append.1 hin with h|h
   ·exact h
   ·exfalso
    rw [List.pairwise_append,List.pairwise_cons] at hinc
    rcases List.mem_cons.1 h with h|h
    ·omega
    ·have:=hinc.2.1.1 ed.on h;omega
  ·exfalso
   rcases cases3 x hxL with ⟨y,hy,rfl⟩|rfl|⟨y,hy,rfl⟩
   ·have:=(hexm y hy).1;simp only at hk;omega
   ·simp at hk
   ·obtain ⟨_,_,o2,y2,h1,h2,_⟩:=a y hy
    simp only at ho'
    rw [h1] at ho'
    injection ho' with ho'
    subst ho'
    obtain ⟨_,_,_,_,_,_,_,_,_,h3⟩:=rF h2
    rw [h3 ed hed] at hb;cases hb
 ·intro x hx hne
  rcases cases3 x hx with ⟨y,hy,rfl⟩|rfl|⟨y,hy,rfl⟩
  ·rfl
  ·exact absurd rfl hne
  ·rfl
 ·intro x hx heq
  rcases cases3 x hx with ⟨y,hy,rfl⟩|rfl|⟨y,hy,rfl⟩
  ·have:=(hexm y hy).1;simp only at heq;omega
  ·rfl
  ·have:=(a y hy).1;simp only at heq;omega
 ·intro x hx hne
  rcases cases3 x hx with ⟨y,hy,rfl⟩|rfl|⟨y,hy,rfl⟩
  ·have:=WS _ _ hharm y.1 (by omega) (by have:=(hexm y hy).1;omega)
   simp only [Bool.or_eq_true] at this
   rcases this with h|h
   ·exact .inl h
   ·refine .inr ?_
    rw [List.getD_eq_getElem?_getD,List.getElem?_append_left (hexm y hy).1,(hexm y hy).2] at h
    exact h
  ·exact absurd rfl hne
  ·obtain ⟨_,_,o2,y2,h1,h2,h3⟩:=a y hy
   obtain ⟨_,_,_,_,_,_,_,h4,_⟩:=rF h2
   refine .inr ?_
   simp only [h3]
   exact IX h4
 ·intro i hi hn
  rw [hLm,List.mem_append,not_or] at hn
  refine e i ?_ hi hn.2
  have: ¬i<fs.length+1:=fun h=>hn.1 (by rw [List.mem_range'];exact ⟨i,h,by omega⟩)
  omega
 ·exact SeqR.append (SeqR.ofSeq hseq) ⟨o,σ',ho,hj,hse⟩
 ·have hh:=SeqR.harmless (σ0:=σ) _ hse (fun x hx=>by
   obtain ⟨y,hy,rfl⟩:=List.mem_map.1 hx
   obtain ⟨_,_,o2,y2,h1,h2,h3⟩:=a y hy
   obtain ⟨_,_,_,_,_,_,_,h4,_⟩:=rF h2
   simp only [h3]
   exact IX h4)
  exact ⟨fun id hid=>(hh.b id hid).trans (he.b id),fun i=>(hh.o i).trans (he.o i),fun i=>(hh.u i).trans (he.u i)⟩
 ·rw [hLm]
  refine List.mem_append.2 (.inl ?_)
  rw [List.mem_range']
  exact ⟨fs.length,by omega,by omega⟩
 ·have h1:(L.map (·.1)).length≤(List.range ops.size).length:=by
   have hnd:(L.map (·.1)).Nodup:=hinc.imp Nat.ne_of_lt
   refine List.Nodup.length_le_of_subset hnd fun i hi=> ?_
   obtain ⟨x,hx,rfl⟩:=List.mem_map.1 hi
   exact List.mem_range.2 (hLlt x hx)
  simpa using h1
theorem afZ {σ τ:St U} (ho:σ.o=τ.o) (hu:σ.u=τ.u) (t:Option (Nat×Bool)) (v:PV U) (K:Kept U):kz σ t v K=kz τ t v K:=by
 unfold kz
 rw [ho,hu]
theorem Xp {σ τ:St U} (ho:σ.o=τ.o) (hu:σ.u=τ.u): ∀ (ts:List (Option (Nat×Bool))) (vs:List (PV U)) (K:Kept U),gG σ ts vs K=gG τ ts vs K:=by
 intro ts
 induction ts with
 |nil=>intro vs K;cases vs<;>rfl
 |cons t ts ih=>
  intro vs K
  cases vs with
  |nil=>rfl
  |cons v vs=>simp only [gG,afZ ho hu,ih]
theorem Xn {σ τ:St U} (ho:σ.o=τ.o) (hu:σ.u=τ.u): ∀ (l:List (Nat×List (Option (Nat×Bool)))) (K:Kept U),(∀x∈l,σ.b x.1=τ.b x.1)→eN σ l K=eN τ l K:=by
 intro l
 induction l with
 |nil=>intro K _;rfl
 |cons x l ih=>
  obtain ⟨n,ts⟩:=x
  intro K h
  have h1:=h (n,ts) (by simp)
  simp only at h1
  have h2: ∀K,eN σ l K=eN τ l K:=fun K=>ih K fun x hx=>h x (by simp [hx])
  simp only [eN,h1,Xp ho hu,h2]
theorem ad1: ∀ (l:List Nat) (n:Nat),n∈nf l→n∈l:=by
 intro l
 induction l with
 |nil=>intro n h;exact h
 |cons m l ih=>
  intro n h
  simp only [nf] at h
  cases hb:l.any (Nat.beq m) with
  |true=>rw [hb] at h;simp [ih n h]
  |false=>
   rw [hb] at h
   rcases List.mem_cons.1 h with rfl|h
   ·simp
   ·simp [ih n h]
theorem adQ {α:Type}: ∀ (l:List (Nat×α)) (n:Nat),n∈l.map (·.1)→(bw l n).isSome=true:=by
 intro l
 induction l with
 |nil=>intro n h;cases h
 |cons x l ih=>
  obtain ⟨m,v⟩:=x
  intro n h
  rw [gk]
  by_cases hm:m=n
  ·rw [if_pos hm];rfl
  ·rw [if_neg hm]
   refine ih n ?_
   simp only [List.map_cons,List.mem_cons] at h
   exact h.resolve_left (Ne.symm hm)
theorem Gp {σ0 σ τ:St U} (h:Alike σ0 σ τ):dm (gA σ0 τ) τ=dm (gA σ0 σ) σ:=by
 have hkeys: ∀id∈nf (σ0.box.map (·.1)),τ.b id=σ.b id:=fun id hid=>h.b id (adQ _ _ (ad1 _ _ hid))
 have hA:gA σ0 τ=gA σ0 σ:=by
  unfold gA
  congr 1
  exact List.map_congr_left fun id hid=>by rw [hkeys id hid]
 rw [hA]
 have hB: ∀K,eN τ (gA σ0 σ).boxes K=eN σ (gA σ0 σ).boxes K:=fun K=>Xn (funext h.o) (funext h.u) _ K fun x hx=>by
  obtain ⟨id,hid,rfl⟩:=List.mem_map.1 hx
  exact hkeys id hid
 unfold dm
 simp only [gA,mI] at hB ⊢
 rw [hB]
end
end Go.Proofs.YtgajalidbabccaaGreatDoor.PI
namespace Go.Proofs.YtgajalidbabccaaGreatDoor.PI
open Go
set_option linter.unusedVariables false
set_option linter.unusedSimpArgs false
section
variable {U:Uni} {V:Env U} {P:Program} {X:Link V P} {K:bK U} {S:Side U} {c:Ctx} {ann:Nat→Option Ann}
theorem Lands.eqv {ds:List Deferred} {e:Ex U} {σ σ':St U} {Q:Exit→Act→World→Prop} (h:Lands X c ds e σ Q) (he:σ'.eqv σ):Lands X c ds e σ' Q:=
 fun a w g D hd hs=>h a w g D hd (hs.eqv he)
def tu (X:Link V P) (c:Ctx):Option Ann→Code→St U→Ex U→St U→Prop
 |none,code,σ,e,σ'=> ∀ (a:Act) (w:World) (g:Gh U) (D:Nat→Option Nat) (Q:Exit→Act→World→Prop),Sim X c a.tmps w σ g D→Lands X c a.defers e σ' Q→code.wp P Q a w
 |some A,code,σ,e,σ'=> ∃n,∀ (a:Act) (w:World) (g:Gh U) (D:Nat→Option Nat) (Q:Exit→Act→World→Prop),Sim X c a.tmps w σ g D→Lands X c a.defers e σ' Q→Code.rounds P code Q n a w
theorem QV {next:Act→World→Prop} {Q:Exit→Act→World→Prop} {ds:List Deferred} {e:Ex U} {σ':St U} (h:Lands X c ds e σ' Q) (he:e≠ .normal):Lands X c ds e σ' (Exit.then next Q):=by
 intro a w g D hd hs
 have:=h a w g D hd hs
 cases e with
 |normal=>exact absurd rfl he
 |exit id=>exact this
 |ret=>exact this
 |panic v=>exact this
theorem aaP {Q:Exit→Act→World→Prop} {ds:List Deferred} {e:Ex U} {σ':St U} {id:Nat} (h:Lands X c ds e σ' Q) (he:e≠ .exit id):Lands X c ds e σ' (Exit.inBlock id Q):=by
 intro a w g D hd hs
 have:=h a w g D hd hs
 cases e with
 |normal=>exact this
 |exit j=>
  have hj:j≠id:=fun h=>he (by rw [h])
  simp only [Exit.inBlock,hj,if_false]
  exact this
 |ret=>exact this
 |panic v=>exact this
theorem ad8 {Q:Exit→Act→World→Prop} {ds:List Deferred} {e:Ex U} {σ':St U} (h:Lands X c ds e σ' Q):Lands X c ds e σ' (Exit.noGoto Q):=by
 intro a w g D hd hs
 have:=h a w g D hd hs
 cases e with
 |normal=>exact this
 |exit id=>exact this
 |ret=>exact this
 |panic v=>exact this
theorem mE (hm:P.follows .mixedOrders=true) (hS:kV X K S c) (hnt:c.nt=S.nt) {o:Option Ann} {code:Code} {σ:St U} {e:Ex U} {σ':St U} (h:Big K V S ann o code σ e σ'):tu X c o code σ e σ':=by
 induction h with
 |skip σ=>exact fun a w g D Q hs hl=>Go.wp_skip (hl a w g D rfl hs)
 |label l σ=>exact fun a w g D Q hs hl=>wp_label (hl a w g D rfl hs)
 |region id ops draw σ e σ' fps hd h hf=>
  intro a w g D Q hs hl
  rw [←hnt] at hd
  cases draw with
  |false=>
   refine wp_region ?_
   rw [List.range_eq_range']
   have:=Rk (Q:=Q) hS ops.toList 0 a w σ g D fps (by simp) hd hs h hl
   simpa using this
  |true=>
   obtain ⟨rfl,hfor,hfree⟩:=hf rfl
   refine wp_region_any hm ?_
   obtain ⟨hlen,hseq⟩:=ahj ops.toList 0 σ σ' fps (by simp) h
   have hlen':fps.length=ops.size:=by simpa using hlen
   refine ajC hS hd hfor hfree hl ops.size _ ((List.range' 0 ops.toList.length).zip fps) a _ σ g D (by simp [hlen']) ⟨by simp, ?_,fun x hx=> ?_,fun k o hk=> ?_⟩ rfl hs.drew hseq
   ·have h1:((List.range' 0 ops.toList.length).zip fps).map (·.1)=List.range' 0 ops.toList.length:=List.map_fst_zip (by simp [hlen'])
    rw [h1,List.filter_eq_self.2,List.range_eq_range']
    ·simp
    ·intro i hi
     have hi':i<ops.size:=List.mem_range.1 hi
     simp [Array.getD_eq_getD_getElem?,hi']
   ·obtain ⟨i,hi⟩:=List.mem_iff_getElem?.1 hx
    rw [List.getElem?_zip_eq_some] at hi
    obtain ⟨h1,h2⟩:=hi
    have hil:i<ops.size:=by have:=(List.getElem?_eq_some_iff.1 h2).1;omega
    have h3:(List.range' 0 ops.toList.length)[i]? =some i:=by simp [hil]
    rw [h3] at h1
    injection h1 with h1
    rw [←h1];exact h2
   ·exfalso
    have:(Array.replicate ops.size false).getD k false=false:=by
     rw [Array.getD_eq_getD_getElem?,Array.getElem?_replicate]
     split<;>rfl
    dsimp only at hk
    rw [this] at hk;cases hk
 |regionP id ops σ v σ' σ'' τ fps hd h he hv hf hc=>
  intro a w g D Q hs hl
  rw [←hnt] at hd
  obtain ⟨fs,f,o,σ1,hfps,ho,hseq,hj⟩:=ahk (ops:=ops) ops.toList 0 σ σ' fps v (by simp) h
  subst hfps
  rw [Nat.zero_add] at ho
  obtain ⟨L,σe,hR,hsq,hal,hfor,hjL,hlen⟩:=afM ho hseq hj he hf
  refine wp_region_any hm ?_
  have hjs:fs.length<ops.size:=(Array.getElem?_eq_some_iff.1 ho).1
  have hrep: ∀i d,(Array.replicate ops.size false).getD i d=(if i<ops.size then false else d):=by
   intro i d
   rw [Array.getD_eq_getD_getElem?,Array.getElem?_replicate]
   split<;>rfl
  have hwp:=ajD (v:=v) hS hd hfor hR (ds:=a.defers) (Q:=Q) (fun a' w' g' D' τ' hdf hs' hal' val hval=>by
    have hc2:dm (gA σ τ') τ'=some τ:=by rw [←Gp hal',Gp hal];exact hc
    obtain ⟨g2,D2,hs2⟩:=uK hs' hc2
    refine hl a' w' g2 D2 hdf hs2 val ?_
    cases v with
    |iface t p=>
     cases p with
     |int k n=>cases hval with
      |iface _ u _ hu=>cases hu;exact .iface _ _ _ (.int _ _)
     |_=>cases hv
    |_=>cases hv) L.length (Array.replicate ops.size false) L a _ σ g D rfl (by simp) ?_ (fun i hi _=>by rw [hrep,if_pos hi]) (by rw [hrep,if_pos hjs]) hjL (fun k o' hk=> ?_) rfl hs.drew hsq
  ·rw [show L.length+(ops.size-L.length)=ops.size by omega] at hwp
   exact hwp
  ·rw [List.filter_eq_self.2]
   intro x hx
   rw [hrep,if_pos (hR.lt x hx)];rfl
  ·exfalso
   dsimp only at hk
   rw [hrep] at hk
   split at hk<;>cases hk
 |seqN x y σ σ1 e σ' h1 h2 i1 i2=>
  intro a w g D Q hs hl
  exact wp_seq (i1 a w g D _ hs fun a' w' g' D' hd hs'=>i2 a' w' g' D' Q hs' (by rw [hd];exact hl))
 |seqJ x y A σ σ1 τ e σ' h1 hA hc h2 i1 i2=>
  intro a w g D Q hs hl
  refine wp_seq (i1 a w g D _ hs fun a' w' g' D' hd hs'=> ?_)
  obtain ⟨g2,D2,hs2⟩:=uK hs' hc
  exact i2 a' w' g2 D2 Q hs2 (by rw [hd];exact hl)
 |seqE x y σ e σ' h1 he i1=>exact fun a w g D Q hs hl=>wp_seq (i1 a w g D _ hs (QV hl he))
 |cond j x y σ t e σ' hj h ih=>
  intro a w g D Q hs hl
  have hR:=hs.regs j
  rw [hj] at hR
  refine wp_cond (t:=t) (jq hR) ?_
  cases t with
  |true=>exact ih a w g D Q hs hl
  |false=>exact ih a w g D Q hs hl
 |blockIn id x σ σ' h ih=>
  intro a w g D Q hs hl
  refine wp_block (ih a w g D _ hs fun a' w' g' D' hd hs'=> ?_)
  simp only [Exit.inBlock,if_true]
  exact hl a' w' g' D' hd hs'
 |blockOut id x σ e σ' h he ih=>exact fun a w g D Q hs hl=>wp_block (ih a w g D _ hs (aaP hl he))
 |loop x A σ τ e σ' hA hc h ih=>
  intro a w g D Q hs hl
  obtain ⟨n,hn⟩:=ih
  obtain ⟨g',D',hs'⟩:=uK hs hc
  exact wp_loop_rounds n (hn a w g' D' Q hs' hl)
 |scope x σ e σ' h ih=>exact fun a w g D Q hs hl=>wp_scope_straight (ih a w g D _ hs (ad8 hl))
 |exit id σ=>exact fun a w g D Q hs hl=>wp_exit (hl a w g D rfl hs)
 |ret σ=>exact fun a w g D Q hs hl=>wp_ret (hl a w g D rfl hs)
 |round x A σ σ1 τ e σ' h hc h' i1 i2=>
  obtain ⟨n,hn⟩:=i2
  refine ⟨n+1,fun a w g D Q hs hl=> ?_⟩
  rw [rounds_succ]
  refine i1 a w g D _ hs fun a' w' g' D' hd hs'=> ?_
  obtain ⟨g2,D2,hs2⟩:=uK hs' hc
  exact hn a' w' g2 D2 Q hs2 (by rw [hd];exact hl)
 |leave x A σ e σ' h he i1=>
  refine ⟨1,fun a w g D Q hs hl=> ?_⟩
  rw [rounds_succ]
  exact i1 a w g D _ hs (QV hl he)
 |pre o x σ0 σ e σ' he h ih=>
  cases o with
  |none=>exact fun a w g D Q hs hl=>ih a w g D Q (hs.eqv he) hl
  |some A=>obtain ⟨n,hn⟩:=ih;exact ⟨n,fun a w g D Q hs hl=>hn a w g D Q (hs.eqv he) hl⟩
 |post o x σ e σ1 σ' he h ih=>
  cases o with
  |none=>exact fun a w g D Q hs hl=>ih a w g D Q hs (hl.eqv he)
  |some A=>obtain ⟨n,hn⟩:=ih;exact ⟨n,fun a w g D Q hs hl=>hn a w g D Q hs (hl.eqv he)⟩
end
end Go.Proofs.YtgajalidbabccaaGreatDoor.PI
namespace Go.Proofs.YtgajalidbabccaaGreatDoor.PI
open Go
set_option linter.unusedVariables false
section
variable {U:Uni} {V:Env U} {P:Program} {X:Link V P} {S:Side U} {c:Ctx}
theorem l7 (hI:jx X) (hS:S.rcv=none) (hP:PinOK S c):kV X (bJ X) S c:=by
 intro o a w σ g D r τ fp gp next Q hd h hr ht
 obtain ⟨dst,op,ty,pos,after,gd⟩:=o
 cases op with
 |move x=>exact aez hd h hr ht
 |assign x=>exact aeg hd h hr ht
 |pick x y z=>exact aeC hd h hr ht
 |alloc t=>exact aef hP hd h hr ht
 |box t x=>exact aei hP hd h hr ht
 |build t ps=>exact aej hd h hr ht
 |buildSlice t n ps=>exact aek hd h hr ht
 |load t x=>exact aet hd h hr ht
 |store t x y=>exact aeE h hr ht
 |nilCheck x=>exact aeA hd h hr ht
 |binOp b t x y u=>exact aeh hd h hr ht
 |unOp u t x=>exact aeG hd h hr ht
 |convert s t x=>exact aen hd h hr ht
 |makeFunc f xs ys=>cases f with
  |func f=>exact aev hd h hr ht
  |_=>exact hr.elim
 |makeInterface t x=>exact aew hd h hr ht
 |typeAssert x s t ok=>cases ok with
  |true=>exact aeF hd h hr ht
  |false=>exact hr.elim
 |makeMap t x=>cases x with
  |none=>exact aex hd h hr ht
  |some x=>exact hr.elim
 |lookup t m x ok=>exact aeu hd h hr ht
 |mapUpdate t m x y=>exact aey h hr ht
 |slice t x lo hi mx=>exact aeD hd h hr ht
 |fieldAddr s x f=>exact aeq hd h hr ht
 |field s x f=>exact aep hd h hr ht
 |indexAddr t x i=>exact aes hd h hr ht
 |index t x i=>exact aer hd h hr ht
 |extract x i=>exact aeo hd h hr ht
 |panic x=>exact aeB h hr ht
 |call cl=>
  cases hc:cl.callee with
  |builtin b=>
   by_cases hb:b= .recover
   ·subst hb
    obtain ⟨callee,args,ats⟩:=cl
    simp only at hc
    subst hc
    simp only [ba,hS] at hr
    exact hr.elim
   ·exact ael hc hb hd h hr ht
  |value f=>exact aem hI hc hd h hr ht
  |invoke x n=>
   obtain ⟨callee,args,ats⟩:=cl
   simp only at hc
   subst hc
   exact hr.elim
 |_=>exact hr.elim
end
end Go.Proofs.YtgajalidbabccaaGreatDoor.PI
namespace Go.Proofs.YtgajalidbabccaaGreatDoor.PI
open Go
set_option linter.unusedVariables false
set_option linter.unusedSimpArgs false
section
variable {U:Uni} {V:Env U} {P:Program} {X:Link V P}
theorem ahE: ∀ (args:List (PV U)) (s n:Nat),bw (th s args) n=if s≤n then (args[n-s]?).map (O9 n) else none:=by
 intro args
 induction args with
 |nil=>intro s n;simp [th,bw]
 |cons p args ih=>
  intro s n
  simp only [th,gk,ih]
  by_cases h:s=n
  ·subst h;simp
  ·rw [if_neg h]
   by_cases h2:s≤n
   ·rw [if_pos h2,if_pos (by omega)]
    obtain ⟨k,rfl⟩: ∃k,n=s+(k+1):=⟨n-s-1,by omega⟩
    rw [show s+(k+1)-(s+1)=k by omega,show s+(k+1)-s=k+1 by omega]
    simp
   ·rw [if_neg h2,if_neg (by omega)]
def ez (args:List (PV U)) (j:Nat):Option (Ob U):=match args[j]? with|some (.fresh e l)=>some ⟨0,e,l⟩|_=>none
theorem O8: ∀ (args:List (PV U)) (s i:Nat),bw (fL s args) i=if 2000000+s≤i then ez args (i-2000000-s) else none:=by
 intro args
 induction args with
 |nil=>intro s i;simp [fL,bw,ez]
 |cons p args ih=>
  intro s i
  have tail:bw (fL (s+1) args) i=if 2000000+s≤i∧i≠2000000+s then ez (p::args) (i-2000000-s) else none:=by
   rw [ih]
   by_cases h:2000000+(s+1)≤i
   ·rw [if_pos h,if_pos ⟨by omega,by omega⟩]
    obtain ⟨k,rfl⟩: ∃k,i=2000000+s+(k+1):=⟨i-2000000-s-1,by omega⟩
    rw [show 2000000+s+(k+1)-2000000-(s+1)=k by omega,show 2000000+s+(k+1)-2000000-s=k+1 by omega]
    simp [ez]
   ·rw [if_neg h,if_neg (by omega)]
  have plain:p.notFresh=true→fL s (p::args)=fL (s+1) args:=by
   intro hp;cases p<;>first|rfl|cases hp
  by_cases hp:p.notFresh=true
  ·rw [plain hp,tail]
   by_cases h1:2000000+s≤i
   ·rw [if_pos h1]
    by_cases h2:i=2000000+s
    ·subst h2
     rw [if_neg (by omega)]
     have:2000000+s-2000000-s=0:=by omega
     rw [this]
     unfold ez
     simp only [List.getElem?_cons_zero]
     cases p<;>first|rfl|cases hp
    ·rw [if_pos ⟨h1,h2⟩]
   ·rw [if_neg h1,if_neg (by omega)]
  ·cases p with
   |fresh e l=>
    simp only [fL,gk,tail]
    by_cases h1:2000000+s=i
    ·subst h1
     rw [if_pos rfl,if_pos (Nat.le_refl _)]
     have:2000000+s-2000000-s=0:=by omega
     rw [this];rfl
    ·rw [if_neg h1]
     by_cases h2:2000000+s≤i
     ·rw [if_pos ⟨h2,Ne.symm h1⟩,if_pos h2]
     ·rw [if_neg (by omega),if_neg h2]
   |_=>exact absurd rfl hp
end
end Go.Proofs.YtgajalidbabccaaGreatDoor.PI
namespace Go.Proofs.YtgajalidbabccaaGreatDoor.PI
open Go
set_option linter.unusedVariables false
set_option linter.unusedSimpArgs false
section
variable {U:Uni} {V:Env U} {P:Program} {X:Link V P}
theorem ajV {boxes:List (Box U)}: ∀ (n s id:Nat) (bs:List (Box U)),n=bs.length→bw ((bS s n).zip bs) id=if s≤id then bs[id-s]? else none:=by
 intro n
 induction n with
 |zero=>intro s id bs h;have:bs=[]:=List.eq_nil_of_length_eq_zero h.symm;subst this;simp [bS,bw]
 |succ n ih=>
  intro s id bs h
  cases bs with
  |nil=>simp at h
  |cons b bs=>
   simp only [bS,List.zip_cons_cons,gk]
   rw [ih (s+1) id bs (by simpa using h)]
   by_cases h1:s=id
   ·subst h1;simp
   ·rw [if_neg h1]
    by_cases h2:s≤id
    ·rw [if_pos h2,if_pos (by omega)]
     obtain ⟨k,rfl⟩: ∃k,id=s+(k+1):=⟨id-s-1,by omega⟩
     rw [show s+(k+1)-(s+1)=k by omega,show s+(k+1)-s=k+1 by omega]
     simp
    ·rw [if_neg h2,if_neg (by omega)]
def eh (n:Nat) (ν:Nat→Nat) (args:List (PV U)) (vs:Array Value):Gh U:=
 ⟨fun id=>if 1000000≤id∧id-1000000<n then some (ν (id-1000000)) else none,
  fun i=>if 2000000≤i then (ez args (i-2000000)).map (fun ob=>(0,ob.e,vs.getD (i-2000000) undef)) else none⟩
def kB (args:List (PV U)) (δ:Nat→Option Nat):Nat→Option Nat:=fun i=>if 2000000≤i then (ez args (i-2000000)).bind fun _=>δ (i-2000000) else none
def fe (w:World) (N0:ax) (n m:Nat) (ν:Nat→Nat) (δ:Nat→Option Nat) (ο:Nat→Array Value) (hoz: ∀b,w.heap.size≤b→ο b= #[]) (nt:Nat) (hnt:nt≤1000000) (h:Bnd w N0 n ν δ) (gl:List (Nat×Obj)) (hgl: ∀b o,(b,o)∈gl→w.heap[b]? =some o∧(∀i,i<n→ν i≠b)∧ ∀j,δ j≠some b):Ctx:=
 ⟨w,N0,lX n m ν δ,nt,fun b o hn=>⟨(h.n0 b o hn).1,fun hm=>by
  rcases List.mem_append.1 hm with hm|hm
  ·obtain ⟨k,hk,e⟩:=List.mem_map.1 hm
   exact (h.n0 b o hn).2.1 k (List.mem_range.1 hk) e
  ·obtain ⟨j,_,hj⟩:=List.mem_filterMap.1 hm
   exact (h.n0 b o hn).2.2 j hj⟩,
  fun id=>if 1000000≤id∧id-1000000<n then some (ν (id-1000000)) else none,fun id k h=>(by
  split at h
  ·rename_i h1;exact ⟨h1.1,Nat.le_trans hnt h1.1⟩
  ·cases h),
  gl,fun b o hb=>⟨(hgl b o hb).1,fun hm=>by
  rcases List.mem_append.1 hm with hm|hm
  ·obtain ⟨k,hk,e⟩:=List.mem_map.1 hm
   exact (hgl b o hb).2.1 k (List.mem_range.1 hk) e
  ·obtain ⟨j,_,hj⟩:=List.mem_filterMap.1 hm
   exact (hgl b o hb).2.2 j hj⟩,ο,hoz⟩
structure CtxOf (c:Ctx) (w:World) (N0:ax) (n m:Nat) (ν:Nat→Nat) (δ:Nat→Option Nat) (ο:Nat→Array Value):Prop where
 cw:c.w0=w
 cN:c.N0=N0
 bl:c.bl=lX n m ν δ
 fix: ∀i,i<n→c.fix (cF i)=some (ν i)
 other: ∀id k,c.fix id=some k→(∃i,i<n∧id=cF i)∨w.heap.size≤k
 bnd:Bnd w N0 n ν δ
 oo:c.ο=ο
theorem ju {w:World} {N0:ax} {n m nt:Nat} {ν:Nat→Nat} {δ:Nat→Option Nat} {ο:Nat→Array Value} {hoz: ∀b,w.heap.size≤b→ο b= #[]} {hnt:nt≤1000000} {h:Bnd w N0 n ν δ} {gl:List (Nat×Obj)} {hgl: ∀b o,(b,o)∈gl→w.heap[b]? =some o∧(∀i,i<n→ν i≠b)∧ ∀j,δ j≠some b}:CtxOf (fe w N0 n m ν δ ο hoz nt hnt h gl hgl) w N0 n m ν δ ο where
 cw:=rfl
 cN:=rfl
 bl:=rfl
 fix i hi:=by
  simp only [fe,cF]
  rw [if_pos ⟨by omega,by omega⟩,show 1000000+i-1000000=i by omega]
 other id k hk:=by
  simp only [fe] at hk
  split at hk
  ·rename_i h1;exact .inl ⟨id-1000000,h1.2,by simp [cF];omega⟩
  ·cases hk
 bnd:=h
 oo:=rfl
variable {w:World} {vs:Array Value} {N0:ax} {ν:Nat→Nat} {δ:Nat→Option Nat} {ο:Nat→Array Value} {args:List (PV U)} {boxes:List (Box U)}
theorem tg {i b:Nat} (h:kB args δ i=some b):2000000≤i∧δ (i-2000000)=some b∧(ez args (i-2000000)).isSome=true:=by
 unfold kB at h
 split at h
 ·rename_i hi
  cases hf:ez args (i-2000000) with
  |none=>rw [hf] at h;cases h
  |some ob=>rw [hf] at h;exact ⟨hi,h,rfl⟩
 ·cases h
theorem ahF (hg:Given X w vs N0 ν δ ο args boxes) (nt:Nat) (hnt:nt≤1000000): ∀b o,((fe w N0 boxes.length args.length ν δ ο hg.oz nt hnt hg.bnd X.gblk hg.glob).N (eh boxes.length ν args vs) (kB args δ)) b o→(NB N0 boxes.length ν δ) b o:=by
 rintro b o (hn|⟨id,hid⟩|⟨i,hi⟩)
 ·exact .inl hn
 ·simp only [eh] at hid
  split at hid
  ·rename_i h1
   injection hid with hid
   exact .inr (.inl ⟨_,h1.2,hid⟩)
  ·cases hid
 ·exact .inr (.inr ⟨_,(tg hi).2.1⟩)
theorem O_ (id:Nat):(fK args boxes).b id=if 1000000≤id then (boxes.map (Box.ren true cF))[id-1000000]? else none:=by
 unfold St.b fK
 simp only
 rw [ajV (boxes:=boxes) _ _ _ _ (by simp)]
 rfl
theorem yv (hg:Given X w vs N0 ν δ ο args boxes) {nt:Nat} (hnt:args.length≤nt) (hnt2:nt≤1000000):
  Sim X (fe w N0 boxes.length args.length ν δ ο hg.oz nt hnt2 hg.bnd X.gblk hg.glob) (vs++Array.replicate (nt-vs.size) undef) w (fK args boxes) (eh boxes.length ν args vs) (kB args δ):=by
 have hsub:=ahF hg nt hnt2
 have hμ: ∀i b,(gB U boxes.length ν).μ i=some b→(eh boxes.length ν args vs).μ (cF i)=some b:=by
  intro i b hb
  simp only [gB] at hb
  split at hb
  ·rename_i hi
   simp only [eh,cF]
   rw [if_pos ⟨by omega,by omega⟩,show 1000000+i-1000000=i by omega]
   exact hb
  ·cases hb
 have hvs: ∀n,n<args.length→(vs++Array.replicate (nt-vs.size) undef).getD n undef=vs.getD n undef:=by
  intro n hn
  have:n<vs.size:=by rw [hg.size];exact hn
  simp [Array.getD_eq_getD_getElem?,Array.getElem?_append,this]
 have ho: ∀i ob,(fK args boxes).o i=some ob→2000000≤i∧ez args (i-2000000)=some ob:=by
  intro i ob h
  unfold St.o fK at h
  simp only [O8] at h
  split at h
  ·rename_i hi;exact ⟨by omega,by simpa using h⟩
  ·cases h
 have hb: ∀id b,(fK args boxes).b id=some b→1000000≤id∧ ∃b0,boxes[id-1000000]? =some b0∧b=b0.ren true cF:=by
  intro id b h
  rw [O_] at h
  by_cases hi:1000000≤id
  ·rw [if_pos hi,List.getElem?_map,Option.map_eq_some_iff] at h
   obtain ⟨b0,h1,h2⟩:=h
   exact ⟨by omega,b0,h1,h2.symm⟩
  ·rw [if_neg hi] at h;cases h
 refine {nt:=by simp [fe,hg.size];omega,regs:=fun n=> ?_,boxes:=fun id b h=> ?_,dom:=fun id k hk=> ?_,inj:=fun id id' k h1 h2=> ?_,new:=fun id k hk=> ?_,objs:=fun i ob h=> ?_,nobj:=fun i h=> ?_,dinj:=fun i j b h1 h2=> ?_,dnew:=fun i b h=> ?_,dbox:=fun i id b h1 h2=> ?_,ext:=Ext.refl _ _,gl:=rfl,fix:=fun id k hk=> .inl hk}
 ·unfold St.r fK
  simp only [ahE,Nat.zero_le,if_true,Nat.sub_zero]
  cases hp:args[n]? with
  |none=>simp only [Option.map_none];exact .undef _
  |some p=>
   simp only [Option.map_some]
   have hn:=(List.getElem?_eq_some_iff.1 hp).1
   rw [hvs n hn]
   have hr:=hg.args n p hp
   by_cases hf:p.notFresh=true
   ·have:=(hr.rep hf).ren (g':=eh boxes.length ν args vs) (N':=(fe w N0 boxes.length args.length ν δ ο hg.oz nt hnt2 hg.bnd X.gblk hg.glob).N (eh boxes.length ν args vs) (kB args δ)) true cF (fun _ _ _ _=>rfl) (fun b o _ h=>hsub b o h) (.inr fun _=>rfl) fun i _ b hb=>hμ i b hb
    cases p<;>first|exact this|cases hf
   ·cases p with
    |fresh e l=>
     obtain ⟨A,n',cp,hval,_⟩:=(show ObOK X w _ _ e l (vs.getD n undef) .wr (δ n) from hr).val
     have hfa:ez args n=some ⟨0,e,l⟩:=by unfold ez;rw [hp]
     refine .own (2000000+n) 0 _ 0 e (vs.getD n undef) ?_ (Nat.le_refl _) (fun _=>rfl) ⟨A,n',cp,hval⟩
     simp only [eh]
     rw [if_pos (by omega),show 2000000+n-2000000=n by omega,hfa];rfl
    |_=>exact absurd rfl hf
 ·obtain ⟨h1,b0,h2,rfl⟩:=hb id b h
  have hlt:=(List.getElem?_eq_some_iff.1 h2).1
  have hμid:(eh boxes.length ν args vs).μ id=some (ν (id-1000000)):=if_pos ⟨h1,hlt⟩
  refine ⟨ν (id-1000000),hμid, ?_⟩
  exact (hg.boxes _ b0 h2).ren true cF rfl (fun _ _ _ _=>rfl) (fun b o _ h=>hsub b o h) (.inr fun _=>rfl) fun i _ b hb=>hμ i b hb
 ·simp only [eh] at hk
  split at hk
  ·rename_i h1
   obtain ⟨hx1,hx2⟩:=h1
   obtain ⟨b0,hb0⟩: ∃b0,boxes[id-1000000]? =some b0:=⟨_,List.getElem?_eq_getElem hx2⟩
   exact ⟨b0.ren true cF,by rw [O_,if_pos hx1,List.getElem?_map,hb0];rfl⟩
  ·cases hk
 ·simp only [eh] at h1 h2
  split at h1
  ·rename_i q1
   split at h2
   ·rename_i q2
    injection h1 with h1
    injection h2 with h2
    have:=hg.bnd.inj _ _ q1.2 q2.2 (h1.trans h2.symm)
    omega
   ·cases h2
  ·cases h1
 ·simp only [eh] at hk
  split at hk
  ·rename_i h1
   injection hk with hk
   subst hk
   exact ⟨hg.bnd.lt _ h1.2,.inl (List.mem_append.2 (.inl (List.mem_map.2 ⟨_,List.mem_range.2 h1.2,rfl⟩)))⟩
  ·cases hk
 ·obtain ⟨h1,h2⟩:=ho i ob h
  have hp: ∃e l,args[i-2000000]? =some (.fresh e l)∧ob=⟨0,e,l⟩:=by
   unfold ez at h2
   split at h2
   ·rename_i e l hq
    injection h2 with h2
    exact ⟨e,l,hq,h2.symm⟩
   ·cases h2
  obtain ⟨e,l,hp,rfl⟩:=hp
  have hO:ObOK X w (NB N0 boxes.length ν δ) (gB U boxes.length ν) e l (vs.getD (i-2000000) undef) .wr (δ (i-2000000)):=hg.args _ _ hp
  refine ⟨vs.getD (i-2000000) undef,by simp only [eh];rw [if_pos h1,h2];rfl, ?_⟩
  have hu:(fK args boxes).u i= .wr:=by
   unfold St.u fK
   simp only
   have hlook: ∀ (l:List (Nat×Ob U)) (n:Nat),bw (l.map fun x=>(x.1,Use.wr)) n=(bw l n).map fun _=>Use.wr:=by
    intro l n
    induction l with
    |nil=>rfl
    |cons x l ih=>
     obtain ⟨m,y⟩:=x
     simp only [List.map_cons,gk,ih]
     split<;>rfl
   rw [hlook]
   have h':bw (fL 0 args) i=some ⟨0,e,l⟩:=h
   rw [h'];rfl
  have hD:kB args δ i=δ (i-2000000):=by simp only [kB];rw [if_pos h1,h2];rfl
  rw [hu,hD]
  exact hO.turn (fun _ _=>rfl) (fun _ _ _ _=>rfl) (fun b o _ h=>hsub b o h)
 ·have hf:2000000≤i→ez args (i-2000000)=none:=by
   intro hi
   have h':bw (fL 0 args) i=none:=h
   rw [O8,if_pos (by omega)] at h'
   simpa using h'
  constructor
  ·simp only [eh]
   split
   ·rename_i hi;rw [hf hi];rfl
   ·rfl
  ·simp only [kB]
   split
   ·rename_i hi;rw [hf hi];rfl
   ·rfl
 ·obtain ⟨a1,a2,_⟩:=tg h1
  obtain ⟨b1,b2,_⟩:=tg h2
  have:=hg.bnd.dinj _ _ _ a2 b2
  omega
 ·obtain ⟨a1,a2,_⟩:=tg h
  exact ⟨hg.bnd.dlt _ _ a2,.inl (List.mem_append.2 (.inr (List.mem_filterMap.2 ⟨_,List.mem_range.2 (hg.dom _ _ a2),a2⟩)))⟩
 ·obtain ⟨a1,a2,_⟩:=tg h1
  simp only [eh] at h2
  split at h2
  ·rename_i q
   injection h2 with h2
   exact hg.bnd.dν _ _ a2 _ q.2 h2
  ·cases h2
end
end Go.Proofs.YtgajalidbabccaaGreatDoor.PI
namespace Go.Proofs.YtgajalidbabccaaGreatDoor.PI
open Go
set_option linter.unusedVariables false
set_option linter.unusedSimpArgs false
section
variable {U:Uni} {V:Env U} {P:Program} {X:Link V P} {K:bK U} {c:Ctx} {tm:Array Value} {w:World} {σ:St U} {g:Gh U} {D:Nat→Option Nat}
variable {r:MR U} {τ:St U} {gp:List Loc}
def ky (tmps:Array Value):ResultVar→Sem Value
 | .tmp t=>pure (tmps.getD t undef)
 | .cell a t=>do loadVar t (←asAddr (tmps.getD a undef))
theorem afW (fn:Func) (tmps:Array Value):results fn tmps=(do
  let vs←fn.results.mapM (ky tmps)
  pure (if h:vs.size=1 then vs[0] else .tuple vs)):=by
 unfold results ky
 rfl
theorem afV (h:Sim X c tm w σ g D): ∀ (res:List ResultVar) {k:List (PV U)→M U} {fp:List Loc},(oJ V res k).Rel K σ fp r τ gp→
  ∃ps us fp',(k ps).Rel K σ fp' r τ gp∧us.length=ps.length∧(∀ (j:Nat) p,ps[j]? =some p→Rep X w (c.N g D) g (us.getD j undef) p)∧(res.mapM (ky tm)).run P w= .ok us w:=by
 intro res
 induction res with
 |nil=>intro k fp hr;exact ⟨[],[],fp,hr,rfl,by simp,by simp⟩
 |cons x res ih=>
  intro k fp hr
  have step: ∀ {p:PV U} {v:Value} {fp1:List Loc},(oJ V res fun vs=>k (p::vs)).Rel K σ fp1 r τ gp→Rep X w (c.N g D) g v p→(ky tm x).run P w= .ok v w→
    ∃ps us fp',(k ps).Rel K σ fp' r τ gp∧us.length=ps.length∧(∀ (j:Nat) p,ps[j]? =some p→Rep X w (c.N g D) g (us.getD j undef) p)∧((x::res).mapM (ky tm)).run P w= .ok us w:=by
   intro p v fp1 hr1 hp hv
   obtain ⟨ps,us,fp',h1,h2,h3,h4⟩:=ih hr1
   refine ⟨p::ps,v::us,fp',h1,by simp [h2],fun j q hq=> ?_,by simp [List.mapM_cons,Sem.run_bind,hv,h4]⟩
   cases j with
   |zero=>simp at hq;subst hq;exact hp
   |succ j=>exact h3 j q (by simpa using hq)
  cases x with
  |tmp t=>exact step hr (h.regs t) (by simp [ky])
  |cell a t=>
   simp only [oJ,M.Rel] at hr
   obtain ⟨x,fp',v,h1,h2,h3⟩:=I4 (a:=⟨tm,[]⟩) h (h.regs a) hr
   refine step h1 h3 ?_
   have h2':=h2
   unfold Instr.loadAt at h2'
   simp only [ky]
   cases hu:tm.getD a undef with
   |pointer q=>
    rw [hu] at h2'
    cases q with
    |none=>simp [Instr.sureAddr] at h2'
    |some q=>simpa [Instr.sureAddr,asAddr] using h2'
   |_=>rw [hu] at h2';simp [Instr.sureAddr] at h2'
theorem Bu: ∀ (l:List Nat) {k:List (Nat×Box U)→M U} {fp:List Loc},(ga l k).Rel K σ fp r τ gp→ ∃bs fp',(k bs).Rel K σ fp' r τ gp∧bs.map (·.1)=l∧ ∀x∈bs,σ.b x.1=some x.2:=by
 intro l
 induction l with
 |nil=>intro k fp hr;exact ⟨[],fp,hr,rfl,by simp⟩
 |cons id l ih=>
  intro k fp hr
  simp only [ga,M.Rel] at hr
  split at hr
  ·rename_i b hb
   obtain ⟨bs,fp',h1,h2,h3⟩:=ih hr
   exact ⟨(id,b)::bs,fp',h1,by simp [h2],fun x hx=>by
    rcases List.mem_cons.1 hx with rfl|hx
    ·exact hb
    ·exact h3 x hx⟩
  ·exact hr.elim
theorem aaE: ∀ (n:Nat) (todo:List Nat) (acc:List (Nat×Box U)) {k:List (Nat×Box U)→M U} {fp:List Loc},(∀x∈acc,σ.b x.1=some x.2)→(rg n todo acc k).Rel K σ fp r τ gp→
  ∃bs fp',(k (acc++bs)).Rel K σ fp' r τ gp∧ ∀x∈acc++bs,σ.b x.1=some x.2:=by
 intro n
 induction n with
 |zero=>intro todo acc k fp _ hr;exact hr.elim
 |succ n ih=>
  intro todo acc k fp hacc hr
  cases todo with
  |nil=>exact ⟨[],fp,by rw [List.append_nil];exact hr,by simpa using hacc⟩
  |cons id todo=>
   simp only [rg] at hr
   split at hr
   ·exact ih todo acc hacc hr
   ·simp only [M.Rel] at hr
    split at hr
    ·rename_i b hb
     obtain ⟨bs,fp',h1,h2⟩:=ih _ _ (fun x hx=>by
      rcases List.mem_append.1 hx with hx|hx
      ·exact hacc x hx
      ·simp at hx;subst hx;exact hb) hr
     exact ⟨(id,b)::bs,fp',by simpa using h1,by simpa using h2⟩
    ·exact hr.elim
theorem RepG.lessN {N N':ax} {v:Value} {Do:Option Nat} {p:PV U} (h:RepG X w N g v Do p) (hN: ∀b o,N' b o→N b o):RepG X w N' g v Do p:=by
 by_cases hp:p.notFresh=true
 ·have:=(h.rep hp).mono X (w':=w) (N':=N') (g':=g) (fun _ _ _ _=>rfl) (fun b o _ hn=>hN b o hn) (Gh.le.refl g)
  cases p<;>first|exact this|cases hp
 ·cases p with
  |fresh e l=>exact ObOK.mono h (fun _ _=>rfl) (fun _ _ _ _=>rfl) (fun b o _ hn=>hN b o hn) (Gh.le.refl g)
  |_=>exact absurd rfl hp
theorem Gc {w0:World} {N0:ax} {n m:Nat} {ν:Nat→Nat} {δ:Nat→Option Nat} {ο:Nat→Array Value} (hc:CtxOf c w0 N0 n m ν δ ο) (hdom: ∀j b,δ j=some b→j<m)
  (h:Sim X c tm w σ g D) {bs:List (Nat×Box U)} {qs:List (PV U)} {vs:Array Value} {ν':Nat→Nat} {δ':Nat→Option Nat} {keep:Bool} {N1:ax}
  (hkeys: ∃more,bs.map (·.1)=bS (cF 0) n++more) (hnd:(bs.map (·.1)).Nodup) (hν: ∀ (k:Nat) id,(bs.map (·.1))[k]? =some id→g.μ id=some (ν' k))
  (hδ: ∀j b,δ' j=some b→ ∃i,D i=some b)
  (hg:Given X w vs N1 ν' δ' ο qs (bs.map fun b=>b.2.ren keep (aP (bs.map (·.1)))))
  (hN1:NB N1 bs.length ν' δ'=c.N g D):
  Back X w0 w N0 ν δ ο n m ν' δ' (bs.map fun b=>b.2.ren keep (aP (bs.map (·.1))))∧ ∀b o,(NB N0 bs.length ν' δ') b o→(NB N1 bs.length ν' δ') b o:=by
 obtain ⟨more,hmore⟩:=hkeys
 obtain ⟨c0,cN,cbl,cfix,cother,hb0,coo⟩:=hc
 have hlen:bs.length=n+more.length:=by have:=congrArg List.length hmore;simpa [w5] using this
 have hext: ∀i,i<n→(bs.map (·.1))[i]? =some (cF i):=by
  intro i hi
  rw [hmore,List.getElem?_append_left (by rw [w5];exact hi),KY _ _ _ hi]
  simp [cF]
 have hold: ∀i,i<n→ν' i=ν i:=by
  intro i hi
  have h1:=hν i _ (hext i hi)
  rcases h.fix _ _ h1 with h2|⟨h2,_⟩
  ·rw [cfix i hi] at h2;injection h2 with h2;exact h2.symm
  ·rw [cfix i hi] at h2;cases h2
 have hμν: ∀i,i<n→g.μ (cF i)=some (ν i):=fun i hi=>by rw [←hold i hi];exact hν i _ (hext i hi)
 have hget: ∀k,k<bs.length→ ∃id,(bs.map (·.1))[k]? =some id∧g.μ id=some (ν' k):=fun k hk=>⟨_,List.getElem?_eq_getElem (by simpa using hk),hν k _ (List.getElem?_eq_getElem (by simpa using hk))⟩
 have hsub: ∀b o,(NB N0 bs.length ν' δ') b o→(NB N1 bs.length ν' δ') b o:=by
  intro b o hn
  rw [hN1]
  rcases hn with hn|⟨k,hk,rfl⟩|⟨j,hj⟩
  ·exact .inl (by rw [cN];exact hn)
  ·obtain ⟨id,_,hid⟩:=hget k hk
   exact .inr (.inl ⟨id,hid⟩)
  ·obtain ⟨i,hi⟩:=hδ j b hj
   exact .inr (.inr ⟨i,hi⟩)
 have hnew: ∀i,n≤i→i<bs.length→w0.heap.size≤ν' i:=by
  intro i hi hlt
  obtain ⟨id,h1,h2⟩:=hget i hlt
  rcases h.fix _ _ h2 with h3|⟨_,h3⟩
  ·rcases cother _ _ h3 with ⟨j,hj,e⟩|h4
   ·exfalso
    subst e
    have h7:=hext j hj
    have:=(List.getElem?_inj (by simpa using hlt) hnd).1 (h1.trans h7.symm)
    omega
   ·exact h4
  ·rw [c0] at h3;exact h3
 have hdnew: ∀j b,δ' j=some b→w0.heap.size≤b∨ ∃i,δ i=some b:=by
  intro j b hj
  obtain ⟨i,hi⟩:=hδ j b hj
  rcases (h.dnew i b hi).2 with h1|h1
  ·rw [cbl] at h1
   rcases List.mem_append.1 h1 with h1|h1
   ·obtain ⟨k,hk,e⟩:=List.mem_map.1 h1
    rw [List.mem_range] at hk
    subst e
    exact absurd (hμν k hk) (h.dbox i _ _ hi)
   ·obtain ⟨k,_,hk⟩:=List.mem_filterMap.1 h1
    exact .inr ⟨k,hk⟩
  ·rw [c0] at h1;exact .inl h1
 have hl:(bs.map fun b=>b.2.ren keep (aP (bs.map (·.1)))).length=bs.length:=by simp
 have hgb:=hg.bnd
 rw [hl] at hgb
 have hex:Ext (lX n m ν δ) w0 w:=by have:=h.ext;rwa [c0,cbl] at this
 refine ⟨⟨hex,by rw [hl];omega,hold,by rw [hl];exact hnew,hdnew, ?_,fun k b hb=> ?_⟩,hsub⟩
 ·rw [hl]
  refine ⟨hgb.inj,hgb.lt,hgb.dlt,hgb.dinj,hgb.dν,fun b o hn=>⟨Nat.lt_of_lt_of_le (hb0.n0 b o hn).1 hex.size,fun i hi e=> ?_,fun j hj=> ?_⟩⟩
  ·by_cases hin:i<n
   ·exact (hb0.n0 b o hn).2.1 i hin (by rw [←hold i hin];exact e)
   ·have:=hnew i (by omega) hi
    have:=(hb0.n0 b o hn).1
    omega
  ·rcases hdnew j b hj with h1|⟨i,h1⟩
   ·have:=(hb0.n0 b o hn).1;omega
   ·exact (hb0.n0 b o hn).2.2 i h1
 ·have:=hg.boxes k b hb
  rw [hl] at this ⊢
  exact this.mono rfl (fun _ _ _ _=>rfl) (fun b o _ hn=>hsub b o hn) (Gh.le.refl _)
end
end Go.Proofs.YtgajalidbabccaaGreatDoor.PI
namespace Go.Proofs.YtgajalidbabccaaGreatDoor.PI
open Go
set_option linter.unusedVariables false
set_option linter.unusedSimpArgs false
section
variable {U:Uni} {V:Env U} {P:Program} {X:Link V P}
theorem RepG.ofAny {w:World} {N:ax} {g:Gh U} {v:Value} {Do:Option Nat} {p:PV U} (h:Rep X w N g v p):RepG X w N g v Do p:=by
 cases p<;>first|exact h|cases h
theorem RepR.ofG {w:World} {N:ax} {g:Gh U} {v:Value} {δ:Nat→Option Nat} {p:PV U} (h:RepG X w N g v (δ 0) p):RepR X w N g v δ p:=by
 cases p with
 |tuple ps=>
  cases (show Rep X w N g v (.tuple ps) from h) with
  |tuple vs _ hl hh=>exact ⟨vs,rfl,hl,fun j p hp=> .ofAny (hh j p hp)⟩
 |_=>exact h
theorem afX {fn:Func} {tmps:Array Value} {us:List Value} {w:World} (h:(fn.results.toList.mapM (ky tmps)).run P w= .ok us w):
  (results fn tmps).run P w= .ok (if h:us.toArray.size=1 then us.toArray[0] else .tuple us.toArray) w:=by
 rw [afW,Array.mapM_eq_mapM_toList]
 simp [Sem.run_bind,h]
variable {w0:World} {N0:ax} {n m:Nat} {ν:Nat→Nat} {δ:Nat→Option Nat} {K:bK U} {c:Ctx}
theorem ajz {w:World} {σ:St U} {g:Gh U} {N:ax} {hand:List Bool} {ps:List (PV U)} {us:List Value} {k:List (PV U)→M U} {fp gp:List Loc} {r:MR U} {τ:St U} (hl:us.length=ps.length) (hp: ∀ (j:Nat) p,ps[j]? =some p→Rep X w N g (us.getD j undef) p)
  (hr:(FF hand ps k).Rel K σ fp r τ gp): ∃qs,(k qs).Rel K σ fp r τ gp∧us.length=qs.length∧ ∀ (j:Nat) p,qs[j]? =some p→Rep X w N g (us.getD j undef) p:=by
 unfold FF at hr
 cases hb:Nat.beq hand.length (ps.length+1) with
 |false=>rw [hb] at hr;exact ⟨ps,hr,hl,hp⟩
 |true=>
  rw [hb] at hr
  simp only [cond_true] at hr
  split at hr
  ·rename_i v
   split at hr
   ·rename_i v' hv
    refine ⟨[v'],hr,hl,fun j p hj=> ?_⟩
    cases j with
    |succ j=>simp at hj
    |zero=>
     simp at hj
     subst hj
     have h0:=hp 0 v rfl
     generalize us.getD 0 undef=u at h0
     unfold PV.asFull at hv
     split at hv
     ·injection hv with hv
      subst hv
      cases h0 with
      |sl A n c e l o val h1 h2 h3 h4 h5=>exact .sl A n c _ _ .full val h1 h2 (by obtain ⟨_,a,b⟩:=h3;rw [a,b]) h4 h5
     ·injection hv with hv
      subst hv
      exact h0
     ·cases hv
   ·exact hr.elim
  ·exact hr.elim
theorem oK {fn:Func} {tm:Array Value} {w:World} {σ:St U} {g:Gh U} {D:Nat→Option Nat} {ο:Nat→Array Value} (hc:CtxOf c w0 N0 n m ν δ ο) (hdom: ∀j b,δ j=some b→j<m) (h:Sim X c tm w σ g D)
  {keep:Bool} {hand:List Bool} {out:Out U} {τ:St U} {fp gp:List Loc} (hr:(hY V keep hand fn.results.toList n).Rel K σ fp (.out out) τ gp):
  ∃v,(results fn tm).run P w= .ok v w∧Ret X w0 N0 ν δ ο n m out (.returned v) w:=by
 unfold hY at hr
 obtain ⟨ps,us,fp1,hr1,hl1,hp1,hrun⟩:=afV h _ hr
 obtain ⟨ps,hr1,hl1,hp1⟩:=ajz hl1 hp1 hr1
 obtain ⟨q1,σ1,D1,fp2,hr2,hF1,hl2,hq1⟩:=H6 hand ps h (fun j=>us.getD j undef) hp1 hr1
 obtain ⟨bs0,fp3,hr3,hk0,hb0'⟩:=Bu _ hr2
 obtain ⟨bs1,fp4,hr4,hb1⟩:=aaE 100 _ bs0 hb0' hr3
 obtain ⟨bs2,σ2,D2,fp5,hr5,hF2,hkeys,hb2⟩:=Bt _ hF1.sim (fun x hx=>hF1.sim.boxes x.1 x.2 (hb1 x hx)) hr4
 have h2:=hF2.sim
 obtain ⟨qs,σ3,fp6,G,δ',hr6,hl6,hSp,_,hδ,hδi,hqs⟩:=H9 h2 hand q1 (fun j=>us.getD j undef) (.refl σ2) (fun j p hp=>hF2.rep (hq1 j p hp)) hr5
 cases hh:iR qs bs2 with
 |false=>rw [hh] at hr6;exact hr6.elim
 |true=>
 rw [hh] at hr6
 obtain ⟨e1,_,_⟩:=hr6
 injection e1 with e1
 subst e1
 have hb2: ∀x∈bs2,il X w (c.N g D2) g ο x:=hc.oo▸hb2
 obtain ⟨ν',hν⟩:=KX hb2
 have hgd: ∀j,us.toArray.getD j undef=us.getD j undef:=fun j=>ny j (by simp)
 obtain ⟨hNB,hg⟩:=Bv h2 keep (ο:=ο) (fun b hb=>by rw [←hc.oo];exact c.oz b (Nat.le_trans h2.ext.size hb)) (vs:=us.toArray) (by simp;omega) hb2 hh (fun j b hj=>by rw [hl6];exact hδ j b hj) hδi (fun j q hq=>by rw [hgd];exact hqs j q hq) hν (F:=fun b=>b.2.ren keep (aP (bs2.map (·.1)))) fun x hx g' t k hμ hbx=>hbx.ren keep _ rfl (fun _ _ _ _=>rfl) (fun _ _ _ h=>h) (.inl hx) hμ
 have hnd:=(rj hh).2.2.1
 obtain ⟨hback,hsub⟩:=Gc hc hdom h2 ⟨bs1.map (·.1),by rw [hkeys,List.map_append,hk0]⟩ hnd hν (fun j b hj=>by obtain ⟨_,i,_,hi⟩:=hδ j b hj;exact ⟨i,hi⟩) hg hNB
 suffices hR:RepR X w (NB N0 bs2.length ν' δ') (gB U bs2.length ν') (if h:us.toArray.size=1 then us.toArray[0] else .tuple us.toArray) δ' (kn (PV.renL keep (aP (bs2.map (·.1))) qs)) by
  have hrr:=afX hrun
  generalize (if h:us.toArray.size=1 then us.toArray[0] else .tuple us.toArray)=v at hR hrr
  have hbl:(bs2.map fun b=>b.2.ren keep (aP (bs2.map (·.1)))).length=bs2.length:=by simp
  have hret:Ret X w0 N0 ν δ ο n m (.ret (kn (PV.renL keep (aP (bs2.map (·.1))) qs)) (bs2.map fun b=>b.2.ren keep (aP (bs2.map (·.1))))) (.returned v) w:=by
   simp only [Ret]
   refine ⟨ν',δ',hback, ?_⟩
   rw [hbl];exact hR
  exact ⟨v,hrr,hret⟩
 have hbl:(bs2.map fun b=>b.2.ren keep (aP (bs2.map (·.1)))).length=bs2.length:=by simp
 have hargs: ∀ (j:Nat) p,(PV.renL keep (aP (bs2.map (·.1))) qs)[j]? =some p→RepG X w (NB N0 bs2.length ν' δ') (gB U bs2.length ν') (us.toArray.getD j undef) (δ' j) p:=fun j p hp=>by
  have:=hg.args j p hp
  rw [hbl] at this
  exact this.lessN hsub
 have hlr:(PV.renL keep (aP (bs2.map (·.1))) qs).length=us.length:=by rw [ee];simp;omega
 generalize PV.renL keep (aP (bs2.map (·.1))) qs=rs at hargs hlr
 by_cases h1:us.toArray.size=1
 ·rw [dif_pos h1]
  have hu1:us.length=1:=by simpa using h1
  obtain ⟨p,rfl⟩: ∃p,rs=[p]:=by
   match rs,hlr with
   |[p],_=>exact ⟨p,rfl⟩
   |[],h=>simp at h;omega
   |_::_::_,h=>simp at h;omega
  have:=hargs 0 p rfl
  have hu:us.toArray.getD 0 undef=us.toArray[0]:=by simp [Array.getD,h1]
  rw [hu] at this
  exact .ofG this
 ·rw [dif_neg h1]
  have hone:kn rs= .tuple rs:=by
   match rs,hlr with
   |[],_=>rfl
   |[p],h=>simp at h h1;omega
   |_::_::_,_=>rfl
  rw [hone]
  exact ⟨us.toArray,rfl,by simpa using hlr.symm,hargs⟩
theorem CV {tm:Array Value} {w:World} {σ:St U} {g:Gh U} {D:Nat→Option Nat} {ο:Nat→Array Value} (hc:CtxOf c w0 N0 n m ν δ ο) (hdom: ∀j b,δ j=some b→j<m) (h:Sim X c tm w σ g D)
  {v:PV U} {val:Value} (hv:Rep X w (c.N g D) g val v) {out:Out U} {τ:St U} {fp gp:List Loc} (hr:(CU v n).Rel K σ fp (.out out) τ gp):
  Ret X w0 N0 ν δ ο n m out (.panicked [{v:=val,recovered:=false}]) w:=by
 unfold CU at hr
 obtain ⟨bs0,fp3,hr3,hk0,hb0'⟩:=Bu _ hr
 obtain ⟨bs2,σ2,D2,fp5,hr5,hF2,hkeys,hb2⟩:=Bt _ h (fun x hx=>h.boxes x.1 x.2 (hb0' x hx)) hr3
 obtain ⟨q,σ3,D3,fp6,hr6,hF3,hq,_⟩:=lu v hF2.sim (hF2.rep hv) hr5
 cases hh:iR [q] bs2 with
 |false=>simp only [hh] at hr6;exact hr6.elim
 |true=>
 simp only [hh] at hr6
 obtain ⟨e1,_,_⟩:=hr6
 injection e1 with e1
 subst e1
 have hb3: ∀x∈bs2,il X w (c.N g D3) g ο x:=fun x hx=>by
  obtain ⟨k,hk,hbx⟩:=hb2 x hx
  rw [hc.oo] at hbx
  exact ⟨k,hk,hbx.mono rfl (fun _ _ _ _=>rfl) (fun b o _ hn=>by
   rcases hn with hn|hn|⟨i,hi⟩
   ·exact .inl hn
   ·exact .inr (.inl hn)
   ·exact .inr (.inr ⟨i,hF3.D i b hi⟩)) (Gh.le.refl g)⟩
 have hkk:bs2.map (·.1)=bS (cF 0) n:=hkeys.trans hk0
 have hlen:bs2.length=n:=by have:=congrArg List.length hkk;simpa [w5] using this
 have hν: ∀ (k:Nat) id,(bs2.map (·.1))[k]? =some id→g.μ id=some (ν k):=by
  intro k id hid
  obtain ⟨x,hx,rfl⟩:=List.mem_map.1 (List.mem_of_getElem? hid)
  obtain ⟨kb,hk,_⟩:=hb3 x hx
  have hkn:k<n:=by have:=(List.getElem?_eq_some_iff.1 hid).1;simp at this;omega
  rw [hkk,KY _ _ _ hkn] at hid
  injection hid with hid
  have hfix:c.fix x.1=some (ν k):=by
   rw [←hid,←hc.fix k hkn]
   simp [cF]
  rcases h.fix _ _ hk with h2|⟨h2,_⟩
  ·rw [hfix] at h2;rw [hk,←h2]
  ·rw [hfix] at h2;cases h2
 obtain ⟨hNB,hg⟩:=Bv (G:=[]) (δ:=fun _=>none) hF3.sim false (ο:=ο) (fun b hb=>by rw [←hc.oo];exact c.oz b (Nat.le_trans h.ext.size hb)) (vs:= #[val]) (by simp) hb3 hh (by simp) (by simp) (fun j q' hq'=>by
  cases j with
  |zero=>simp at hq';subst hq';exact .of hq
  |succ j=>simp at hq') hν (F:=fun b=>b.2.ren false (aP (bs2.map (·.1)))) fun x hx g' t k hμ hbx=>hbx.ren false _ rfl (fun _ _ _ _=>rfl) (fun _ _ _ h=>h) (.inl hx) hμ
 obtain ⟨hback,hsub⟩:=Gc hc hdom hF3.sim ⟨[],by rw [hkk];simp⟩ (rj hh).2.2.1 hν (by simp) hg hNB
 refine ⟨by simp [hlen],val,rfl,hback, ?_⟩
 have hbl:(bs2.map fun b=>b.2.ren false (aP (bs2.map (·.1)))).length=bs2.length:=by simp
 have:=hg.args 0 _ rfl
 rw [hbl] at this
 have:=this.lessN hsub
 rw [hlen] at this
 have hf:(q.ren false (aP (bs2.map (·.1)))).notFresh=true:=by
  rw [ya]
  cases q<;>first|rfl|cases hq
 exact this.rep hf
theorem N9 (hm:P.follows .mixedOrders=true) (hI:jx X) {S:Side U} (hS:S.rcv=none) (hpin:S.pin=fun _=>false) {R:Type} {C:Oracle U R} (hC:C.Tells (bJ X)) {f:FuncId} {fn:Func} (hf:P.funcs[f]? =some fn)
  (hname:(fn.name== "runtime.NumGoroutine")=false) (hbody:fn.body.isNone=false) (hnt:fn.ntmps=S.nt) (hlow:S.nt≤1000000) {args:List (PV U)} {boxes:List (Box U)} (hargs:args.length≤S.nt)
  {ann:Nat→Option Ann} {fuel:Nat} {keep:Bool} {hand:List Bool} {κ:Out U→Option R} {x:R} (h:oN V S C ann fuel keep hand fn args boxes κ=some x): ∃out,κ out=some x∧bJ X f args boxes out:=by
 obtain ⟨code,hcode⟩: ∃code,fn.body=some code:=by
  cases hb:fn.body with
  |none=>rw [hb] at hbody;cases hbody
  |some code=>exact ⟨code,rfl⟩
 unfold oN fh at h
 rw [hcode] at h
 obtain ⟨e,τ,hbig,hk⟩:=yi (bJ X) V S ann hC fuel code h
 have key: ∀ {M:M U} {out:Out U} {τ0:St U} {gp:List Loc},M.Rel (bJ X) τ [] (.out out) τ0 gp→(∀ (w:World) (vs:Array Value) (N0:ax) (ν:Nat→Nat) (δ:Nat→Option Nat) (ο:Nat→Array Value) (hg:Given X w vs N0 ν δ ο args boxes),
   Lands X (fe w N0 boxes.length args.length ν δ ο hg.oz S.nt hlow hg.bnd X.gblk hg.glob) [] e τ (bodyPost P fn (Ret X w N0 ν δ ο boxes.length args.length out)))→bJ X f args boxes out:=by
  intro M out τ0 gp _ hl
  refine ⟨⟨fn,hf,hname,hbody⟩,fun w vs N0 ν δ ο hg=> ?_⟩
  suffices hgoal:Calls P f vs w (Ret X w N0 ν δ ο boxes.length args.length out) from hgoal.mono fun e w h=>Ret.full h
  refine calls_of_wp hf hcode ?_
  have hs:=yv hg hargs hlow
  rw [hnt]
  exact mE hm (l7 hI hS fun d hd=>by rw [hpin] at hd;cases hd) rfl hbig _ w _ _ _ hs (hl w vs N0 ν δ ο hg)
 cases e with
 |exit id=>cases hk
 |normal=>
  obtain ⟨r,τ0,τ1,gp,hr,ht,hfin⟩:=fi hC _ hk (St.eqv.refl τ)
  cases r with
  |out o=>
   refine ⟨o,hfin,key hr fun w vs N0 ν δ ο hg a' w' g' D' hd hs=> ?_⟩
   obtain ⟨v,h1,h2⟩:=oK ju hg.dom hs hr
   exact ⟨hd,v,h1,h2⟩
  |_=>cases hfin
 |ret=>
  obtain ⟨r,τ0,τ1,gp,hr,ht,hfin⟩:=fi hC _ hk (St.eqv.refl τ)
  cases r with
  |out o=>
   refine ⟨o,hfin,key hr fun w vs N0 ν δ ο hg a' w' g' D' hd hs=> ?_⟩
   obtain ⟨v,h1,h2⟩:=oK ju hg.dom hs hr
   exact ⟨hd,v,h1,h2⟩
  |_=>cases hfin
 |panic v=>
  obtain ⟨r,τ0,τ1,gp,hr,ht,hfin⟩:=fi hC _ hk (St.eqv.refl τ)
  cases r with
  |out o=>
   refine ⟨o,hfin,key hr fun w vs N0 ν δ ο hg a' w' g' D' hd hs val hval=> ?_⟩
   exact ⟨hd,CV ju hg.dom hs hval hr⟩
  |_=>cases hfin
end
end Go.Proofs.YtgajalidbabccaaGreatDoor.PI
namespace Go.Proofs.YtgajalidbabccaaGreatDoor.PI
open Go
section
variable {U:Uni} {R:Type} (V:Env U) (S:Side U) (C:Oracle U R) (ann:Nat→Option Ann) (fuel:Nat)
def NU (o:Oper):Option Tmp:=
 match o.dst,o.op,o.guard with
 |some d,.call c,.none=>match c.callee with
  | .builtin .recover=>some d
  |_=> .none
 |_,_,_=> .none
def Oa (v:PV U):Code→St U→(Ex U→St U→Option R)→Option R
 | .seq (.region _ ops draw) b,σ,κ=>match ops.toList with
  |o::more=>match NU o with
   |some d=>bif !draw&&(Nat.blt d S.nt&&more.all (aX S.nt)) then oO V S C ops.toList more [] (σ.setR d v) fun
     | .normal,σ',_=>run V S C ann fuel b σ' κ
     |_,_,_=> .none
    else .none
   | .none=> .none
  |[]=> .none
 |_,_,_=> .none
def DT (keep:Bool) (hand:List Bool) (fn:Func) (v:PV U) (args:List (PV U)) (boxes:List (Box U)) (κ:Out U→Option R):Option R:=
 Oa V S C ann fuel v (fh fn) (fK args boxes) (kF V C keep hand fn boxes.length κ)
def AY:List Oper→Option (Oper×Tmp)
 |[o,q]=>match o.dst,o.guard,q.dst,q.op,q.guard with
  |some m,.none,.none,.defer c,.none=>match c.callee with
   | .value (.tmp n)=>bif Nat.beq m n&&c.args.isEmpty then some (o,n) else .none
   |_=> .none
  |_,_,_,_,_=> .none
 |_=> .none
def PV.pinned:PV U→Bool
 | .ptr id _=>Nat.ble 1000000 id
 |_=>false
def mn:Code→St U→(Ex U→St U→Option R)→(FuncId→List (PV U)→Ex U→St U→Option R)→Option R
 | .seq a b,σ,κ0,κ1=>match a with
  | .region id ops draw=>match AY ops.toList with
   |some (o,n)=>bif !draw&&aX S.nt o then (ba V S o).cps C σ [] fun
     | .done,σ',_=>match σ'.r n with
      | .func h [] caps=>bif caps.all PV.pinned then run V {S with pin:=fun _=>false} C ann fuel b σ' (κ1 h caps) else .none
      |_=> .none
     |_,_,_=> .none
    else .none
   | .none=>run V S C ann fuel (.region id ops draw) σ fun
    | .normal,σ'=>mn b σ' κ0 κ1
    |e,σ'=>κ0 e σ'
  |a=>run V S C ann fuel a σ fun
   | .normal,σ'=>mn b σ' κ0 κ1
   |e,σ'=>κ0 e σ'
 |_,_,_,_=> .none
def kD (Cd:PV U→Oracle U R) (keep:Bool) (hand:List Bool) (fn:Func) (nb:Nat) (κ:Out U→Option R) (h:FuncId) (caps:List (PV U)):Ex U→St U→Option R
 | .normal,σ=>(ga (PV.idsL caps) fun _=>gF (fun _=>0) (fun _=>[]) [] .none (.func h [] caps) []).cps (Cd .nilIface) σ [] fun
  | .done,σ',_=>(hY V keep hand fn.results.toList nb).cps C σ' [] (fin κ)
  |_,_,_=> .none
 | .ret,σ=>(ga (PV.idsL caps) fun _=>gF (fun _=>0) (fun _=>[]) [] .none (.func h [] caps) []).cps (Cd .nilIface) σ [] fun
  | .done,σ',_=>(hY V keep hand fn.results.toList nb).cps C σ' [] (fin κ)
  |_,_,_=> .none
 | .panic v,σ=>match v with
  | .iface t (.int k n)=>(ga (PV.idsL caps) fun _=>gF (fun _=>0) (fun _=>[]) [] .none (.func h [] caps) []).cps (Cd (.iface t (.int k n))) σ [] fun
   | .done,σ',_=>(hY V keep hand fn.results.toList nb).cps C σ' [] (fin κ)
   |_,_,_=> .none
  |_=> .none
 | .exit _,_=> .none
def IV:Code→List Bool→List (St U→Option R)→(Nat→Option Ann)→(Ex U→St U→Option R)→(FuncId→List (PV U)→Ex U→St U→Option R)→Ex U→St U→Option R
 | .seq a b,false::p,rs,an,κ0,κ1=>iY V S C ann fuel a p rs an fun
  | .normal,σ'=>mn V S C ann fuel b σ' κ0 κ1
  |e,σ'=>κ0 e σ'
 | .seq _ b,true::p,rs,an,κ0,κ1=>IV b p rs an κ0 κ1
 |_,_,_,_,κ0,_=>κ0
def DS (Cd:PV U→Oracle U R) (keep:Bool) (hand:List Bool) (fn:Func) (args:List (PV U)) (boxes:List (Box U)) (κ:Out U→Option R):Option R:=
 mn V S C ann fuel (fh fn) (fK args boxes) (kF V C keep hand fn boxes.length κ) (kD V C Cd keep hand fn boxes.length κ)
end
end Go.Proofs.YtgajalidbabccaaGreatDoor.PI
namespace Go.Proofs.YtgajalidbabccaaGreatDoor.PI
open Go
set_option linter.unusedVariables false
set_option linter.unusedSimpArgs false
section
variable {U:Uni} {V:Env U} {P:Program} {X:Link V P}
inductive RcvOK:PV U→FrameMode→FrameMode→Prop
 |nil:RcvOK .nilIface .returning .returning
 |err (t:TypeId) (k:IntKind) (n:Int):RcvOK (.iface t (.int k n)) (.panicking [{v:= .iface t (.int k n),recovered:=false}]) (.panicking [{v:= .iface t (.int k n),recovered:=true}])
def io (P:Program) (u u':FrameMode):FuncId→Array Value→World→(Ending→World→Prop)→Prop:=fun f vs w R=>CallsD P f vs u w fun e u2 w'=>u2=u'∧R e w'
theorem ajE {ops:Array Oper} {cs:List Frame} {Q:Exit→Act→List Frame→World→Prop} (hQ: ¬LetsOut (fun e a' w'=>Q e a' cs w')): ∀ (l:List Nat) (a:Act) (w:World),wpOps P ops (fun e a' w'=>Q e a' cs w') l a w→wpOpsS P ops Q l a cs w:=by
 intro l
 induction l with
 |nil=>intro a w h;exact h
 |cons i l ih=>
  intro a w h
  simp only [wpOps,wpOpsS] at h ⊢
  cases ho:ops[i]? with
  |none=>rw [ho] at h;exact ih _ _ h
  |some o=>
   rw [ho] at h
   simp only at h ⊢
   split
   ·rename_i hw
    rw [if_pos hw] at h
    have h:=h.resolve_right fun h=>hQ h.2
    have h:=Oper.wp_mono ih h
    unfold Oper.wp at h
    split
    ·rename_i w' hrun
     rw [hrun] at h
     exact h.elim
    ·exact h
   ·rename_i hw
    rw [if_neg hw] at h
    exact ih _ _ h
theorem af4 (hm:P.follows .mixedOrders=true) (hI:jx X) {S:Side U} (hS:S.rcv=none) (hpin:S.pin=fun _=>false) {R:Type} {C:Oracle U R} (hC:C.Tells (bJ X)) {f:FuncId} {fn:Func} (hf:P.funcs[f]? =some fn)
  (hname:(fn.name== "runtime.NumGoroutine")=false) (hbody:fn.body.isNone=false) (hnt:fn.ntmps=S.nt) (hlow:S.nt≤1000000) {v:PV U} {u u':FrameMode} (hv:RcvOK v u u') {args:List (PV U)} {boxes:List (Box U)} (hargs:args.length≤S.nt)
  {ann:Nat→Option Ann} {fuel:Nat} {keep:Bool} {hand:List Bool} {κ:Out U→Option R} {x:R} (h:DT V S C ann fuel keep hand fn v args boxes κ=some x): ∃out,κ out=some x∧gD X (io P u u') f args boxes out:=by
 obtain ⟨code,hcode⟩: ∃code,fn.body=some code:=by
  cases hb:fn.body with
  |none=>rw [hb] at hbody;cases hbody
  |some code=>exact ⟨code,rfl⟩
 unfold DT fh at h
 rw [hcode] at h
 simp only at h
 unfold Oa at h
 split at h
 case h_2=>cases h
 rename_i id ops draw b
 split at h
 case h_2=>cases h
 rename_i o more hops
 split at h
 case h_2=>cases h
 rename_i d hrec
 cases hc:(!draw&&(Nat.blt d S.nt&&more.all (aX S.nt))) with
 |false=>rw [hc] at h;cases h
 |true=>
 rw [hc] at h
 simp only [cond_true] at h
 simp only [Bool.and_eq_true,Bool.not_eq_true'] at hc
 obtain ⟨hdraw,hd,hall⟩:=hc
 subst hdraw
 have hd:d<S.nt:=by simpa using hd
 unfold NU at hrec
 obtain ⟨dst,op,ty,pos,after,gd⟩:=o
 simp only at hrec
 split at hrec
 case h_2=>cases hrec
 rename_i d0 cl
 split at hrec
 case h_2=>cases hrec
 rename_i hcl
 injection hrec with hrec
 subst hrec
 obtain ⟨e1,fps,τ0,τ1,hops1,ht1,hk1⟩:=N_ (bJ X) V S hC ops.toList more h (St.eqv.refl _)
 cases e1 with
 |exit id=>cases hk1
 |ret=>cases hk1
 |panic v=>cases hk1
 |normal=>
 simp only at hk1
 obtain ⟨e,τ,hbig,hk⟩:=yi (bJ X) V S ann hC fuel b hk1
 have hsz:ops.size=more.length+1:=by have:=congrArg List.length hops;simpa using this
 have key: ∀ {out:Out U},(∀ (w:World) (vs:Array Value) (N0:ax) (ν:Nat→Nat) (δ:Nat→Option Nat) (ο:Nat→Array Value) (hg:Given X w vs N0 ν δ ο args boxes),
   Lands X (fe w N0 boxes.length args.length ν δ ο hg.oz S.nt hlow hg.bnd X.gblk hg.glob) [] e τ (bodyPost P fn (Ret X w N0 ν δ ο boxes.length args.length out)))→gD X (io P u u') f args boxes out:=by
  intro out hl
  refine ⟨⟨fn,hf,hname,hbody⟩,fun w vs N0 ν δ ο hg=> ?_⟩
  suffices hgoal:io P u u' f vs w (Ret X w N0 ν δ ο boxes.length args.length out) from CallsD.mono hgoal fun e u2 w2 h=>⟨h.1,Ret.full h.2⟩
  refine callsD_of_wpS hf hcode fun c₀ cs hu=> ?_
  have hs:=yv hg hargs hlow
  rw [hnt]
  have hl:=hl w vs N0 ν δ ο hg
  generalize hcx:fe w N0 boxes.length args.length ν δ ο hg.oz S.nt hlow hg.bnd X.gblk hg.glob=c at hs hl
  have hcnt:c.nt=S.nt:=by rw [←hcx];rfl
  have hOS:kV X (bJ X) S c:=l7 hI hS fun d hd=>by rw [hpin] at hd;cases hd
  obtain ⟨val,cs2,hrv,hrep⟩: ∃val cs2,(match recoverD (c₀::cs) with|some (v,cs')=>v=val∧cs'=cs2|none=>val= .nilIface∧cs2=c₀::cs)∧(∃c1:Frame,cs2={c₀ with mode:=u'}::cs)∧ ∀ (w:World) (N:ax) (g:Gh U),Rep X w N g val v:=by
   cases hv with
   |nil=>
    refine ⟨.nilIface,c₀::cs, ?_,⟨c₀, ?_⟩,fun _ _ _=> .nilIface⟩
    ·simp [recoverD,hu]
    ·rw [←hu]
   |err t k n=>
    refine ⟨.iface t (.int k n),_, ?_,⟨c₀,rfl⟩,fun _ _ _=> .iface _ _ _ (.int _ _)⟩
    simp [recoverD,hu]
  obtain ⟨⟨_,hcs2⟩,hrep⟩:=hrep
  refine wpS_seq (wpS_region ?_)
  rw [hsz,List.range_eq_range',List.range'_succ]
  have h0:ops[0]? =some ⟨some d0,.call cl,ty,pos,after,none⟩:=by rw [←Array.getElem?_toList,hops];rfl
  simp only [wpOpsS,h0]
  have hrun:(execOp (Act.eval ⟨vs++Array.replicate (S.nt-vs.size) undef,[]⟩) ⟨some d0,.call cl,ty,pos,after,none⟩).run P w= .ok .recover w:=by
   rw [Oe hcl]
   simp [builtin]
  rw [if_pos (by simp [Region.wanted]),hrun]
  simp only
  have hnext:wpOpsS P ops (Exit.thenS (b.wpS P (bodyPostS P fn c₀ cs fun e u2 w'=>u2=u'∧Ret X w N0 ν δ ο boxes.length args.length out e w')) (bodyPostS P fn c₀ cs fun e u2 w'=>u2=u'∧Ret X w N0 ν δ ο boxes.length args.length out e w')) (List.range' (0+1) more.length)
    (Act.put ⟨vs++Array.replicate (S.nt-vs.size) undef,[]⟩ (some d0) val) cs2 w:=by
   have hs1:=hs.put (d:=d0) (by rw [hcnt];exact hd) (hrep w _ _)
   have hLO: ∀ {next:Act→List Frame→World→Prop},¬LetsOut (fun e a' w'=>Exit.thenS next (bodyPostS P fn c₀ cs fun e u2 w'=>u2=u'∧Ret X w N0 ν δ ο boxes.length args.length out e w') e a' cs2 w'):=by
    rintro next ⟨a',w',u2,_,hq⟩
    exact hq
   refine ajE hLO _ _ _ ?_
   refine Rk hOS more 1 _ w _ _ _ fps (by rw [hops];rfl) (by rw [hcnt];exact hall) hs1 hops1 ?_
   intro a2 w2 g2 D2 hd2 hs2
   simp only [Exit.thenS]
   refine wpS_of_wp (mE hm hOS hcnt hbig a2 w2 g2 D2 _ (hs2.eqv ht1) ?_)
   intro a3 w3 g3 D3 hd3 hs3
   have hd0:a3.defers=[]:=hd3.trans hd2
   have hb:=hl a3 w3 g3 D3 hd0 hs3
   rw [hcs2]
   cases e with
   |normal=>obtain ⟨q1,v1,q2,q3⟩:=hb;exact ⟨q1,u',rfl,v1,q2,rfl,q3⟩
   |ret=>obtain ⟨q1,v1,q2,q3⟩:=hb;exact ⟨q1,u',rfl,v1,q2,rfl,q3⟩
   |exit id=>exact hb.elim
   |panic pv=>intro val' hval';obtain ⟨q1,q3⟩:=hb val' hval';exact ⟨q1,u',rfl,rfl,q3⟩
  cases hrd:recoverD (c₀::cs) with
  |none=>rw [hrd] at hrv;obtain ⟨rfl,rfl⟩:=hrv;exact hnext
  |some p=>obtain ⟨v1,cs1⟩:=p;rw [hrd] at hrv;obtain ⟨rfl,rfl⟩:=hrv;exact hnext
 cases e with
 |exit id=>cases hk
 |normal=>
  obtain ⟨r,τ0,τ1,gp,hr,ht,hfin⟩:=fi hC _ hk (St.eqv.refl τ)
  cases r with
  |out o=>
   refine ⟨o,hfin,key fun w vs N0 ν δ ο hg a' w' g' D' hd hs=> ?_⟩
   obtain ⟨v,h1,h2⟩:=oK ju hg.dom hs hr
   exact ⟨hd,v,h1,h2⟩
  |_=>cases hfin
 |ret=>
  obtain ⟨r,τ0,τ1,gp,hr,ht,hfin⟩:=fi hC _ hk (St.eqv.refl τ)
  cases r with
  |out o=>
   refine ⟨o,hfin,key fun w vs N0 ν δ ο hg a' w' g' D' hd hs=> ?_⟩
   obtain ⟨v,h1,h2⟩:=oK ju hg.dom hs hr
   exact ⟨hd,v,h1,h2⟩
  |_=>cases hfin
 |panic v=>
  obtain ⟨r,τ0,τ1,gp,hr,ht,hfin⟩:=fi hC _ hk (St.eqv.refl τ)
  cases r with
  |out o=>
   refine ⟨o,hfin,key fun w vs N0 ν δ ο hg a' w' g' D' hd hs val hval=> ?_⟩
   exact ⟨hd,CV ju hg.dom hs hval hr⟩
  |_=>cases hfin
end
end Go.Proofs.YtgajalidbabccaaGreatDoor.PI
namespace Go.Proofs.YtgajalidbabccaaGreatDoor.PI
open Go
set_option linter.unusedVariables false
set_option linter.unusedSimpArgs false
section
variable {U:Uni} {V:Env U} {P:Program} {X:Link V P}
def Ctx.refix (c:Ctx) (μ:Nat→Option Nat) (L:List Nat) (hnt:c.nt≤1000000) (hL: ∀id∈L,1000000≤id):Ctx:=
 {c with
  fix:=fun id=>if id∈L then μ id else c.fix id
  low:=fun id k h=>by
   split at h
   ·rename_i h1;exact ⟨hL id h1,Nat.le_trans hnt (hL id h1)⟩
   ·exact c.low id k h}
theorem Sim.refix {c:Ctx} {tm:Array Value} {w:World} {σ:St U} {g:Gh U} {D:Nat→Option Nat} (h:Sim X c tm w σ g D) {L:List Nat} {hnt:c.nt≤1000000} {hL: ∀id∈L,1000000≤id}:
  Sim X (c.refix g.μ L hnt hL) tm w σ g D where
 nt:=h.nt
 regs:=h.regs
 boxes:=h.boxes
 dom:=h.dom
 inj:=h.inj
 new:=h.new
 objs:=h.objs
 nobj:=h.nobj
 dinj:=h.dinj
 dnew:=h.dnew
 dbox:=h.dbox
 ext:=h.ext
 gl:=h.gl
 fix:=fun id k hk=>by
  simp only [Ctx.refix]
  by_cases hin:id∈L
  ·rw [if_pos hin];exact .inl hk
  ·rw [if_neg hin];exact h.fix id k hk
theorem CtxOf.refix {c:Ctx} {tm:Array Value} {w:World} {σ:St U} {g:Gh U} {D:Nat→Option Nat} (h:Sim X c tm w σ g D) {L:List Nat} {hnt:c.nt≤1000000} {hL: ∀id∈L,1000000≤id} (hLμ: ∀id∈L,∃b,g.μ id=some b)
  {w0:World} {N0:ax} {n m:Nat} {ν:Nat→Nat} {δ:Nat→Option Nat} {ο:Nat→Array Value} (hc:CtxOf c w0 N0 n m ν δ ο):CtxOf (c.refix g.μ L hnt hL) w0 N0 n m ν δ ο where
 cw:=hc.cw
 cN:=hc.cN
 bl:=hc.bl
 fix i hi:=by
  simp only [Ctx.refix]
  by_cases hin:cF i∈L
  ·rw [if_pos hin]
   obtain ⟨b,hb⟩:=hLμ _ hin
   rcases h.fix _ _ hb with h1|⟨h1,_⟩
   ·rw [hb,←h1];exact hc.fix i hi
   ·rw [hc.fix i hi] at h1;cases h1
  ·rw [if_neg hin];exact hc.fix i hi
 other id k hk:=by
  simp only [Ctx.refix] at hk
  by_cases hin:id∈L
  ·rw [if_pos hin] at hk
   rcases h.fix _ _ hk with h1|⟨_,h1⟩
   ·exact hc.other id k h1
   ·rw [hc.cw] at h1;exact .inr h1
  ·rw [if_neg hin] at hk;exact hc.other id k hk
 bnd:=hc.bnd
 oo:=hc.oo
def yK (c':Ctx) (caps:List (PV U)) (us:Array Value):Prop:=us.size=caps.length∧ ∀ (j:Nat) p,caps[j]? =some p→ ∃id off b,p= .ptr id off∧c'.fix id=some b∧us.getD j undef= .pointer (some ⟨b,off,none⟩)
def yM (X:Link V P) (S:Side U) (code:Code) (σ:St U) (h:FuncId) (caps:List (PV U)) (e:Ex U) (τ:St U):Prop:=
 ∀ (c:Ctx),PinOK S c→c.nt=S.nt→ ∀ (a:Act) (w:World) (g:Gh U) (D:Nat→Option Nat) (Q:Exit→Act→World→Prop),Sim X c a.tmps w σ g D→a.defers=[]→
  (∀ (us:Array Value) (c':Ctx),(∀w0 N0 n m ν δ ο,CtxOf c w0 N0 n m ν δ ο→CtxOf c' w0 N0 n m ν δ ο)→c'.nt=c.nt→yK c' caps us→Lands X c' [{target:= .fn (.func h) us,args:= #[]}] e τ Q)→code.wp P Q a w
theorem XC {l:List Oper} {o:Oper} {n:Tmp} (h:AY l=some (o,n)): ∃q cl,l=[o,q]∧o.dst=some n∧o.guard=none∧q.dst=none∧q.op= .defer cl∧q.guard=none∧cl.callee= .value (.tmp n)∧cl.args= #[]:=by
 unfold AY at h
 split at h
 case h_2=>cases h
 rename_i o' q
 split at h
 case h_2=>cases h
 rename_i m cl h1 h2 h3 h4 h5
 split at h
 case h_2=>cases h
 rename_i n' hcl
 cases hb:(Nat.beq m n'&&cl.args.isEmpty) with
 |false=>rw [hb] at h;cases h
 |true=>
 rw [hb] at h
 injection h with h
 injection h with e1 e2
 subst e1;subst e2
 simp only [Bool.and_eq_true] at hb
 have hmn:m=n':=by simpa using hb.1
 subst hmn
 exact ⟨q,cl,rfl,h1,h2,h3,h4,h5,hcl,by simpa using hb.2⟩
theorem af3 (hm:P.follows .mixedOrders=true) (hI:jx X) {S:Side U} (hS:S.rcv=none) (hlow:S.nt≤1000000) {R:Type} {C:Oracle U R} (hC:C.Tells (bJ X)) {ann:Nat→Option Ann} {fuel:Nat}:
  ∀ (code:Code) {σ:St U} {κ0:Ex U→St U→Option R} {κ1:FuncId→List (PV U)→Ex U→St U→Option R} {x:R},mn V S C ann fuel code σ κ0 κ1=some x→
   (∃e τ,e≠ .normal∧κ0 e τ=some x∧ ∀c,PinOK S c→c.nt=S.nt→tu X c none code σ e τ)∨
   (∃h caps e τ,κ1 h caps e τ=some x∧yM X S code σ h caps e τ):=by
 intro code
 induction code with
 |seq a b iha ihb=>
  intro σ κ0 κ1 x h
  have step:run V S C ann fuel a σ (fun| .normal,σ'=>mn V S C ann fuel b σ' κ0 κ1|e,σ'=>κ0 e σ')=some x→
    (∃e τ,e≠ .normal∧κ0 e τ=some x∧ ∀c,PinOK S c→c.nt=S.nt→tu X c none (.seq a b) σ e τ)∨
    (∃h caps e τ,κ1 h caps e τ=some x∧yM X S (.seq a b) σ h caps e τ):=by
   intro h
   obtain ⟨e,τ,hbig,hk⟩:=yi (bJ X) V S ann hC fuel a h
   have early:e≠ .normal→κ0 e τ=some x→_:=fun he hk=>(.inl ⟨e,τ,he,hk,fun c hP hnt=>mE hm (l7 hI hS hP) hnt (.seqE a b _ _ _ hbig he)⟩:
    (∃e τ,e≠ .normal∧κ0 e τ=some x∧ ∀c,PinOK S c→c.nt=S.nt→tu X c none (.seq a b) σ e τ)∨(∃h caps e τ,κ1 h caps e τ=some x∧yM X S (.seq a b) σ h caps e τ))
   cases e with
   |normal=>
    rcases ihb hk with ⟨e',τ',he',hk',hB⟩|⟨hh,caps,e',τ',hk',hB⟩
    ·exact .inl ⟨e',τ',he',hk',fun c hP hnt a' w g D Q hs hl=>wp_seq (mE hm (l7 hI hS hP) hnt hbig a' w g D _ hs fun a2 w2 g2 D2 hd2 hs2=>hB c hP hnt a2 w2 g2 D2 Q hs2 (by rw [hd2];exact hl))⟩
    ·exact .inr ⟨hh,caps,e',τ',hk',fun c hP hnt a' w g D Q hs hd hl=>wp_seq (mE hm (l7 hI hS hP) hnt hbig a' w g D _ hs fun a2 w2 g2 D2 hd2 hs2=>hB c hP hnt a2 w2 g2 D2 Q hs2 (hd2.trans hd) hl)⟩
   |exit id=>exact early (by simp) hk
   |ret=>exact early (by simp) hk
   |panic v=>exact early (by simp) hk
  clear iha
  unfold mn at h
  split at h
  case h_2=>exact step h
  rename_i id ops draw
  split at h
  case h_2=>exact step h
  rename_i o n hdfr
  obtain ⟨q,cl,hops,ho1,ho2,hq1,hq2,hq3,hcl,hargs⟩:=XC hdfr
  cases hc:(!draw&&aX S.nt o) with
  |false=>rw [hc] at h;cases h
  |true=>
  rw [hc] at h
  simp only [cond_true] at h
  simp only [Bool.and_eq_true,Bool.not_eq_true'] at hc
  obtain ⟨hdraw,hdo⟩:=hc
  subst hdraw
  obtain ⟨r,τ0,τ,gp,hrel,ht,hk⟩:=fi hC _ h (St.eqv.refl σ)
  cases r with
  |raise v=>cases hk
  |out o=>cases hk
  |done=>
  simp only at hk
  split at hk
  case h_2=>cases hk
  rename_i hh caps hfun
  cases hp:caps.all PV.pinned with
  |false=>rw [hp] at hk;cases hk
  |true=>
  rw [hp] at hk
  simp only [cond_true] at hk
  obtain ⟨e,τ2,hbig,hk2⟩:=yi (bJ X) V {S with pin:=fun _=>false} ann hC fuel b hk
  refine .inr ⟨hh,caps,e,τ2,hk2,fun c hP hnt a w g D Q hs hdef hl=>wp_seq (wp_region ?_)⟩
  have hsz:ops.size=2:=by have:=congrArg List.length hops;simpa using this
  have h0:ops[0]? =some o:=by rw [←Array.getElem?_toList,hops];rfl
  have h1:ops[1]? =some q:=by rw [←Array.getElem?_toList,hops];rfl
  rw [hsz,show List.range 2=[0,1] from rfl]
  simp only [wpOps,h0,h1]
  rw [if_pos (by simp [Region.wanted,ho2])]
  refine .inl (l7 hI hS hP o a w σ g D .done τ0 [] gp _ _ (by rw [hnt];exact hdo) hs hrel ⟨fun _ a2 w2 g2 D2 hd2 hs2=> ?_,fun v hv=>by cases hv⟩)
  rw [if_pos (by simp [Region.wanted,hq3])]
  refine .inl ?_
  have hs3:=hs2.eqv ht
  have hR:=hs3.regs n
  rw [hfun] at hR
  generalize hev:a2.tmps.getD n undef=ev at hR
  cases hR with
  |func _ _ _ vs us hvs hus hf1 hf2=>
  have hvs0:vs= #[]:=by
   have:vs.size=0:=by simpa using hvs
   exact Array.eq_empty_of_size_eq_zero this
  subst hvs0
  obtain ⟨qd,qo,qt,qp,qa,qg⟩:=q
  simp only at hq1 hq2 hq3
  subst hq1;subst hq2;subst hq3
  have hrun:(execOp a2.eval ⟨none,.defer cl,qt,qp,qa,none⟩).run P w2= .ok (.defer {target:= .fn (.func hh) us,args:= #[]}) w2:=by
   have hev':a2.eval (.tmp n)= .func (.func hh) #[] us:=hev
   simp [execOp,resolve,hcl,hargs,hev',Deferred.ofValue]
  unfold Oper.wp
  rw [hrun,Oper.upon_defer]
  have hids: ∀id∈PV.idsL caps,1000000≤id∧ ∃b,g2.μ id=some b:=by
   intro id hid
   obtain ⟨p,hpm,hpi⟩: ∃p∈caps,id∈p.ids:=by
    clear hl hk2 hbig hk hf1 hf2 hus hfun hp h step
    induction caps with
    |nil=>cases hid
    |cons p caps ih=>
     simp only [PV.idsL,List.mem_append] at hid
     rcases hid with hid|hid
     ·exact ⟨p,by simp,hid⟩
     ·obtain ⟨q,hq,hqi⟩:=ih hid;exact ⟨q,by simp [hq],hqi⟩
   have hpp:=List.all_eq_true.1 hp p hpm
   obtain ⟨j,hj⟩:=List.mem_iff_getElem?.1 hpm
   have hr:=hf2 j p hj
   cases p with
   |ptr id' off=>
    simp only [PV.ids,List.mem_singleton] at hpi
    subst hpi
    refine ⟨by simpa [PV.pinned] using hpp, ?_⟩
    generalize us.getD j undef=uv at hr
    cases hr with
    |ptr _ _ b hb=>exact ⟨b,hb⟩
   |_=>cases hpp
  have hcnt:c.nt≤1000000:=by rw [hnt];exact hlow
  refine mE (S:={S with pin:=fun _=>false}) hm (l7 hI hS fun d hd=>by cases hd) (c:=c.refix g2.μ (PV.idsL caps) hcnt fun id hid=>(hids id hid).1) hnt hbig _ w2 g2 D2 Q hs3.refix ?_
  have hld:=hl us (c.refix g2.μ (PV.idsL caps) hcnt fun id hid=>(hids id hid).1) (fun w0 N0 n m ν δ ο hc=>CtxOf.refix hs3 (fun id hid=>(hids id hid).2) hc) rfl ⟨hus,fun j p hj=> ?_⟩
  ·have hd3:((Act.put {a2 with defers:={target:= .fn (.func hh) us,args:= #[]}::a2.defers} none undef).defers)=[{target:= .fn (.func hh) us,args:= #[]}]:=by
    have:a2.defers=[]:=hd2.trans hdef
    simp [Act.put,this]
   rw [hd3];exact hld
  ·have hpp:=List.all_eq_true.1 hp p (List.mem_of_getElem? hj)
   have hr:=hf2 j p hj
   cases p with
   |ptr id off=>
    have hin:id∈PV.idsL caps:=d5 hj id (by simp [PV.ids])
    generalize us.getD j undef=uv at hr
    cases hr with
    |ptr _ _ b hb=>exact ⟨id,off,b,rfl,by simp only [Ctx.refix];rw [if_pos hin];exact hb,rfl⟩
   |_=>cases hpp
 |_=>intro σ κ0 κ1 x h;cases h
end
end Go.Proofs.YtgajalidbabccaaGreatDoor.PI
namespace Go.Proofs.YtgajalidbabccaaGreatDoor.PI
open Go
set_option linter.unusedVariables false
set_option linter.unusedSimpArgs false
section
variable {U:Uni} {V:Env U} {P:Program} {X:Link V P}
theorem Ca {fn:Func} {w0:World} {N0:ax} {n m:Nat} {ν:Nat→Nat} {δ:Nat→Option Nat} {c':Ctx} {ο:Nat→Array Value} (hc:CtxOf c' w0 N0 n m ν δ ο) (hdom: ∀j b,δ j=some b→j<m) {v:PV U} {u u':FrameMode} (hv:RcvOK v u u')
  {hh:FuncId} {caps:List (PV U)} {us:Array Value} (hct:yK c' caps us) {τ τ1:St U} {r:MR U} {τ0:St U} {gp gp':List Loc} {K:bK U} {keep:Bool} {hand:List Bool} {out:Out U} {τ2:St U}
  (hrel:(ga (PV.idsL caps) fun _=>gF (fun _=>0) (fun _=>[]) [] none (.func hh [] caps) []).Rel (gD X (io P u u')) τ [] r τ0 gp) (hr:r= .done) (ht:τ0.eqv τ1) (hret:(hY V keep hand fn.results.toList n).Rel K τ1 [] (.out out) τ2 gp')
  {a:Act} {w:World} {g:Gh U} {D:Nat→Option Nat} (hs:Sim X c' a.tmps w τ g D):
  Leaves P fn a.tmps (Ret X w0 N0 ν δ ο n m out) [{target:= .fn (.func hh) us,args:= #[]}] u w:=by
 obtain ⟨bs,fp1,hrel1,hkeys,hbs⟩:=Bu _ hrel
 have hR:Rep X w (c'.N g D) g (.func (.func hh) #[] us) (.func hh [] caps):=by
  refine .func hh [] caps #[] us rfl hct.1 (by simp) fun j p hp=> ?_
  obtain ⟨id,off,b,rfl,hfix,hus⟩:=hct.2 j p hp
  rw [hus]
  refine .ptr id off b ?_
  have hin:id∈PV.idsL caps:=d5 hp id (by simp [PV.ids])
  rw [←hkeys] at hin
  obtain ⟨x,hx,rfl⟩:=List.mem_map.1 hin
  obtain ⟨k,hk,_⟩:=hs.boxes x.1 x.2 (hbs x hx)
  rcases hs.fix _ _ hk with h1|⟨h1,_⟩
  ·rw [hfix] at h1;injection h1 with h1;rw [h1];exact hk
  ·rw [hfix] at h1;cases h1
 obtain ⟨f,a0s,bs',hfv,⟨fnh,hfh,hnameh,hbodyh⟩,hcall⟩:=Gi (X:=X) (c:=c') (a:=a) (dst:=none) (o:=⟨none,.move (.const undef),0, "",#[],none⟩) (CP:=io P u u') (xs:= #[])
  (next:=fun a2 w2=>Leaves P fn a2.tmps (Ret X w0 N0 ν δ ο n m out) [] .returning w2) (Q:=fun _ _ _=>False)
  (fun {f vs w R R'} h hm=>CallsD.mono h fun e u2 w2 ⟨h1,h2⟩=>⟨h1,hm e w2 h2⟩) hs hR rfl (by simp) rfl rfl hrel1
  ⟨fun _ a2 w2 g2 D2 _ hs2=>by
   obtain ⟨v,h1,h2⟩:=oK hc hdom (hs2.eqv ht) hret
   exact ⟨v,h1,h2⟩,fun v hv=>by rw [hr] at hv;cases hv⟩
 injection hfv with e1 e2 e3
 injection e1 with e1
 subst e1;subst e2;subst e3
 have hun:u≠ .run:=by cases hv<;>simp
 refine leaves_cons hun (f:=hh) (args:= #[]++us) (by simp only [invoke];exact Of hfh hnameh hbodyh _ w) ?_
 have hcall2:CallsD P hh (#[]++us) u w fun e u2 w'=>u2=u'∧(match e,w' with
    | .returned v,w''=>Leaves P fn (a.put none v).tmps (Ret X w0 N0 ν δ ο n m out) [] .returning w''
    | .panicked chain,w''=>False
    | .outgrown,_=>LetsOut (fun _ _ _=>False)):=by
  have:=hcall
  simp only [Array.append_empty] at this
  exact this.mono fun e u2 w2 ⟨h1,h2⟩=>⟨h1,by cases e<;>exact h2⟩
 refine hcall2.mono fun e u2 w2 ⟨h1,h2⟩=> ?_
 subst h1
 cases e with
 |returned rv=>
  simp only [Act.put] at h2
  have hset:settle u2= .returning:=by cases hv<;>rfl
  simp only [hset]
  exact h2
 |panicked chain=>exact h2.elim
 |outgrown=>obtain ⟨_,_,h⟩:=h2;exact h.elim
theorem af2 (hm:P.follows .mixedOrders=true) (hI:jx X) {S:Side U} (hS:S.rcv=none) {R:Type} {C:Oracle U R} (hC:C.Tells (bJ X)) {Cd:PV U→Oracle U R} (hCd: ∀v u u',RcvOK v u u'→(Cd v).Tells (gD X (io P u u')))
  {f:FuncId} {fn:Func} (hf:P.funcs[f]? =some fn)
  (hname:(fn.name== "runtime.NumGoroutine")=false) (hbody:fn.body.isNone=false) (hnt:fn.ntmps=S.nt) (hlow:S.nt≤1000000) {args:List (PV U)} {boxes:List (Box U)} (hargs:args.length≤S.nt) (hboxes:boxes.length≤1000000)
  {ann:Nat→Option Ann} {fuel:Nat} {keep:Bool} {hand:List Bool} {κ:Out U→Option R} {x:R} (h:DS V S C ann fuel Cd keep hand fn args boxes κ=some x): ∃out,κ out=some x∧bJ X f args boxes out:=by
 obtain ⟨code,hcode⟩: ∃code,fn.body=some code:=by
  cases hb:fn.body with
  |none=>rw [hb] at hbody;cases hbody
  |some code=>exact ⟨code,rfl⟩
 unfold DS fh at h
 rw [hcode] at h
 have hpin: ∀ {w:World} {vs:Array Value} {N0:ax} {ν:Nat→Nat} {δ:Nat→Option Nat} {ο:Nat→Array Value} (hg:Given X w vs N0 ν δ ο args boxes),PinOK S (fe w N0 boxes.length args.length ν δ ο hg.oz S.nt hlow hg.bnd X.gblk hg.glob):=by
  intro w vs N0 ν δ ο hg d _
  simp only [fe]
  rw [if_neg (by omega)]
 rcases af3 (X:=X) hm hI hS hlow hC code h with ⟨e,τ,he,hk,hB⟩|⟨hh,caps,e,τ,hk,hB⟩
 ·have key: ∀ {out:Out U},(∀ (w:World) (vs:Array Value) (N0:ax) (ν:Nat→Nat) (δ:Nat→Option Nat) (ο:Nat→Array Value) (hg:Given X w vs N0 ν δ ο args boxes),
    Lands X (fe w N0 boxes.length args.length ν δ ο hg.oz S.nt hlow hg.bnd X.gblk hg.glob) [] e τ (bodyPost P fn (Ret X w N0 ν δ ο boxes.length args.length out)))→bJ X f args boxes out:=by
   intro out hl
   refine ⟨⟨fn,hf,hname,hbody⟩,fun w vs N0 ν δ ο hg=>Calls.mono (calls_of_wp (R:=Ret X w N0 ν δ ο boxes.length args.length out) hf hcode ?_) fun e w h=>Ret.full h⟩
   have hs:=yv hg hargs hlow
   rw [hnt]
   exact hB _ (hpin hg) rfl _ w _ _ _ hs (hl w vs N0 ν δ ο hg)
  cases e with
  |exit id=>cases hk
  |normal=>exact absurd rfl he
  |ret=>
   obtain ⟨r,τ0,τ1,gp,hr,ht,hfin⟩:=fi hC _ hk (St.eqv.refl τ)
   cases r with
   |out o=>
    refine ⟨o,hfin,key fun w vs N0 ν δ ο hg a' w' g' D' hd hs=> ?_⟩
    obtain ⟨v,h1,h2⟩:=oK ju hg.dom hs hr
    exact ⟨hd,v,h1,h2⟩
   |_=>cases hfin
  |panic v=>
   obtain ⟨r,τ0,τ1,gp,hr,ht,hfin⟩:=fi hC _ hk (St.eqv.refl τ)
   cases r with
   |out o=>
    refine ⟨o,hfin,key fun w vs N0 ν δ ο hg a' w' g' D' hd hs val hval=> ?_⟩
    exact ⟨hd,CV ju hg.dom hs hval hr⟩
   |_=>cases hfin
 ·have key: ∀ {out:Out U},(∀ (w:World) (vs:Array Value) (N0:ax) (ν:Nat→Nat) (δ:Nat→Option Nat) (ο:Nat→Array Value) (hg:Given X w vs N0 ν δ ο args boxes) (us:Array Value) (c':Ctx),CtxOf c' w N0 boxes.length args.length ν δ ο→yK c' caps us→
    Lands X c' [{target:= .fn (.func hh) us,args:= #[]}] e τ (bodyPostD P fn (Ret X w N0 ν δ ο boxes.length args.length out)))→bJ X f args boxes out:=by
   intro out hl
   refine ⟨⟨fn,hf,hname,hbody⟩,fun w vs N0 ν δ ο hg=>Calls.mono (calls_of_wp_defers (R:=Ret X w N0 ν δ ο boxes.length args.length out) hf hcode ?_) fun e w h=>Ret.full h⟩
   have hs:=yv hg hargs hlow
   rw [hnt]
   exact hB _ (hpin hg) rfl _ w _ _ _ hs rfl fun us c' hcx _ hct=>hl w vs N0 ν δ ο hg us c' (hcx _ _ _ _ _ _ _ ju) hct
  have fin: ∀ {v:PV U} {u u':FrameMode},RcvOK v u u'→(ga (PV.idsL caps) fun _=>gF (fun _=>0) (fun _=>[]) [] none (.func hh [] caps) []).cps (Cd v) τ [] (fun| .done,σ',_=>(hY V keep hand fn.results.toList boxes.length).cps C σ' [] (Go.Proofs.YtgajalidbabccaaGreatDoor.PI.fin κ)|_,_,_=>none)=some x→
    ∃ (out:Out U) (r:MR U) (τ0 τ1 τ2:St U) (gp gp':List Loc),κ out=some x∧(ga (PV.idsL caps) fun _=>gF (fun _=>0) (fun _=>[]) [] none (.func hh [] caps) []).Rel (gD X (io P u u')) τ [] r τ0 gp∧r= .done∧τ0.eqv τ1∧(hY V keep hand fn.results.toList boxes.length).Rel (bJ X) τ1 [] (.out out) τ2 gp':=by
   intro v u u' hv hk
   obtain ⟨r,τ0,τ1,gp,hr,ht,hk1⟩:=fi (hCd v u u' hv) _ hk (St.eqv.refl τ)
   cases r with
   |raise v=>cases hk1
   |out o=>cases hk1
   |done=>
    obtain ⟨r',τ2,τ3,gp',hr',ht',hk2⟩:=fi hC _ hk1 (St.eqv.refl τ1)
    cases r' with
    |out o=>exact ⟨o,.done,τ0,τ1,τ2,gp,gp',hk2,hr,rfl,ht,hr'⟩
    |_=>cases hk2
  cases e with
  |exit id=>cases hk
  |normal=>
   obtain ⟨out,r,τ0,τ1,τ2,gp,gp',h1,h2,h3,h4,h5⟩:=fin .nil hk
   refine ⟨out,h1,key fun w vs N0 ν δ ο hg us c' hcx hct a' w' g' D' hd hs=> ?_⟩
   simp only [bodyPostD,hd]
   exact Ca hcx hg.dom .nil hct h2 h3 h4 h5 hs
  |ret=>
   obtain ⟨out,r,τ0,τ1,τ2,gp,gp',h1,h2,h3,h4,h5⟩:=fin .nil hk
   refine ⟨out,h1,key fun w vs N0 ν δ ο hg us c' hcx hct a' w' g' D' hd hs=> ?_⟩
   simp only [bodyPostD,hd]
   exact Ca hcx hg.dom .nil hct h2 h3 h4 h5 hs
  |panic v=>
   simp only [kD] at hk
   split at hk
   case h_2=>cases hk
   rename_i t k n'
   obtain ⟨out,r,τ0,τ1,τ2,gp,gp',h1,h2,h3,h4,h5⟩:=fin (.err t k n') hk
   refine ⟨out,h1,key fun w vs N0 ν δ ο hg us c' hcx hct a' w' g' D' hd hs val hval=> ?_⟩
   simp only [bodyPostD,hd]
   cases hval with
   |iface _ u _ hu=>cases hu;exact Ca hcx hg.dom (.err t k n') hct h2 h3 h4 h5 hs
end
end Go.Proofs.YtgajalidbabccaaGreatDoor.PI
namespace Go.Proofs.YtgajalidbabccaaGreatDoor
open Go PI
set_option linter.unusedVariables false
set_option maxRecDepth 100000
noncomputable section
noncomputable def rd:ET→TypeId
 | .C=>53
 | .T=>26
 | .B=>48
 | .I=>3
 | .F=>22
noncomputable def nr:ET→Nat
 | .C=>2
 | .T=>6
 | .B=>2
 | .I=>1
 | .F=>1
noncomputable def v_:ET→Nat
 | .C=>8
 | .T=>104
 | .B=>48
 | .I=>8
 | .F=>24
noncomputable def wl (e:ET):Value:=((Tryz.prog.info? (rd e)).bind (·.zero)).getD undef
noncomputable def Bk (e:ET):Bool:=match Tryz.prog.info? (rd e) with
 |some i=>i.zero.isSome&&(Nat.beq i.size (nr e)&&Nat.beq i.bytes (v_ e))&&Nat.beq (wl e).cells.size (nr e)
 | .none=>false
theorem HV (e:ET):Bk e=true:=by cases e<;>kernel_rfl
theorem Q1: ∀t r,tq t=some r→FD Tryz.prog rd t r=true:=by
 intro t r h
 unfold tq at h
 split at h<;>first|(injection h with h;subst h;kernel_rfl)|cases h
theorem abX: ∀t r e,tq t=some r→r.keys=some e→e= .C:=by
 intro t r e h hk
 unfold tq at h
 split at h<;>first|(injection h with h;subst h;cases hk;done)|(injection h with h;subst h;injection hk with hk;exact hk.symm)|cases h
theorem aja: ∀e cs y,QX e cs=some y→cs.length=nr e∧cs.all PV.isCell=true∧ ∀ (k:Nat) p,cs[k]? =some p→ ∃q,(dg e y)[k]? =some q∧p.less q:=by
 have hC: ∀ {p:PU} {l},pn p=some l→ ∃o,p= .sl (U:=UU) ET.C l o:=by
  intro p l h;unfold pn at h;split at h<;>first|(injection h with h;subst h;exact ⟨_,rfl⟩)|cases h
 have hT: ∀ {p:PU} {l},tx p=some l→ ∃o,p= .sl (U:=UU) ET.T l o:=by
  intro p l h;unfold tx at h;split at h<;>first|(injection h with h;subst h;exact ⟨_,rfl⟩)|cases h
 have hB: ∀ {p:PU} {l},zM p=some l→ ∃o,p= .sl (U:=UU) ET.B l o:=by
  intro p l h;unfold zM at h;split at h<;>first|(injection h with h;subst h;exact ⟨_,rfl⟩)|cases h
 intro e cs y h
 cases e
 ·have h:Fz cs=some y:=h
  unfold Fz at h
  split at h
  case h_2=>cases h
  injection h with h;subst h
  refine ⟨rfl,rfl,fun k p hp=> ?_⟩
  match k,hp with
  |0,hp=>exact ⟨_,rfl,.inl (Option.some.inj hp).symm⟩
  |1,hp=>exact ⟨_,rfl,.inl (Option.some.inj hp).symm⟩
  |k+2,hp=>simp at hp
 ·have h:FC cs=some y:=h
  unfold FC at h
  split at h
  case h_2=>cases h
  split at h
  case h_2=>cases h
  rename_i h1 h2 h3
  injection h with h;subst h
  obtain ⟨o1,rfl⟩:=hC h1;obtain ⟨o2,rfl⟩:=hT h2;obtain ⟨o3,rfl⟩:=hB h3
  refine ⟨rfl,rfl,fun k p hp=> ?_⟩
  match k,hp with
  |0,hp=>exact ⟨_,rfl,.inl (Option.some.inj hp).symm⟩
  |1,hp=>exact ⟨_,rfl,.inl (Option.some.inj hp).symm⟩
  |2,hp=>exact ⟨_,rfl,.inl (Option.some.inj hp).symm⟩
  |3,hp=>exact ⟨_,rfl,.inr ⟨_,_,_,(Option.some.inj hp).symm,rfl⟩⟩
  |4,hp=>exact ⟨_,rfl,.inr ⟨_,_,_,(Option.some.inj hp).symm,rfl⟩⟩
  |5,hp=>exact ⟨_,rfl,.inr ⟨_,_,_,(Option.some.inj hp).symm,rfl⟩⟩
  |k+6,hp=>simp at hp
 ·have h:Fy cs=some y:=h
  unfold Fy at h
  split at h
  case h_2=>cases h
  split at h
  case h_2=>cases h
  rename_i h1 h2
  injection h with h;subst h
  obtain ⟨o1,rfl⟩:=hC h1;obtain ⟨o2,rfl⟩:=hT h2
  refine ⟨rfl,rfl,fun k p hp=> ?_⟩
  match k,hp with
  |0,hp=>exact ⟨_,rfl,.inr ⟨_,_,_,(Option.some.inj hp).symm,rfl⟩⟩
  |1,hp=>exact ⟨_,rfl,.inr ⟨_,_,_,(Option.some.inj hp).symm,rfl⟩⟩
  |k+2,hp=>simp at hp
 ·have h:FB cs=some y:=h
  unfold FB at h
  split at h
  case h_2=>cases h
  injection h with h;subst h
  refine ⟨rfl,rfl,fun k p hp=> ?_⟩
  match k,hp with
  |0,hp=>exact ⟨_,rfl,.inl (Option.some.inj hp).symm⟩
  |k+1,hp=>simp at hp
 ·have h:FA cs=some y:=h
  unfold FA at h
  split at h
  case h_2=>cases h
  obtain ⟨o1,rfl⟩:=hC h
  refine ⟨rfl,rfl,fun k p hp=> ?_⟩
  match k,hp with
  |0,hp=>exact ⟨_,rfl,.inr ⟨_,_,_,(Option.some.inj hp).symm,rfl⟩⟩
  |k+1,hp=>simp at hp
theorem aad (e:ET): ∃i,Tryz.prog.info? (rd e)=some i∧i.zero=some (wl e)∧i.size=nr e∧i.bytes=v_ e:=by
 have h:=HV e
 unfold Bk at h
 split at h
 ·rename_i i hi
  simp only [Bool.and_eq_true] at h
  obtain ⟨⟨h1,h2,h3⟩,h4⟩:=h
  refine ⟨i,hi, ?_,by simpa using h2,by simpa using h3⟩
  unfold wl
  rw [hi]
  obtain ⟨z,hz⟩:=Option.isSome_iff_exists.1 h1
  simp [hz]
 ·cases h
noncomputable def LL (o:Obj):Link VV Tryz.prog where
 gblk:=[(0,o)]
 etid:=rd
 esize:=nr
 ebytes:=v_
 ezero:=wl
 einfo:=aad
 zsize:=fun e=>by
  have h:=HV e
  unfold Bk at h
  split at h
  ·simp only [Bool.and_eq_true] at h
   exact by simpa using h.2
  ·cases h
 epos:=fun e=>by cases e<;>decide
 broom:=fun e n h=>by
  have h':n≤1099511627776:=h
  cases e<;>simp only [v_,maxLen]<;>omega
 len:=fun e x=>by cases e<;>rfl
 small:=fun e=>by cases e<;>decide
 ecell':=fun e x=>by cases e<;>rfl
 toEl:=aja
 ty:=fun t r h=>Q0 (Q1 t r h)
 keyT:=fun t r e h hk=>by
  have he:=abX t r e h hk
  subst he
  obtain ⟨fs,h1,h2,_,h4,h5⟩:=(Q0 (Q1 53 _ rfl)).isInts rfl
  exact ⟨⟨fs,h1,h2,h4,h5⟩,fun x y=>⟨_,by simp only [VV,dg,PV.eqvI];rfl⟩⟩
theorem wZ:Tryz.prog.follows .mixedOrders=true:=by kernel_rfl
theorem sw {A B:Out UU→Prop} (h: ∃out,A out∧B out): ∃out,B out∧A out:=by obtain ⟨o,a,b⟩:=h;exact ⟨o,b,a⟩
theorem Xa {S:Type} {b:Bool} {x y:Option S} {v:S} (h:(bif b then x else y)=some v):x=some v∨y=some v:=by
 cases b
 ·exact .inr h
 ·exact .inl h
end
end Go.Proofs.YtgajalidbabccaaGreatDoor
namespace Go.Proofs.YtgajalidbabccaaGreatDoor
open Go PI
set_option linter.unusedVariables false
def U32 (s:Int):Prop:=0≤s∧s<4294967296
theorem U32.nat {s:Int} (h:U32 s): ∃n:Nat,n<4294967296∧s=n:=⟨s.toNat,by have:=h.1;have:=h.2;omega,by have:=h.1;omega⟩
theorem mH {n:Nat} (h:n<4294967296):(BitVec.ofInt 32 (n:Int)).toNat=n:=by
 grind
theorem jv (n:Nat) (h:n<4294967296):IntKind.wrap .u32 (n:Int)=n:=by
 grind [IntKind.wrap,IntKind.bits,IntKind.signed]
theorem gC (n:Nat) (h:n<18446744073709551616):IntKind.wrap .u64 (n:Int)=n:=by
 grind [IntKind.wrap,IntKind.bits,IntKind.signed]
theorem da {n:Int} (h1: -9223372036854775808≤n) (h2:n<9223372036854775808):IntKind.wrap .i64 n=n:=by
 grind [IntKind.wrap,IntKind.bits,IntKind.signed]
theorem pm {a b n:Nat} (h:a<2^n):a&&&b<2^n:=Nat.lt_of_le_of_lt Nat.and_le_left h
theorem jz {a b:Nat} (ha:a<4294967296) (hb:b<4294967296):aL .and .u32 (a:Int) (b:Int)=((a&&&b:Nat):Int):=by
 have h1:=mH ha;have h2:=mH hb
 simp only [aL]
 show IntKind.wrap .u32 (((BitVec.ofInt 32 (a:Int))&&&(BitVec.ofInt 32 (b:Int))).toNat:Int)=_
 rw [BitVec.toNat_and,h1,h2]
 exact jv _ (pm (n:=32) ha)
theorem tz {a b:Nat} (ha:a<4294967296) (hb:b<4294967296):aL .or .u32 (a:Int) (b:Int)=((a|||b:Nat):Int):=by
 have h1:=mH ha;have h2:=mH hb
 simp only [aL]
 show IntKind.wrap .u32 (((BitVec.ofInt 32 (a:Int))|||(BitVec.ofInt 32 (b:Int))).toNat:Int)=_
 rw [BitVec.toNat_or,h1,h2]
 exact jv _ (Nat.or_lt_two_pow (n:=32) ha hb)
def di (a b:Nat):Nat:=a^^^(a&&&b)
theorem kj (a b i:Nat):(di a b).testBit i=(a.testBit i&& !b.testBit i):=by
 grind [di]
theorem sr {a b n:Nat} (h:a<2^n):di a b<2^n:=Nat.xor_lt_two_pow h (pm h)
theorem zN {a b:Nat} (ha:a<4294967296) (hb:b<4294967296):aL .andNot .u32 (a:Int) (b:Int)=((di a b:Nat):Int):=by
 have h1:=mH ha;have h2:=mH hb
 simp only [aL]
 show IntKind.wrap .u32 (((BitVec.ofInt 32 (a:Int))&&& ~~~(BitVec.ofInt 32 (b:Int))).toNat:Int)=_
 have e:((BitVec.ofInt 32 (a:Int))&&& ~~~(BitVec.ofInt 32 (b:Int))).toNat=di a b:=by
  apply Nat.eq_of_testBit_eq
  intro i
  rw [kj,BitVec.toNat_and,Nat.testBit_and,h1]
  by_cases hi:i<32
  ·grind
  ·have:a.testBit i=false:=Nat.testBit_lt_two_pow (Nat.lt_of_lt_of_le ha (by exact Nat.pow_le_pow_right (n:=2) (by decide) (show 32≤i by omega)))
   grind
 rw [e]
 exact jv _ (sr (n:=32) ha)
theorem aH {α:Type} (p:Prop) [Decidable p] (x y:α):ab (decide p) x y=if p then x else y:=by
 grind [aj,ai]
theorem b7 {α:Type} (c:Bool) (x y:α):ab c x y=if c=true then x else y:=by
 grind [ai,aj]
abbrev Fu (k:Nat):Prop:=4294967296≤k
theorem al {R S:Type} {k:Nat} (h:Fu k) (f:(R→Option S)→Option S) (g:R→Option S):aa k f g=f g:=Gk (by omega) f g
theorem aM {S:Type} {n m:Nat} (h:n+m≤1099511627776) (f:Unit→Option S):Option.bind (ap 1099511627776 n m) f=f ():=by
 grind [ap]
theorem az {α:Type} {l p r:List α} {x:α} (h:l=p++x::r) (hl:l.length<4611686018427387904):
  decide ((p.length:Int)<(l.length:Int))=true∧ah l (p.length:Int)=some x∧IntKind.wrap .i64 ((p.length:Int)+1)=((p++[x]).length:Int)∧l=(p++[x])++r:=by
 subst h
 rw [List.length_append,List.length_cons] at hl
 refine ⟨decide_eq_true (by grind), ?_, ?_,by simp⟩
 all_goals grind [ah,IntKind.wrap,IntKind.bits]
theorem cQ {α:Type} {l p:List α} (h:l=p++[]):decide ((p.length:Int)<(l.length:Int))=false:=by
 grind
theorem ak {n m:Nat} (h:n<m): ∃q,m=q+1∧n≤q:=⟨m-1,by omega,by omega⟩
theorem gE {S:Type} (p:Prop) [Decidable p] (h:p) (f:Unit→Option S):Option.bind (bv p) f=f ():=by simp [bv,h]
theorem ww {α:Type} (l:List α) (i:Nat):ah l (i:Int)=l[i]? :=by rfl
end Go.Proofs.YtgajalidbabccaaGreatDoor
namespace Go.Proofs.YtgajalidbabccaaGreatDoor
open Go PI
set_option linter.unusedVariables false
set_option maxRecDepth 100000
noncomputable section
abbrev fO (S:Type):=Tm→Int→(Int→Option S)→Option S
def ur {S:Type} (hd:fO S) (k:Nat) (ret:Int→Option S) (t:Tm) (most i7:Int) (rec1:Int→Int→Option S) (rec2:Int→Int→Option S) (v5'' v8:Int):Option S:=
 Option.bind (ah t.sys i7) fun x5=>
 ab (decide ((v8:Int)<(x5.kids.length:Int))) (
 ab (decide ((v5'':Int)≤most)) (
  Option.bind (ah t.sys i7) fun x6=>
  Option.bind (ah x6.kids v8) fun x7=>
  hd (ac x7) (IntKind.wrap .i64 (most-v5'')) fun r8=>
   rec2 (IntKind.wrap .i64 (v5''+r8)) (IntKind.wrap .i64 (v8+1))) (
   rec1 v5'' (IntKind.wrap .i64 (i7+1)))) (
  rec1 v5'' (IntKind.wrap .i64 (i7+1)))
noncomputable def jb {S:Type} (hd:fO S) (k:Nat) (ret:Int→Option S) (rec1:Int→Int→Option S) (t:Tm) (most i7:Int):Nat→Int→Int→Option S
 |0=>fun _ _=> .none
 |m+1=>fun v5'' v8=>ur hd k ret t most i7 rec1 (jb hd k ret rec1 t most i7 m) v5'' v8
def pL {S:Type} (hd:fO S) (k:Nat) (ret:Int→Option S) (t:Tm) (most:Int) (J2:Int→Int→Int→Option S) (rec1:Int→Int→Option S) (v5' i7:Int):Option S:=
 ab (decide ((i7:Int)<(t.sys.length:Int))) (
 ab (decide ((v5':Int)≤most)) (
  Option.bind (ah t.sys i7) fun x3=>
  ab (decide (((x3.face.length:Int):Int)>most)) (
  ret (IntKind.wrap .i64 (most+1))) (
  Option.bind (ah t.sys i7) fun x4=>
    J2 i7 (IntKind.wrap .i64 ((IntKind.wrap .i64 (v5'+1))+(x4.face.length:Int))) 0)) (
  ret v5')) (
 ret v5')
noncomputable def g4 {S:Type} (hd:fO S) (k:Nat) (ret:Int→Option S) (t:Tm) (most:Int):Nat→Int→Int→Option S
 |0=>fun _ _=> .none
 |m+1=>fun v5' i7=>pL hd k ret t most (fun i7 v5'' v8=>jb hd k ret (g4 hd k ret t most m) t most i7 k v5'' v8) (g4 hd k ret t most m) v5' i7
def pK {S:Type} (hd:fO S) (k:Nat) (ret:Int→Option S) (t:Tm) (most:Int) (J1:Int→Int→Option S) (rec0:Int→Int→Option S) (v5 i6:Int):Option S:=
 ab (decide ((i6:Int)<(t.kids.length:Int))) (
 ab (decide ((v5:Int)≤most)) (
  Option.bind (ah t.kids i6) fun x1=>
  hd (ac x1) (IntKind.wrap .i64 (most-v5)) fun r2=>
   rec0 (IntKind.wrap .i64 (v5+r2)) (IntKind.wrap .i64 (i6+1))) (
   J1 v5 0)) (
  J1 v5 0)
noncomputable def lM {S:Type} (hd:fO S) (k:Nat) (ret:Int→Option S) (t:Tm) (most:Int):Nat→Int→Int→Option S
 |0=>fun _ _=> .none
 |m+1=>fun v5 i6=>pK hd k ret t most (fun v5' i7=>g4 hd k ret t most k v5' i7) (lM hd k ret t most m) v5 i6
def E6 {S:Type} (hd:fO S) (k:Nat) (ret:Int→Option S) (J0:Int→Int→Option S) (t:Tm) (most:Int):Option S:=
 ab (decide (((t.r.length:Int):Int)>most)) (
 ret (IntKind.wrap .i64 (most+1))) (
 ab (decide (((t.name.size:Int):Int)>most)) (
  ret (IntKind.wrap .i64 (most+1))) (
   J0 (IntKind.wrap .i64 ((IntKind.wrap .i64 (1+(t.r.length:Int)))+(t.name.size:Int))) 0))
noncomputable def fq {S:Type}:Nat→Tm→Int→(Int→Option S)→Option S
 |0=>fun _ _ _=> .none
 |k+1=>fun t most ret=>E6 (fq k) k ret (fun v5 i6=>lM (fq k) k ret t most k v5 i6) t most
noncomputable def aij {S:Type} (k:Nat) (ret:Int×Int×ByteArray×List Tm→Option S) (kind:Int) (kids:List Tm):Option S:=
 ret (kind,0,ByteArray.empty,kids)
noncomputable def eQ {S:Type} (k:Nat) (kind:Int) (kids:List Tm) (ret:Int×Int×ByteArray×List Tm→Option S):Option S:=aij k ret kind kids
def QF {S:Type} (k:Nat) (ret:Int×Int→Option S) (kind kid:Int):Option S:=
 ab (kind==4) (
 ab (kid==1) (
  ret (1,0)) (
  ret (0,0))) (
 ab (kind==7) (
  ab (kid==1) (
  ret (1,0)) (
  ret (0,0))) (
  ab (kind==5) (
  ab (kid==0) (
   ret (1,0)) (
   ret (0,0))) (
  ab (kind==22) (
   ab (kid==0) (
   ret (1,0)) (
   ret (0,0))) (
   ab (kind==27) (
   ab (kid==0) (
    ret (1,0)) (
    ret (0,0))) (
   ab (kind==11) (
    ab (kid==0) (
    ret (0,1)) (
    ret (0,0))) (
    ab (kind==12) (
    ab (kid==0) (
     ret (0,1)) (
     ret (0,0))) (
    ab (kind==14) (
     ab (kid==0) (
     ret (0,1)) (
     ret (0,0))) (
     ret (0,0)))))))))
noncomputable def fw {S:Type} (k:Nat) (kind kid:Int) (ret:Int×Int→Option S):Option S:=QF k ret kind kid
abbrev cX (S:Type):=Tm→Int→(Bool→Option S)→Option S
noncomputable def Fq {S:Type} (hd:cX S) (k:Nat) (ret:Bool→Option S) (a_k:Tm) (p p' c0:Int):Option S:=
 hd (ac a_k) (IntKind.wrap .i64 (c0-1)) fun r1=>
 ret r1
noncomputable def qR {S:Type} (hd:cX S) (k:Nat) (a_k:Tm) (p p' c0:Int) (ret:Bool→Option S):Option S:=Fq hd k ret a_k p p' c0
def uH {S:Type} (hd:cX S) (k:Nat) (ret:Bool→Option S) (c0:Int) (t:Tm) (v42:Int) (x4:(Br Tm)) (more9:Int) (rec1:Int→Int→Option S) (rec2:Int→Option S) (v49:Int):Option S:=
 ab (decide ((v49:Int)<(x4.kids.length:Int))) (
 Option.bind (ah x4.kids v49) fun x5=>
 aa k (qR hd k (ac x5) 0 more9 c0) fun r6=>
 ab (!r6) (
  ret false) (
   rec2 (IntKind.wrap .i64 (v49+1)))) (
  rec1 (IntKind.wrap .i64 (v42+1)) more9)
noncomputable def lU {S:Type} (hd:cX S) (k:Nat) (ret:Bool→Option S) (rec1:Int→Int→Option S) (c0:Int) (t:Tm) (v42:Int) (x4:(Br Tm)) (more9:Int):Nat→Int→Option S
 |0=>fun _=> .none
 |m+1=>fun v49=>uH hd k ret c0 t v42 x4 more9 rec1 (lU hd k ret rec1 c0 t v42 x4 more9 m) v49
def p7 {S:Type} (hd:cX S) (k:Nat) (ret:Bool→Option S) (c0:Int) (t:Tm) (J2:Int→(Br Tm)→Int→Int→Option S) (rec1:Int→Int→Option S) (v42 more9:Int):Option S:=
 ab (decide ((v42:Int)<(t.sys.length:Int))) (
 Option.bind (ah t.sys v42) fun x4=>
  J2 v42 x4 more9 0) (
 ret true)
noncomputable def g6 {S:Type} (hd:cX S) (k:Nat) (ret:Bool→Option S) (c0:Int) (t:Tm):Nat→Int→Int→Option S
 |0=>fun _ _=> .none
 |m+1=>fun v42 more9=>p7 hd k ret c0 t (fun v42 x4 more9 v49=>lU hd k ret (g6 hd k ret c0 t m) c0 t v42 x4 more9 k v49) (g6 hd k ret c0 t m) v42 more9
def p6 {S:Type} (hd:cX S) (k:Nat) (ret:Bool→Option S) (c0:Int) (t:Tm) (J1:Int→Int→Option S) (rec0:Int→Option S) (v17:Int):Option S:=
 ab (decide ((v17:Int)<(t.kids.length:Int))) (
 Option.bind (ah t.kids v17) fun x1=>
 aa k (fw k t.kind v17) fun r2=>
 aa k (qR hd k (ac x1) r2.1 r2.2 c0) fun r3=>
 ab (!r3) (
  ret false) (
   rec0 (IntKind.wrap .i64 (v17+1)))) (
 ab (t.kind==15) (
   J1 0 1) (
   J1 0 0))
noncomputable def oj {S:Type} (hd:cX S) (k:Nat) (ret:Bool→Option S) (c0:Int) (t:Tm):Nat→Int→Option S
 |0=>fun _=> .none
 |m+1=>fun v17=>p6 hd k ret c0 t (fun v42 more9=>g6 hd k ret c0 t k v42 more9) (oj hd k ret c0 t m) v17
noncomputable def Fl {S:Type} (hd:cX S) (k:Nat) (ret:Bool→Option S) (J0:Int→Option S) (t:Tm) (c0:Int):Option S:=
 J0 0
noncomputable def AV {S:Type} (hd:cX S) (k:Nat) (t:Tm) (c0:Int) (ret:Bool→Option S):Option S:=Fl hd k ret (fun v17=>oj hd k ret c0 t k v17) t c0
def QP {S:Type} (hd:cX S) (k:Nat) (ret:Bool→Option S) (t:Tm) (left:Int):Option S:=
 ab (decide ((left:Int)>0)) (
 aa k (AV hd k (ac t) left) fun r1=>
 ret r1) (
 ret false)
noncomputable def gV {S:Type}:Nat→Tm→Int→(Bool→Option S)→Option S
 |0=>fun _ _ _=> .none
 |k+1=>fun t left ret=>QP (gV k) k ret t left
abbrev cW (S:Type):=Tm→Int→(Bool×Int→Option S)→Option S
def Fs {S:Type} (hd:cW S) (k:Nat) (ret:Bool×Int→Option S) (t:Tm) (c0:Int):Option S:=
 ab (decide ((IntKind.wrap .i64 (c0-1):Int)≥0)) (
 hd (ac t) (IntKind.wrap .i64 (c0-1)) fun r1=>
 ret (r1.1,r1.2)) (
 ret (false,IntKind.wrap .i64 (c0-1)))
noncomputable def nd {S:Type} (hd:cW S) (k:Nat) (t:Tm) (c0:Int) (ret:Bool×Int→Option S):Option S:=Fs hd k ret t c0
noncomputable def Fr {S:Type} (hd:cW S) (k:Nat) (ret:Bool×Int→Option S) (a_k:Tm) (p p' c1:Int):Option S:=
 aa k (nd hd k (ac a_k) c1) fun r1=>
 ret (r1.1,r1.2)
noncomputable def qS {S:Type} (hd:cW S) (k:Nat) (a_k:Tm) (p p' c1:Int) (ret:Bool×Int→Option S):Option S:=Fr hd k ret a_k p p' c1
def uF {S:Type} (hd:cW S) (k:Nat) (ret:Bool×Int→Option S) (t:Tm) (v42:Int) (x4:(Br Tm)) (more9:Int) (rec1:Int→Int→Int→Option S) (rec2:Int→Int→Option S) (e1_0'' v49:Int):Option S:=
 ab (decide ((v49:Int)<(x4.kids.length:Int))) (
 Option.bind (ah x4.kids v49) fun x5=>
 aa k (qS hd k (ac x5) 0 more9 e1_0'') fun r6=>
 ab (!r6.1) (
  ret (false,r6.2)) (
   rec2 r6.2 (IntKind.wrap .i64 (v49+1)))) (
  rec1 e1_0'' (IntKind.wrap .i64 (v42+1)) more9)
noncomputable def jg {S:Type} (hd:cW S) (k:Nat) (ret:Bool×Int→Option S) (rec1:Int→Int→Int→Option S) (t:Tm) (v42:Int) (x4:(Br Tm)) (more9:Int):Nat→Int→Int→Option S
 |0=>fun _ _=> .none
 |m+1=>fun e1_0'' v49=>uF hd k ret t v42 x4 more9 rec1 (jg hd k ret rec1 t v42 x4 more9 m) e1_0'' v49
def pZ {S:Type} (hd:cW S) (k:Nat) (ret:Bool×Int→Option S) (t:Tm) (J2:Int→(Br Tm)→Int→Int→Int→Option S) (rec1:Int→Int→Int→Option S) (e1_0' v42 more9:Int):Option S:=
 ab (decide ((v42:Int)<(t.sys.length:Int))) (
 Option.bind (ah t.sys v42) fun x4=>
  J2 v42 x4 more9 e1_0' 0) (
 ret (true,e1_0'))
noncomputable def gi {S:Type} (hd:cW S) (k:Nat) (ret:Bool×Int→Option S) (t:Tm):Nat→Int→Int→Int→Option S
 |0=>fun _ _ _=> .none
 |m+1=>fun e1_0' v42 more9=>pZ hd k ret t (fun v42 x4 more9 e1_0'' v49=>jg hd k ret (gi hd k ret t m) t v42 x4 more9 k e1_0'' v49) (gi hd k ret t m) e1_0' v42 more9
def pY {S:Type} (hd:cW S) (k:Nat) (ret:Bool×Int→Option S) (t:Tm) (J1:Int→Int→Int→Option S) (rec0:Int→Int→Option S) (e1_0 v17:Int):Option S:=
 ab (decide ((v17:Int)<(t.kids.length:Int))) (
 Option.bind (ah t.kids v17) fun x1=>
 aa k (fw k t.kind v17) fun r2=>
 aa k (qS hd k (ac x1) r2.1 r2.2 e1_0) fun r3=>
 ab (!r3.1) (
  ret (false,r3.2)) (
   rec0 r3.2 (IntKind.wrap .i64 (v17+1)))) (
 ab (t.kind==15) (
   J1 e1_0 0 1) (
   J1 e1_0 0 0))
noncomputable def lR {S:Type} (hd:cW S) (k:Nat) (ret:Bool×Int→Option S) (t:Tm):Nat→Int→Int→Option S
 |0=>fun _ _=> .none
 |m+1=>fun e1_0 v17=>pY hd k ret t (fun e1_0' v42 more9=>gi hd k ret t k e1_0' v42 more9) (lR hd k ret t m) e1_0 v17
noncomputable def Fj {S:Type} (hd:cW S) (k:Nat) (ret:Bool×Int→Option S) (J0:Int→Int→Option S) (t:Tm) (c1:Int):Option S:=
 J0 c1 0
noncomputable def ep {S:Type}:Nat→Tm→Int→(Bool×Int→Option S)→Option S
 |0=>fun _ _ _=> .none
 |k+1=>fun t c1 ret=>Fj (ep k) k ret (fun e1_0 v17=>lR (ep k) k ret t k e1_0 v17) t c1
noncomputable def QR {S:Type} (k:Nat) (ret:Bool→Option S) (t:Tm) (most:Int):Option S:=
 aa k (nd (ep k) k (ac t) most) fun r1=>
 ret r1.1
noncomputable def vM {S:Type} (k:Nat) (t:Tm) (most:Int) (ret:Bool→Option S):Option S:=QR k ret t most
def QQ {S:Type} (k:Nat) (ret:Int→Option S) (t:Tm):Option S:=
 gV k (ac t) 200 fun r1=>
 ab (!r1) (
 ret 62) (
 aa k (vM k (ac t) 20000) fun r2=>
 ab (!r2) (
  ret 221) (
  ret 0))
noncomputable def vL {S:Type} (k:Nat) (t:Tm) (ret:Int→Option S):Option S:=QQ k ret t
def QI {S:Type} (k:Nat) (ret:Int→Option S) (kind:Int):Option S:=
 ab (kind==1) (
 ret 0) (
 ab (kind==2) (
  ret 0) (
  ab (kind==3) (
  ret 0) (
  ab (kind==19) (
   ret 0) (
   ab (kind==20) (
   ret 0) (
   ab (kind==24) (
    ret 0) (
    ab (kind==25) (
    ret 0) (
    ab (kind==21) (
     ret 0) (
     ab (kind==5) (
     ret 1) (
     ab (kind==9) (
      ret 1) (
      ab (kind==10) (
      ret 1) (
      ab (kind==23) (
       ret 1) (
       ab (kind==12) (
       ret 1) (
       ab (kind==16) (
        ret 1) (
        ab (kind==17) (
        ret 1) (
        ab (kind==18) (
         ret 1) (
         ab (kind==26) (
         ret 1) (
         ab (kind==4) (
          ret 2) (
          ab (kind==7) (
          ret 2) (
          ab (kind==6) (
           ret 2) (
           ab (kind==8) (
           ret 2) (
           ab (kind==14) (
            ret 2) (
            ab (kind==15) (
            ret 2) (
            ab (kind==28) (
             ret 2) (
             ab (kind==11) (
             ret 3) (
             ab (kind==13) (
              ret 3) (
              ab (kind==22) (
              ret 4) (
              ab (kind==27) (
               ret 5) (
               ret (-1)))))))))))))))))))))))))))))
noncomputable def vI {S:Type} (k:Nat) (kind:Int) (ret:Int→Option S):Option S:=QI k ret kind
def QJ {S:Type} (k:Nat) (ret:Int→Option S) (kind:Int):Option S:=
 ab (kind==15) (
 ret 1) (
 ab (kind==17) (
  ret 1) (
  ab (kind==18) (
  ret 1) (
  ab (kind==16) (
   ret 2) (
   ret 0))))
noncomputable def jL {S:Type} (k:Nat) (kind:Int) (ret:Int→Option S):Option S:=QJ k ret kind
def z8 {S:Type} (k:Nat) (ret:Bool→Option S) (s:ByteArray) (v8:Int) (x1:UInt8) (rec0:Int→Option S) (letter5:Bool):Option S:=
 ab (!letter5) (
 ab (v8==0) (
  ret false) (
  ab (decide (((x1.toNat:Int):Int)<48)) (
  ret false) (
  ab (decide (((x1.toNat:Int):Int)>57)) (
   ret false) (
     rec0 (IntKind.wrap .i64 (v8+1)))))) (
  rec0 (IntKind.wrap .i64 (v8+1)))
noncomputable def wS {S:Type} (k:Nat) (ret:Bool→Option S) (rec0:Int→Option S) (s:ByteArray) (v8:Int) (x1:UInt8):Nat→Bool→Option S
 |0=>fun _=> .none
 |_+1=>fun letter5=>z8 k ret s v8 x1 rec0 letter5
def p8 {S:Type} (k:Nat) (ret:Bool→Option S) (s:ByteArray) (J1:Int→UInt8→Bool→Option S) (rec0:Int→Option S) (v8:Int):Option S:=
 ab (decide ((v8:Int)<(s.size:Int))) (
 Option.bind (ah s.data.toList v8) fun x1=>
 ab (decide (((x1.toNat:Int):Int)≥97)) (
  ab (decide (((x1.toNat:Int):Int)≤122)) (
    J1 v8 x1 true) (
  ab (decide (((x1.toNat:Int):Int)≥65)) (
   ab (decide (((x1.toNat:Int):Int)≤90)) (
      J1 v8 x1 true) (
      J1 v8 x1 ((x1.toNat:Int)==95))) (
     J1 v8 x1 ((x1.toNat:Int)==95)))) (
  ab (decide (((x1.toNat:Int):Int)≥65)) (
  ab (decide (((x1.toNat:Int):Int)≤90)) (
     J1 v8 x1 true) (
     J1 v8 x1 ((x1.toNat:Int)==95))) (
    J1 v8 x1 ((x1.toNat:Int)==95)))) (
 ret (!(s==ByteArray.empty)))
noncomputable def lV {S:Type} (k:Nat) (ret:Bool→Option S) (s:ByteArray):Nat→Int→Option S
 |0=>fun _=> .none
 |m+1=>fun v8=>p8 k ret s (fun v8 x1 letter5=>wS k ret (lV k ret s m) s v8 x1 k letter5) (lV k ret s m) v8
noncomputable def Fo {S:Type} (k:Nat) (ret:Bool→Option S) (J0:Int→Option S) (s:ByteArray):Option S:=
 J0 0
noncomputable def vK {S:Type} (k:Nat) (s:ByteArray) (ret:Bool→Option S):Option S:=Fo k ret (fun v8=>lV k ret s k v8) s
noncomputable def P3 {S:Type} (k:Nat) (ret:Bool→Option S) (s:Int):Option S:=
 ret ((aL .andNot .u32 s 16777215)==0)
noncomputable def mU {S:Type} (k:Nat) (s:Int) (ret:Bool→Option S):Option S:=P3 k ret s
def Pi {S:Type} (k:Nat) (ret:Bool→Option S) (c:Cl):Option S:=
 aa k (mU k c.pos) fun r1=>
 ab (r1) (
 aa k (mU k c.neg) fun r2=>
 ret r2) (
 ret false)
noncomputable def qh {S:Type} (k:Nat) (c:Cl) (ret:Bool→Option S):Option S:=Pi k ret c
noncomputable def Ph {S:Type} (k:Nat) (ret:Cl→Option S) (a b:Cl):Option S:=
 ret (Cl.mk (aL .or .u32 a.pos b.pos) (aL .or .u32 a.neg b.neg))
noncomputable def mM {S:Type} (k:Nat) (a b:Cl) (ret:Cl→Option S):Option S:=Ph k ret a b
noncomputable def Pc {S:Type} (k:Nat) (ret:Bool→Option S) (a b:Cl):Option S:=
 aa k (mM k a b) fun r1=>
 ret ((r1.pos==a.pos)&&((r1.neg==a.neg)&&true))
noncomputable def uT {S:Type} (k:Nat) (a b:Cl) (ret:Bool→Option S):Option S:=Pc k ret a b
def Pf {S:Type} (k:Nat) (ret:Bool→Option S) (d c0:Cl):Option S:=
 ab (!((c0.pos==d.pos)&&((c0.neg==d.neg)&&true))) (
 aa k (uT k c0 d) fun r1=>
 ret r1) (
 ret false)
noncomputable def uV {S:Type} (k:Nat) (d c0:Cl) (ret:Bool→Option S):Option S:=Pf k ret d c0
def uD {S:Type} (k:Nat) (ret:Int→Option S) (c0:Cl) (s:List Cl) (rec0:Int→Option S) (v8:Int):Option S:=
 ab (decide ((v8:Int)<(s.length:Int))) (
 Option.bind (ah s v8) fun x1=>
 aa k (uV k x1 c0) fun r2=>
 ab (r2) (
  ret v8) (
   rec0 (IntKind.wrap .i64 (v8+1)))) (
 ret (-1))
noncomputable def oh {S:Type} (k:Nat) (ret:Int→Option S) (c0:Cl) (s:List Cl):Nat→Int→Option S
 |0=>fun _=> .none
 |m+1=>fun v8=>uD k ret c0 s (oh k ret c0 s m) v8
noncomputable def Fh {S:Type} (k:Nat) (ret:Int→Option S) (J0:Int→Option S) (s:List Cl) (c0:Cl):Option S:=
 J0 0
noncomputable def AP {S:Type} (k:Nat) (s:List Cl) (c0:Cl) (ret:Int→Option S):Option S:=Fh k ret (fun v8=>oh k ret c0 s k v8) s c0
noncomputable def QD {S:Type} (k:Nat) (ret:Bool→Option S) (s:List Cl) (c0:Cl):Option S:=
 aa k (AP k s c0) fun r1=>
 ret (decide ((r1:Int)≥0))
noncomputable def AN {S:Type} (k:Nat) (s:List Cl) (c0:Cl) (ret:Bool→Option S):Option S:=QD k ret s c0
noncomputable def Pe {S:Type} (k:Nat) (ret:Bool→Option S) (c:Cl) (c0:List Cl):Option S:=
 aa k (AN k c0 c) fun r1=>
 ret r1
noncomputable def uU {S:Type} (k:Nat) (c:Cl) (c0:List Cl) (ret:Bool→Option S):Option S:=Pe k ret c c0
def tA {S:Type} (k:Nat) (ret:List Cl×Int→Option S) (b5_0:List Cl) (rec1:Int→(List Cl)→Option S) (v36:Int) (kept9:List Cl):Option S:=
 ab (decide ((v36:Int)<(b5_0.length:Int))) (
 Option.bind (ah b5_0 v36) fun x4=>
 aa k (uU k x4 b5_0) fun r5=>
 ab (!r5) (
  Option.bind (ap 1099511627776 kept9.length [x4].length) fun x6=>
   rec1 (IntKind.wrap .i64 (v36+1)) (kept9++[x4])) (
   rec1 (IntKind.wrap .i64 (v36+1)) kept9)) (
 ab (decide (((kept9.length:Int):Int)>64)) (
  ret (([]:List Cl),3)) (
  ret (sortCl kept9,0)))
noncomputable def lx {S:Type} (k:Nat) (ret:List Cl×Int→Option S) (b5_0:List Cl):Nat→Int→(List Cl)→Option S
 |0=>fun _ _=> .none
 |m+1=>fun v36 kept9=>tA k ret b5_0 (lx k ret b5_0 m) v36 kept9
def pq {S:Type} (k:Nat) (ret:List Cl×Int→Option S) (l:List Cl) (J1:(List Cl)→Int→(List Cl)→Option S) (rec0:(List (Cl×Bool))→(List Cl)→Int→Option S) (b12_0:List (Cl×Bool)) (b5_0:List Cl) (v15:Int):Option S:=
 ab (decide ((v15:Int)<(l.length:Int))) (
 Option.bind (ah l v15) fun x1=>
 aa k (qh k x1) fun r2=>
 ab (!r2) (
  ret (([]:List Cl),2)) (
  ab (!((dt VV ET.C b12_0 x1).getD false)) (
  Option.bind (ap 1099511627776 b5_0.length [x1].length) fun x3=>
    rec0 (eB VV ET.C b12_0 x1 true) (b5_0++[x1]) (IntKind.wrap .i64 (v15+1))) (
    rec0 b12_0 b5_0 (IntKind.wrap .i64 (v15+1))))) (
  J1 b5_0 0 ([]:List Cl))
noncomputable def nC {S:Type} (k:Nat) (ret:List Cl×Int→Option S) (l:List Cl):Nat→(List (Cl×Bool))→(List Cl)→Int→Option S
 |0=>fun _ _ _=> .none
 |m+1=>fun b12_0 b5_0 v15=>pq k ret l (fun b5_0 v36 kept9=>lx k ret b5_0 k v36 kept9) (nC k ret l m) b12_0 b5_0 v15
noncomputable def Ec {S:Type} (k:Nat) (ret:List Cl×Int→Option S) (J0:(List (Cl×Bool))→(List Cl)→Int→Option S) (l:List Cl):Option S:=
 J0 ([]:List (Cl×Bool)) ([]:List Cl) 0
noncomputable def eP {S:Type} (k:Nat) (l:List Cl) (ret:List Cl×Int→Option S):Option S:=Ec k ret (fun b12_0 b5_0 v15=>nC k ret l k b12_0 b5_0 v15) l
def uC {S:Type} (k:Nat) (ret:Bool→Option S) (s1 s2:List Cl) (rec0:Int→Option S) (v13:Int):Option S:=
 ab (decide ((v13:Int)<(s1.length:Int))) (
 Option.bind (ah s1 v13) fun x1=>
 Option.bind (ah s2 v13) fun x2=>
 ab (!((x1.pos==x2.pos)&&((x1.neg==x2.neg)&&true))) (
  ret false) (
   rec0 (IntKind.wrap .i64 (v13+1)))) (
 ret true)
noncomputable def og {S:Type} (k:Nat) (ret:Bool→Option S) (s1 s2:List Cl):Nat→Int→Option S
 |0=>fun _=> .none
 |m+1=>fun v13=>uC k ret s1 s2 (og k ret s1 s2 m) v13
def Fg {S:Type} (k:Nat) (ret:Bool→Option S) (J0:Int→Option S) (s1 s2:List Cl):Option S:=
 ab (!((s1.length:Int)==(s2.length:Int))) (
 ret false) (
  J0 0)
noncomputable def vH {S:Type} (k:Nat) (s1 s2:List Cl) (ret:Bool→Option S):Option S:=Fg k ret (fun v13=>og k ret s1 s2 k v13) s1 s2
def PJ {S:Type} (k:Nat) (ret:Bool→Option S) (f:List Cl):Option S:=
 aa k (eP k f) fun r1=>
 ab (r1.2==0) (
 aa k (vH k r1.1 f) fun r2=>
 ret r2) (
 ret false)
noncomputable def fX {S:Type} (k:Nat) (f:List Cl) (ret:Bool→Option S):Option S:=PJ k ret f
def P7 {S:Type} (k:Nat) (ret:Bool→Option S) (i:Int):Option S:=
 ab (decide ((i:Int)≥0)) (
 ret (decide ((i:Int)<24))) (
 ret false)
noncomputable def lf {S:Type} (k:Nat) (i:Int) (ret:Bool→Option S):Option S:=P7 k ret i
def P5 {S:Type} (k:Nat) (ret:Int→Option S) (s i:Int):Option S:=
 aa k (lf k i) fun r1=>
 ab (!r1) (
 ret (aL .and .u32 s 16777215)) (
 Option.bind (bv (0≤(IntKind.wrap .u64 i))) fun x2=>
 ret (aL .andNot .u32 (aL .and .u32 s 16777215) (IntKind.wrap .u32 (1*2^min (Int.toNat (IntKind.wrap .u64 i)) 32))))
noncomputable def iF {S:Type} (k:Nat) (s i:Int) (ret:Int→Option S):Option S:=P5 k ret s i
def tN {S:Type} (k:Nat) (ret:Int→Option S) (f:List Cl) (rec0:Int→Int→Option S) (s3 v8:Int):Option S:=
 ab (decide ((v8:Int)<(f.length:Int))) (
 Option.bind (ah f v8) fun x1=>
  rec0 (aL .or .u32 s3 (aL .or .u32 x1.pos x1.neg)) (IntKind.wrap .i64 (v8+1))) (
 aa k (iF k s3 (-1)) fun r2=>
 ret r2)
noncomputable def nI {S:Type} (k:Nat) (ret:Int→Option S) (f:List Cl):Nat→Int→Int→Option S
 |0=>fun _ _=> .none
 |m+1=>fun s3 v8=>tN k ret f (nI k ret f m) s3 v8
noncomputable def Ew {S:Type} (k:Nat) (ret:Int→Option S) (J0:Int→Int→Option S) (f:List Cl):Option S:=
 J0 0 0
noncomputable def mP {S:Type} (k:Nat) (f:List Cl) (ret:Int→Option S):Option S:=Ew k ret (fun s3 v8=>nI k ret f k s3 v8) f
def QS {S:Type} (k:Nat) (ret:Bool→Option S) (f:List Cl) (dims:Int):Option S:=
 ab (decide ((dims:Int)≥24)) (
 ret true) (
 aa k (mP k f) fun r1=>
 Option.bind (bv (0≤(IntKind.wrap .u64 dims))) fun x2=>
 ret ((Int.fdiv r1 (2^min (Int.toNat (IntKind.wrap .u64 dims)) 32))==0))
noncomputable def jM {S:Type} (k:Nat) (f:List Cl) (dims:Int) (ret:Bool→Option S):Option S:=QS k ret f dims
noncomputable def Pd {S:Type} (k:Nat) (ret:Bool→Option S) (c:Cl):Option S:=
 ret (!((aL .and .u32 c.pos c.neg)==0))
noncomputable def qf {S:Type} (k:Nat) (c:Cl) (ret:Bool→Option S):Option S:=Pd k ret c
def uE {S:Type} (k:Nat) (ret:Int→Option S) (s:List Cl) (rec0:Int→Option S) (v8:Int):Option S:=
 ab (decide ((v8:Int)<(s.length:Int))) (
 Option.bind (ah s v8) fun x1=>
 aa k (qf k x1) fun r2=>
 ab (r2) (
  ret v8) (
   rec0 (IntKind.wrap .i64 (v8+1)))) (
 ret (-1))
noncomputable def oi {S:Type} (k:Nat) (ret:Int→Option S) (s:List Cl):Nat→Int→Option S
 |0=>fun _=> .none
 |m+1=>fun v8=>uE k ret s (oi k ret s m) v8
noncomputable def Fi {S:Type} (k:Nat) (ret:Int→Option S) (J0:Int→Option S) (s:List Cl):Option S:=
 J0 0
noncomputable def AQ {S:Type} (k:Nat) (s:List Cl) (ret:Int→Option S):Option S:=Fi k ret (fun v8=>oi k ret s k v8) s
noncomputable def QE {S:Type} (k:Nat) (ret:Bool→Option S) (s:List Cl):Option S:=
 aa k (AQ k s) fun r1=>
 ret (decide ((r1:Int)≥0))
noncomputable def AO {S:Type} (k:Nat) (s:List Cl) (ret:Bool→Option S):Option S:=QE k ret s
def Pu {S:Type} (k:Nat) (ret:Bool→Option S) (f:List Cl):Option S:=
 aa k (fX k f) fun r1=>
 ab (r1) (
 aa k (AO k f) fun r2=>
 ret (!r2)) (
 ret false)
noncomputable def iA {S:Type} (k:Nat) (f:List Cl) (ret:Bool→Option S):Option S:=Pu k ret f
def uI {S:Type} (k:Nat) (ret:Bool→Option S) (t:Tm) (dims:Int) (rec1:Int→Option S) (v109:Int):Option S:=
 ab (decide ((v109:Int)<(t.sys.length:Int))) (
 Option.bind (ah t.sys v109) fun x12=>
 aa k (jL k t.kind) fun r13=>
 ab (!((x12.kids.length:Int)==r13)) (
  ret false) (
  aa k (iA k x12.face) fun r14=>
  ab (!r14) (
  ret false) (
  aa k (jM k x12.face dims) fun r15=>
  ab (!r15) (
   ret false) (
     rec1 (IntKind.wrap .i64 (v109+1)))))) (
 ret ((t.r.length:Int)==0))
noncomputable def jh {S:Type} (k:Nat) (ret:Bool→Option S) (t:Tm) (dims:Int):Nat→Int→Option S
 |0=>fun _=> .none
 |m+1=>fun v109=>uI k ret t dims (jh k ret t dims m) v109
def p9 {S:Type} (k:Nat) (ret:Bool→Option S) (t:Tm) (vars dims:Int) (J1:Int→Option S):Option S:=
 ab (t.kind==1) (
 ab ((t.r.length:Int)==0) (
  ab (decide ((t.n:Int)≥0)) (
  ab (decide ((vars:Int)<0)) (
   ret true) (
   ret (decide ((t.n:Int)<vars)))) (
  ret false)) (
  ret false)) (
 ab (t.kind==2) (
  ab ((t.r.length:Int)==0) (
  aa k (vK k t.name) fun r3=>
  ret r3) (
  ret false)) (
  ab (t.kind==13) (
  aa k (fX k t.r) fun r4=>
  ab (r4) (
   aa k (jM k t.r dims) fun r5=>
   ret r5) (
   ret false)) (
  ab (t.kind==21) (
   aa k (fX k t.r) fun r6=>
   ab (r6) (
   aa k (jM k t.r dims) fun r7=>
   ret r7) (
   ret false)) (
   ab (t.kind==26) (
   aa k (fX k t.r) fun r8=>
   ab (r8) (
    aa k (jM k t.r dims) fun r9=>
    ret r9) (
    ret false)) (
   ab (t.kind==14) (
    aa k (iA k t.r) fun r10=>
    ab (r10) (
    aa k (jM k t.r dims) fun r11=>
    ret r11) (
    ret false)) (
       J1 0))))))
noncomputable def wT {S:Type} (k:Nat) (ret:Bool→Option S) (t:Tm) (vars dims:Int):Nat→Option S
 |0=> .none
 |_+1=>p9 k ret t vars dims (fun v109=>jh k ret t dims k v109)
def Fp {S:Type} (k:Nat) (ret:Bool→Option S) (J0:Option S) (t:Tm) (vars dims:Int):Option S:=
 aa k (vI k t.kind) fun r1=>
 ab (!(r1==(t.kids.length:Int))) (
 ret false) (
 ab (!(t.kind==1)) (
  ab (!(t.n==0)) (
  ret false) (
  ab (!(t.kind==2)) (
   ab (!(t.name==ByteArray.empty)) (
   ret false) (
   aa k (jL k t.kind) fun r2=>
   ab (r2==0) (
    ab (decide (((t.sys.length:Int):Int)>0)) (
    ret false) (
        J0)) (
       J0))) (
   aa k (jL k t.kind) fun r16=>
   ab (r16==0) (
   ab (decide (((t.sys.length:Int):Int)>0)) (
    ret false) (
       J0)) (
      J0)))) (
  ab (!(t.kind==2)) (
  ab (!(t.name==ByteArray.empty)) (
   ret false) (
   aa k (jL k t.kind) fun r17=>
   ab (r17==0) (
   ab (decide (((t.sys.length:Int):Int)>0)) (
    ret false) (
       J0)) (
      J0))) (
  aa k (jL k t.kind) fun r18=>
  ab (r18==0) (
   ab (decide (((t.sys.length:Int):Int)>0)) (
   ret false) (
      J0)) (
     J0))))
noncomputable def qQ {S:Type} (k:Nat) (t:Tm) (vars dims:Int) (ret:Bool→Option S):Option S:=Fp k ret (wT k ret t vars dims k) t vars dims
abbrev cV (S:Type):=Tm→Int→Int→Bool→(Bool→Option S)→Option S
def QL {S:Type} (hd:cV S) (k:Nat) (ret:Bool→Option S) (a_k:Tm) (v d c0 c1:Int) (c2:Bool):Option S:=
 ab (decide ((c0:Int)<0)) (
 hd (ac a_k) (IntKind.wrap .i64 (c0+0)) (IntKind.wrap .i64 (c1+d)) c2 fun r1=>
 ret r1) (
 hd (ac a_k) (IntKind.wrap .i64 (c0+v)) (IntKind.wrap .i64 (c1+d)) c2 fun r2=>
 ret r2)
noncomputable def qP {S:Type} (hd:cV S) (k:Nat) (a_k:Tm) (v d c0 c1:Int) (c2:Bool) (ret:Bool→Option S):Option S:=QL hd k ret a_k v d c0 c1 c2
def uG {S:Type} (hd:cV S) (k:Nat) (ret:Bool→Option S) (c0 c1:Int) (c2:Bool) (t:Tm) (v42:Int) (x4:(Br Tm)) (more9:Int) (rec1:Int→Int→Option S) (rec2:Int→Option S) (v49:Int):Option S:=
 ab (decide ((v49:Int)<(x4.kids.length:Int))) (
 Option.bind (ah x4.kids v49) fun x5=>
 aa k (qP hd k (ac x5) 0 more9 c0 c1 c2) fun r6=>
 ab (!r6) (
  ret false) (
   rec2 (IntKind.wrap .i64 (v49+1)))) (
  rec1 (IntKind.wrap .i64 (v42+1)) more9)
noncomputable def kg {S:Type} (hd:cV S) (k:Nat) (ret:Bool→Option S) (rec1:Int→Int→Option S) (c0 c1:Int) (c2:Bool) (t:Tm) (v42:Int) (x4:(Br Tm)) (more9:Int):Nat→Int→Option S
 |0=>fun _=> .none
 |m+1=>fun v49=>uG hd k ret c0 c1 c2 t v42 x4 more9 rec1 (kg hd k ret rec1 c0 c1 c2 t v42 x4 more9 m) v49
def p5 {S:Type} (hd:cV S) (k:Nat) (ret:Bool→Option S) (c0 c1:Int) (c2:Bool) (t:Tm) (J2:Int→(Br Tm)→Int→Int→Option S) (rec1:Int→Int→Option S) (v42 more9:Int):Option S:=
 ab (decide ((v42:Int)<(t.sys.length:Int))) (
 Option.bind (ah t.sys v42) fun x4=>
  J2 v42 x4 more9 0) (
 ret true)
noncomputable def gj {S:Type} (hd:cV S) (k:Nat) (ret:Bool→Option S) (c0 c1:Int) (c2:Bool) (t:Tm):Nat→Int→Int→Option S
 |0=>fun _ _=> .none
 |m+1=>fun v42 more9=>p5 hd k ret c0 c1 c2 t (fun v42 x4 more9 v49=>kg hd k ret (gj hd k ret c0 c1 c2 t m) c0 c1 c2 t v42 x4 more9 k v49) (gj hd k ret c0 c1 c2 t m) v42 more9
def p4 {S:Type} (hd:cV S) (k:Nat) (ret:Bool→Option S) (c0 c1:Int) (c2:Bool) (t:Tm) (J1:Int→Int→Option S) (rec0:Int→Option S) (v17:Int):Option S:=
 ab (decide ((v17:Int)<(t.kids.length:Int))) (
 Option.bind (ah t.kids v17) fun x1=>
 aa k (fw k t.kind v17) fun r2=>
 aa k (qP hd k (ac x1) r2.1 r2.2 c0 c1 c2) fun r3=>
 ab (!r3) (
  ret false) (
   rec0 (IntKind.wrap .i64 (v17+1)))) (
 ab (t.kind==15) (
   J1 0 1) (
   J1 0 0))
noncomputable def lS {S:Type} (hd:cV S) (k:Nat) (ret:Bool→Option S) (c0 c1:Int) (c2:Bool) (t:Tm):Nat→Int→Option S
 |0=>fun _=> .none
 |m+1=>fun v17=>p4 hd k ret c0 c1 c2 t (fun v42 more9=>gj hd k ret c0 c1 c2 t k v42 more9) (lS hd k ret c0 c1 c2 t m) v17
noncomputable def Fk {S:Type} (hd:cV S) (k:Nat) (ret:Bool→Option S) (J0:Int→Option S) (t:Tm) (c0 c1:Int) (c2:Bool):Option S:=
 J0 0
noncomputable def vJ {S:Type} (hd:cV S) (k:Nat) (t:Tm) (c0 c1:Int) (c2:Bool) (ret:Bool→Option S):Option S:=Fk hd k ret (fun v17=>lS hd k ret c0 c1 c2 t k v17) t c0 c1 c2
def QK {S:Type} (hd:cV S) (k:Nat) (ret:Bool→Option S) (t:Tm) (vars dims:Int) (bound:Bool):Option S:=
 ab (bound) (
 ab (decide ((dims:Int)>24)) (
  ret false) (
  aa k (qQ k (ac t) vars dims) fun r1=>
  ab (!r1) (
  ret false) (
  aa k (vJ hd k (ac t) vars dims bound) fun r2=>
  ret r2))) (
 aa k (qQ k (ac t) vars dims) fun r3=>
 ab (!r3) (
  ret false) (
  aa k (vJ hd k (ac t) vars dims bound) fun r4=>
  ret r4))
noncomputable def fz {S:Type}:Nat→Tm→Int→Int→Bool→(Bool→Option S)→Option S
 |0=>fun _ _ _ _ _=> .none
 |k+1=>fun t vars dims bound ret=>QK (fz k) k ret t vars dims bound
def QH {S:Type} (k:Nat) (ret:Int→Option S) (t:Tm):Option S:=
 aa k (vL k (ac t)) fun r1=>
 ab (!(r1==0)) (
 ret r1) (
 fz k (ac t) (-1) 24 false fun r2=>
 ab (!r2) (
  ret 100) (
  ret 0))
noncomputable def d3 {S:Type} (k:Nat) (t:Tm) (ret:Int→Option S):Option S:=QH k ret t
abbrev d1 (S:Type):=Tm→(Tm→Option S)→Option S
def F9 {S:Type} (hd:d1 S) (k:Nat) (ret:List Tm→Option S) (l:List Tm) (rec0:(List Tm)→Int→Option S) (out3:List Tm) (v8:Int):Option S:=
 ab (decide ((v8:Int)<(l.length:Int))) (
 Option.bind (ah l v8) fun x1=>
 hd (ac x1) fun r2=>
 Option.bind (ap 1099511627776 out3.length [(ac r2)].length) fun x3=>
  rec0 (out3++[(ac r2)]) (IntKind.wrap .i64 (v8+1))) (
 ret out3)
noncomputable def B6 {S:Type} (hd:d1 S) (k:Nat) (ret:List Tm→Option S) (l:List Tm):Nat→(List Tm)→Int→Option S
 |0=>fun _ _=> .none
 |m+1=>fun out3 v8=>F9 hd k ret l (B6 hd k ret l m) out3 v8
noncomputable def QM {S:Type} (hd:d1 S) (k:Nat) (ret:List Tm→Option S) (J0:(List Tm)→Int→Option S) (l:List Tm):Option S:=
 J0 ([]:List Tm) 0
noncomputable def AU {S:Type} (hd:d1 S) (k:Nat) (l:List Tm) (ret:List Tm→Option S):Option S:=QM hd k ret (fun out3 v8=>B6 hd k ret l k out3 v8) l
def F8 {S:Type} (hd:d1 S) (k:Nat) (ret:Tm→Option S) (t:Tm) (r1:List Cl) (r2:List Tm) (rec0:(List (Br Tm))→Int→Option S) (b3_5:List (Br Tm)) (v22:Int):Option S:=
 ab (decide ((v22:Int)<(t.sys.length:Int))) (
 Option.bind (ah t.sys v22) fun x3=>
 xe x3.face fun r4=>
 aa k (AU hd k x3.kids) fun r5=>
 Option.bind (ap 1099511627776 b3_5.length [(Br.mk r4 r5)].length) fun x6=>
  rec0 (b3_5++[(Br.mk r4 r5)]) (IntKind.wrap .i64 (v22+1))) (
 ret (Tm.mk t.kind t.n t.name r1 r2 b3_5))
noncomputable def B5 {S:Type} (hd:d1 S) (k:Nat) (ret:Tm→Option S) (t:Tm) (r1:List Cl) (r2:List Tm):Nat→(List (Br Tm))→Int→Option S
 |0=>fun _ _=> .none
 |m+1=>fun b3_5 v22=>F8 hd k ret t r1 r2 (B5 hd k ret t r1 r2 m) b3_5 v22
noncomputable def QG {S:Type} (hd:d1 S) (k:Nat) (ret:Tm→Option S) (J0:(List Cl)→(List Tm)→(List (Br Tm))→Int→Option S) (t:Tm):Option S:=
 xe t.r fun r1=>
 aa k (AU hd k t.kids) fun r2=>
 J0 r1 r2 ([]:List (Br Tm)) 0
noncomputable def c5 {S:Type}:Nat→Tm→(Tm→Option S)→Option S
 |0=>fun _ _=> .none
 |k+1=>fun t ret=>QG (c5 k) k ret (fun r1 r2 b3_5 v22=>B5 (c5 k) k ret t r1 r2 k b3_5 v22) t
def aiE {S:Type} (k:Nat) (ret:Tm×Int→Option S) (t:Tm) (a_e c0:Int):Option S:=
 ab (c0==0) (
 ab (!(a_e==0)) (
  ret ((Tm.mk 0 0 ByteArray.empty [] [] []),a_e)) (
  ret ((ac t),a_e))) (
 ab (!(c0==0)) (
  ret ((Tm.mk 0 0 ByteArray.empty [] [] []),c0)) (
  ret ((ac t),c0)))
noncomputable def d2 {S:Type} (k:Nat) (t:Tm) (a_e c0:Int) (ret:Tm×Int→Option S):Option S:=aiE k ret t a_e c0
noncomputable def aiF {S:Type} (k:Nat) (ret:Bool→Option S) (c0:Int):Option S:=
 ret (c0==0)
noncomputable def dA {S:Type} (k:Nat) (c0:Int) (ret:Bool→Option S):Option S:=aiF k ret c0
noncomputable def aiv {S:Type} (k:Nat) (ret:Tm×Bool×Int×Int→Option S) (t:Tm) (c0:Int):Option S:=
 aa k (d3 k (ac t)) fun r1=>
 aa k (d2 k (ac t) r1 c0) fun r2=>
 c5 k (ac r2.1) fun r3=>
 aa k (dA k r2.2) fun r4=>
 ret ((ac r3),r4,r2.2,r2.2)
noncomputable def fY {S:Type} (k:Nat) (t:Tm) (c0:Int) (ret:Tm×Bool×Int×Int→Option S):Option S:=aiv k ret t c0
def tU {S:Type} (k:Nat) (ret:Int→Option S) (l:List (List Cl)) (rec0:Int→Option S) (v7:Int):Option S:=
 ab (decide ((v7:Int)<(l.length:Int))) (
 Option.bind (ah l v7) fun x1=>
 aa k (fX k x1) fun r2=>
 ab (!r2) (
  ret 2) (
   rec0 (IntKind.wrap .i64 (v7+1)))) (
 ret 0)
noncomputable def nO {S:Type} (k:Nat) (ret:Int→Option S) (l:List (List Cl)):Nat→Int→Option S
 |0=>fun _=> .none
 |m+1=>fun v7=>tU k ret l (nO k ret l m) v7
noncomputable def EE {S:Type} (k:Nat) (ret:Int→Option S) (J0:Int→Option S) (l:List (List Cl)):Option S:=
 J0 0
noncomputable def mS {S:Type} (k:Nat) (l:List (List Cl)) (ret:Int→Option S):Option S:=EE k ret (fun v7=>nO k ret l k v7) l
noncomputable def Ey {S:Type} (k:Nat) (ret:List Cl→Option S):Option S:=
 ret ([]:List Cl)
noncomputable def mQ {S:Type} (k:Nat) (ret:List Cl→Option S):Option S:=Ey k ret
noncomputable def P6 {S:Type} (k:Nat) (ret:Int→Option S) (i:Int):Option S:=
 Option.bind (bv (0≤(IntKind.wrap .u64 (if 24<i then 24 else i)))) fun x1=>
 ret (IntKind.wrap .u32 (IntKind.wrap .u64 ((IntKind.wrap .u64 (1*2^min (Int.toNat (IntKind.wrap .u64 (if 24<i then 24 else i))) 64))-1)))
noncomputable def mV {S:Type} (k:Nat) (i:Int) (ret:Int→Option S):Option S:=P6 k ret i
def yx {S:Type} (k:Nat) (ret:Int×Int→Option S) (s a_from a_by:Int):Option S:=
 ab (decide ((a_from:Int)<0)) (
 ret (0,2)) (
 ab (decide ((a_by:Int)<0)) (
  ret (0,2)) (
  aa k (mV k a_from) fun r1=>
  aa k (mV k a_from) fun r2=>
  ab ((IntKind.wrap .u64 (aL .andNot .u32 (aL .and .u32 s 16777215) r2))==0) (
  ret (aL .and .u32 (aL .and .u32 s 16777215) r1,0)) (
  ab (decide ((a_by:Int)≥24)) (
   ret (0,10)) (
   Option.bind (bv (0≤(IntKind.wrap .u64 a_by))) fun x3=>
   ab (decide ((IntKind.wrap .u64 ((IntKind.wrap .u64 (aL .andNot .u32 (aL .and .u32 s 16777215) r2))*2^min (Int.toNat (IntKind.wrap .u64 a_by)) 64):Int)>16777215)) (
   ret (0,10)) (
   Option.bind (bv (0≤(IntKind.wrap .u64 a_by))) fun x4=>
   ret (aL .or .u32 (aL .and .u32 (aL .and .u32 s 16777215) r1) (IntKind.wrap .u32 (IntKind.wrap .u64 ((IntKind.wrap .u64 (aL .andNot .u32 (aL .and .u32 s 16777215) r2))*2^min (Int.toNat (IntKind.wrap .u64 a_by)) 64))),0))))))
noncomputable def jF {S:Type} (k:Nat) (s a_from a_by:Int) (ret:Int×Int→Option S):Option S:=yx k ret s a_from a_by
def Pg {S:Type} (k:Nat) (ret:Cl×Int→Option S) (c:Cl) (a_from a_by:Int):Option S:=
 aa k (qh k c) fun r1=>
 ab (!r1) (
 ret ((Cl.mk 0 0),2)) (
 aa k (jF k c.pos a_from a_by) fun r2=>
 ab (!(r2.2==0)) (
  ret ((Cl.mk 0 0),r2.2)) (
  aa k (jF k c.neg a_from a_by) fun r3=>
  ab (!(r3.2==0)) (
  ret ((Cl.mk 0 0),r3.2)) (
  ret ((Cl.mk r2.1 r3.1),0))))
noncomputable def uW {S:Type} (k:Nat) (c:Cl) (a_from a_by:Int) (ret:Cl×Int→Option S):Option S:=Pg k ret c a_from a_by
noncomputable def PD {S:Type} (k:Nat) (ret:List Cl×Int→Option S) (a_have:List Cl) (c:Cl) (c0 c1:Int):Option S:=
 aa k (uW k c c0 c1) fun r1=>
 Option.bind (ap 1099511627776 a_have.length [r1.1].length) fun x2=>
 ret (a_have++[r1.1],r1.2)
noncomputable def Az {S:Type} (k:Nat) (a_have:List Cl) (c:Cl) (c0 c1:Int) (ret:List Cl×Int→Option S):Option S:=PD k ret a_have c c0 c1
def tQ {S:Type} (k:Nat) (ret:List Cl×Int→Option S) (c0 c1:Int) (l:List Cl) (rec0:(List Cl)→Int→Option S) (v1:List Cl) (v15:Int):Option S:=
 ab (decide ((v15:Int)<(l.length:Int))) (
 Option.bind (ah l v15) fun x1=>
 aa k (Az k v1 x1 c0 c1) fun r2=>
 ab (!(r2.2==0)) (
  ret (([]:List Cl),r2.2)) (
   rec0 r2.1 (IntKind.wrap .i64 (v15+1)))) (
 ret (v1,0))
noncomputable def nM {S:Type} (k:Nat) (ret:List Cl×Int→Option S) (c0 c1:Int) (l:List Cl):Nat→(List Cl)→Int→Option S
 |0=>fun _ _=> .none
 |m+1=>fun v1 v15=>tQ k ret c0 c1 l (nM k ret c0 c1 l m) v1 v15
noncomputable def EB {S:Type} (k:Nat) (ret:List Cl×Int→Option S) (J0:(List Cl)→Int→Option S) (l a_from:List Cl) (c0 c1:Int):Option S:=
 J0 a_from 0
noncomputable def vf {S:Type} (k:Nat) (l a_from:List Cl) (c0 c1:Int) (ret:List Cl×Int→Option S):Option S:=EB k ret (fun v1 v15=>nM k ret c0 c1 l k v1 v15) l a_from c0 c1
def PC {S:Type} (k:Nat) (ret:List Cl×Int→Option S) (f:List Cl) (a_from a_by:Int):Option S:=
 aa k (mS k [f]) fun r1=>
 ab (!(r1==0)) (
 ret (([]:List Cl),r1)) (
 aa k (mQ k) fun r2=>
 aa k (vf k f r2 a_from a_by) fun r3=>
 ab (!(r3.2==0)) (
  ret (([]:List Cl),r3.2)) (
  aa k (eP k r3.1) fun r4=>
  ret (r4.1,r4.2)))
noncomputable def iC {S:Type} (k:Nat) (f:List Cl) (a_from a_by:Int) (ret:List Cl×Int→Option S):Option S:=PC k ret f a_from a_by
def P0 {S:Type} (k:Nat) (ret:Pan Int (List Cl)→Option S) (l_0 l_1:Int) (f:List Cl) (a_from:Int):Option S:=
 ab (l_1==0) (
 Option.bind (ap 1099511627776 0 f.length) fun x1=>
 ret (.ok f)) (
 ab (decide ((a_from:Int)≥24)) (
  Option.bind (ap 1099511627776 0 f.length) fun x2=>
  ret (.ok f)) (
  aa k (iC k f a_from l_1) fun r3=>
  ab (!(r3.2==0)) (
  ret (.pan r3.2)) (
  ret (.ok r3.1))))
noncomputable def qA {S:Type} (k:Nat) (l_0 l_1:Int) (f:List Cl) (a_from:Int) (ret:Pan Int (List Cl)→Option S):Option S:=P0 k ret l_0 l_1 f a_from
abbrev eK (S:Type):=Int→Int→Tm→Int→Int→(Pan Int Tm→Option S)→Option S
def tW {S:Type} (hd:eK S) (k:Nat) (ret:Pan Int Tm→Option S) (r12:List Cl) (l_0 l_1:Int) (t:Tm) (b9_1:Int) (r2:List Cl) (b9_4:List Tm) (b9_5:List (Br Tm)) (x10:(Br Tm)) (more14 v d v90:Int) (rec2:(List (Br Tm))→Int→Int→Option S) (rec3:(List Tm)→Int→Option S) (b17_1:List Tm) (v103:Int):Option S:=
 ab (decide ((v103:Int)<(x10.kids.length:Int))) (
 Option.bind (ah x10.kids v103) fun x14=>
 hd l_0 l_1 (ac x14) v (IntKind.wrap .i64 (d+more14)) fun r16=>Pan.elim r16 (fun r16=>
  Option.bind (ap 1099511627776 b17_1.length [(ac r16)].length) fun x18=>
   rec3 (b17_1++[(ac r16)]) (IntKind.wrap .i64 (v103+1))) (fun e17=>
  ret (.pan e17))) (
 Option.bind (ap 1099511627776 b9_5.length [(Br.mk r12 b17_1)].length) fun x19=>
  rec2 (b9_5++[(Br.mk r12 b17_1)]) more14 (IntKind.wrap .i64 (v90+1)))
noncomputable def j6 {S:Type} (hd:eK S) (k:Nat) (ret:Pan Int Tm→Option S) (rec2:(List (Br Tm))→Int→Int→Option S) (r12:List Cl) (l_0 l_1:Int) (t:Tm) (b9_1:Int) (r2:List Cl) (b9_4:List Tm) (b9_5:List (Br Tm)) (x10:(Br Tm)) (more14 v d v90:Int):Nat→(List Tm)→Int→Option S
 |0=>fun _ _=> .none
 |m+1=>fun b17_1 v103=>tW hd k ret r12 l_0 l_1 t b9_1 r2 b9_4 b9_5 x10 more14 v d v90 rec2 (j6 hd k ret rec2 r12 l_0 l_1 t b9_1 r2 b9_4 b9_5 x10 more14 v d v90 m) b17_1 v103
def py {S:Type} (hd:eK S) (k:Nat) (ret:Pan Int Tm→Option S) (l_0 l_1:Int) (t:Tm) (b9_1:Int) (r2:List Cl) (b9_4:List Tm) (v d:Int) (J3:(List Cl)→(List (Br Tm))→(Br Tm)→Int→Int→(List Tm)→Int→Option S) (rec2:(List (Br Tm))→Int→Int→Option S) (b9_5:List (Br Tm)) (more14 v90:Int):Option S:=
 ab (decide ((v90:Int)<(t.sys.length:Int))) (
 Option.bind (ah t.sys v90) fun x10=>
 aa k (qA k l_0 l_1 x10.face d) fun r12=>Pan.elim r12 (fun r12=>
   J3 r12 b9_5 x10 more14 v90 ([]:List Tm) 0) (fun e13=>
  ret (.pan e13))) (
 ret (.ok (Tm.mk t.kind b9_1 t.name r2 b9_4 b9_5)))
noncomputable def gc {S:Type} (hd:eK S) (k:Nat) (ret:Pan Int Tm→Option S) (l_0 l_1:Int) (t:Tm) (b9_1:Int) (r2:List Cl) (b9_4:List Tm) (v d:Int):Nat→(List (Br Tm))→Int→Int→Option S
 |0=>fun _ _ _=> .none
 |m+1=>fun b9_5 more14 v90=>py hd k ret l_0 l_1 t b9_1 r2 b9_4 v d (fun r12 b9_5 x10 more14 v90 b17_1 v103=>j6 hd k ret (gc hd k ret l_0 l_1 t b9_1 r2 b9_4 v d m) r12 l_0 l_1 t b9_1 r2 b9_4 b9_5 x10 more14 v d v90 k b17_1 v103) (gc hd k ret l_0 l_1 t b9_1 r2 b9_4 v d m) b9_5 more14 v90
def px {S:Type} (hd:eK S) (k:Nat) (ret:Pan Int Tm→Option S) (l_0 l_1:Int) (t:Tm) (b9_1:Int) (r2:List Cl) (v d:Int) (J2:(List Tm)→(List (Br Tm))→Int→Int→Option S) (rec1:(List Tm)→Int→Option S) (b9_4:List Tm) (v57:Int):Option S:=
 ab (decide ((v57:Int)<(t.kids.length:Int))) (
 Option.bind (ah t.kids v57) fun x4=>
 aa k (fw k t.kind v57) fun r5=>
 hd l_0 l_1 (ac x4) (IntKind.wrap .i64 (v+r5.1)) (IntKind.wrap .i64 (d+r5.2)) fun r7=>Pan.elim r7 (fun r7=>
  Option.bind (ap 1099511627776 b9_4.length [(ac r7)].length) fun x9=>
   rec1 (b9_4++[(ac r7)]) (IntKind.wrap .i64 (v57+1))) (fun e8=>
  ret (.pan e8))) (
 ab (t.kind==15) (
   J2 b9_4 ([]:List (Br Tm)) 1 0) (
   J2 b9_4 ([]:List (Br Tm)) 0 0))
noncomputable def iZ {S:Type} (hd:eK S) (k:Nat) (ret:Pan Int Tm→Option S) (l_0 l_1:Int) (t:Tm) (b9_1:Int) (r2:List Cl) (v d:Int):Nat→(List Tm)→Int→Option S
 |0=>fun _ _=> .none
 |m+1=>fun b9_4 v57=>px hd k ret l_0 l_1 t b9_1 r2 v d (fun b9_4 b9_5 more14 v90=>gc hd k ret l_0 l_1 t b9_1 r2 b9_4 v d k b9_5 more14 v90) (iZ hd k ret l_0 l_1 t b9_1 r2 v d m) b9_4 v57
noncomputable def zO {S:Type} (hd:eK S) (k:Nat) (ret:Pan Int Tm→Option S) (l_0 l_1:Int) (t:Tm) (r2:List Cl) (v d:Int) (J1:Int→(List Tm)→Int→Option S) (b9_1:Int):Option S:=
 J1 b9_1 ([]:List Tm) 0
noncomputable def rq {S:Type} (hd:eK S) (k:Nat) (ret:Pan Int Tm→Option S) (l_0 l_1:Int) (t:Tm) (r2:List Cl) (v d:Int):Nat→Int→Option S
 |0=>fun _=> .none
 |_+1=>fun b9_1=>zO hd k ret l_0 l_1 t r2 v d (fun b9_1 b9_4 v57=>iZ hd k ret l_0 l_1 t b9_1 r2 v d k b9_4 v57) b9_1
def EG {S:Type} (hd:eK S) (k:Nat) (ret:Pan Int Tm→Option S) (J0:(List Cl)→Int→Option S) (l_0 l_1:Int) (t:Tm) (v d:Int):Option S:=
 aa k (qA k l_0 l_1 t.r d) fun r2=>Pan.elim r2 (fun r2=>
 ab (t.kind==1) (
  ab (decide ((t.n:Int)≥v)) (
  ab (decide ((t.n:Int)>(IntKind.wrap .i64 (1000000000-l_0)))) (
   ret (.pan 100)) (
     J0 r2 (IntKind.wrap .i64 (t.n+l_0)))) (
    J0 r2 t.n)) (
   J0 r2 t.n)) (fun e3=>
 ret (.pan e3))
noncomputable def cK {S:Type}:Nat→Int→Int→Tm→Int→Int→(Pan Int Tm→Option S)→Option S
 |0=>fun _ _ _ _ _ _=> .none
 |k+1=>fun l_0 l_1 t v d ret=>EG (cK k) k ret (fun r2 b9_1=>rq (cK k) k ret l_0 l_1 t r2 v d k b9_1) l_0 l_1 t v d
noncomputable def aim {S:Type} (k:Nat) (ret:Pan Int Tm→Option S) (c0 c1:Int) (c2:Tm):Option S:=
 cK k c1 0 (ac c2) 0 0 fun r2=>Pan.elim r2 (fun r2=>
 cK k 0 c0 (ac r2) 0 0 fun r5=>Pan.elim r5 (fun r5=>
  ret (.ok (ac r5))) (fun e6=>
  ret (.pan e6))) (fun e3=>
 ret (.pan e3))
noncomputable def GW {S:Type} (k:Nat) (c0 c1:Int) (c2:Tm) (ret:Pan Int Tm→Option S):Option S:=aim k ret c0 c1 c2
def F5 {S:Type} (k:Nat) (ret:Tm×Int→Option S) (c0 c1:Int) (c2:Tm) (numbers:List Int) (rec0:Int→Option S) (v19:Int):Option S:=
 ab (decide ((v19:Int)<(numbers.length:Int))) (
 Option.bind (ah numbers v19) fun x2=>
 ab (decide ((x2:Int)<0)) (
  ret ((Tm.mk 0 0 ByteArray.empty [] [] []),2)) (
   rec0 (IntKind.wrap .i64 (v19+1)))) (
 aa k (GW k c0 c1 (ac c2)) fun r4=>Pan.elim r4 (fun r4=>
  ret ((ac r4),0)) (fun e5=>
  ret ((Tm.mk 0 0 ByteArray.empty [] [] []),e5)))
noncomputable def B2 {S:Type} (k:Nat) (ret:Tm×Int→Option S) (c0 c1:Int) (c2:Tm) (numbers:List Int):Nat→Int→Option S
 |0=>fun _=> .none
 |m+1=>fun v19=>F5 k ret c0 c1 c2 numbers (B2 k ret c0 c1 c2 numbers m) v19
def PZ {S:Type} (k:Nat) (ret:Tm×Int→Option S) (J0:Int→Option S) (t:Tm) (numbers:List Int) (c0 c1:Int) (c2:Tm):Option S:=
 aa k (d3 k (ac t)) fun r1=>
 ab (!(r1==0)) (
 ret ((Tm.mk 0 0 ByteArray.empty [] [] []),r1)) (
  J0 0)
noncomputable def G2 {S:Type} (k:Nat) (t:Tm) (numbers:List Int) (c0 c1:Int) (c2:Tm) (ret:Tm×Int→Option S):Option S:=PZ k ret (fun v19=>B2 k ret c0 c1 c2 numbers k v19) t numbers c0 c1 c2
noncomputable def ail {S:Type} (k:Nat) (ret:Tm×Int→Option S) (t:Tm) (vars dims:Int):Option S:=
 aa k (G2 k (ac t) [vars,dims,IntKind.wrap .i64 (1000000-vars)] dims vars (ac t)) fun r1=>
 ret ((ac r1.1),r1.2)
noncomputable def vk {S:Type} (k:Nat) (t:Tm) (vars dims:Int) (ret:Tm×Int→Option S):Option S:=ail k ret t vars dims
def aiD {S:Type} (k:Nat) (ret:Tm×Int→Option S) (t:Tm) (vars dims c0:Int):Option S:=
 aa k (dA k c0) fun r1=>
 ab (!r1) (
 ret ((Tm.mk 0 0 ByteArray.empty [] [] []),c0)) (
 aa k (vk k (ac t) vars dims) fun r2=>
 aa k (d2 k (ac r2.1) r2.2 c0) fun r3=>
 ret ((ac r3.1),r3.2))
noncomputable def eo {S:Type} (k:Nat) (t:Tm) (vars dims c0:Int) (ret:Tm×Int→Option S):Option S:=aiD k ret t vars dims c0
noncomputable def aiI {S:Type} (k:Nat) (ret:Int×Int×ByteArray→Option S) (a_n:Int):Option S:=
 ret (1,a_n,ByteArray.empty)
noncomputable def G8 {S:Type} (k:Nat) (a_n:Int) (ret:Int×Int×ByteArray→Option S):Option S:=aiI k ret a_n
def ahQ {S:Type} (k:Nat) (ret:Int→Option S) (a_e c0:Int):Option S:=
 ab (c0==0) (
 ret a_e) (
 ret c0)
noncomputable def gK {S:Type} (k:Nat) (a_e c0:Int) (ret:Int→Option S):Option S:=ahQ k ret a_e c0
def FS {S:Type} (k:Nat) (ret:Int→Option S) (l:List Tm) (rec0:Int→Int→Option S) (b7_0 v10:Int):Option S:=
 ab (decide ((v10:Int)<(l.length:Int))) (
 Option.bind (ah l v10) fun x1=>
 aa k (d3 k (ac x1)) fun r2=>
 aa k (gK k r2 b7_0) fun r3=>
  rec0 r3 (IntKind.wrap .i64 (v10+1))) (
 ret b7_0)
noncomputable def BR {S:Type} (k:Nat) (ret:Int→Option S) (l:List Tm):Nat→Int→Int→Option S
 |0=>fun _ _=> .none
 |m+1=>fun b7_0 v10=>FS k ret l (BR k ret l m) b7_0 v10
noncomputable def Pb {S:Type} (k:Nat) (ret:Int→Option S) (J0:Int→Int→Option S) (l:List Tm):Option S:=
 J0 0 0
noncomputable def uR {S:Type} (k:Nat) (l:List Tm) (ret:Int→Option S):Option S:=Pb k ret (fun b7_0 v10=>BR k ret l k b7_0 v10) l
noncomputable def ahR {S:Type} (k:Nat) (ret:Bool→Option S) (c0:Int):Option S:=
 ret (c0==0)
noncomputable def fV {S:Type} (k:Nat) (c0:Int) (ret:Bool→Option S):Option S:=ahR k ret c0
def ahX {S:Type} (k:Nat) (ret:List Cl×Int→Option S) (f:List Cl) (c0:Int):Option S:=
 aa k (fV k c0) fun r1=>
 ab (!r1) (
 ret (([]:List Cl),c0)) (
 aa k (iC k f 0 1) fun r2=>
 aa k (gK k r2.2 c0) fun r3=>
 ret (r2.1,r3))
noncomputable def Ao {S:Type} (k:Nat) (f:List Cl) (c0:Int) (ret:List Cl×Int→Option S):Option S:=ahX k ret f c0
def FU {S:Type} (k:Nat) (ret:Int→Option S) (l:List (List Cl)) (rec0:Int→Option S) (v7:Int):Option S:=
 ab (decide ((v7:Int)<(l.length:Int))) (
 Option.bind (ah l v7) fun x1=>
 aa k (iA k x1) fun r2=>
 ab (!r2) (
  ret 2) (
   rec0 (IntKind.wrap .i64 (v7+1)))) (
 ret 0)
noncomputable def BT {S:Type} (k:Nat) (ret:Int→Option S) (l:List (List Cl)):Nat→Int→Option S
 |0=>fun _=> .none
 |m+1=>fun v7=>FU k ret l (BT k ret l m) v7
noncomputable def PA {S:Type} (k:Nat) (ret:Int→Option S) (J0:Int→Option S) (l:List (List Cl)):Option S:=
 J0 0
noncomputable def GG {S:Type} (k:Nat) (l:List (List Cl)) (ret:Int→Option S):Option S:=PA k ret (fun v7=>BT k ret l k v7) l
noncomputable def Px {S:Type} (k:Nat) (ret:List Cl×Int→Option S) (f g:List Cl):Option S:=
 Option.bind (ap 1099511627776 ([]:List Cl).length f.length) fun x1=>
 Option.bind (ap 1099511627776 (([]:List Cl)++f).length g.length) fun x2=>
 aa k (eP k ((([]:List Cl)++f)++g)) fun r3=>
 ret (r3.1,r3.2)
noncomputable def qu {S:Type} (k:Nat) (f g:List Cl) (ret:List Cl×Int→Option S):Option S:=Px k ret f g
def ah4 {S:Type} (k:Nat) (ret:List Cl×Int→Option S) (f g:List Cl):Option S:=
 aa k (GG k [f,g]) fun r1=>
 ab (!(r1==0)) (
 ret (([]:List Cl),r1)) (
 aa k (qu k f g) fun r2=>
 ret (r2.1,r2.2))
noncomputable def GE {S:Type} (k:Nat) (f g:List Cl) (ret:List Cl×Int→Option S):Option S:=ah4 k ret f g
def ahW {S:Type} (k:Nat) (ret:List Cl×Int→Option S) (f g:List Cl) (c0:Int):Option S:=
 aa k (fV k c0) fun r1=>
 ab (!r1) (
 ret (([]:List Cl),c0)) (
 aa k (GE k f g) fun r2=>
 aa k (gK k r2.2 c0) fun r3=>
 ret (r2.1,r3))
noncomputable def An {S:Type} (k:Nat) (f g:List Cl) (c0:Int) (ret:List Cl×Int→Option S):Option S:=ahW k ret f g c0
noncomputable def PX {S:Type} (k:Nat) (ret:Pan Int Tm→Option S) (c0:Int) (c1:Tm) (c2:Int):Option S:=
 cK k 0 c0 (ac c1) 0 (if 24<c2 then 24 else c2) fun r2=>Pan.elim r2 (fun r2=>
 ret (.ok (ac r2))) (fun e3=>
 ret (.pan e3))
noncomputable def vl {S:Type} (k:Nat) (c0:Int) (c1:Tm) (c2:Int) (ret:Pan Int Tm→Option S):Option S:=PX k ret c0 c1 c2
def tV {S:Type} (k:Nat) (ret:Tm×Int→Option S) (c0:Int) (c1:Tm) (c2:Int) (numbers:List Int) (rec0:Int→Option S) (v19:Int):Option S:=
 ab (decide ((v19:Int)<(numbers.length:Int))) (
 Option.bind (ah numbers v19) fun x2=>
 ab (decide ((x2:Int)<0)) (
  ret ((Tm.mk 0 0 ByteArray.empty [] [] []),2)) (
   rec0 (IntKind.wrap .i64 (v19+1)))) (
 aa k (vl k c0 (ac c1) c2) fun r4=>Pan.elim r4 (fun r4=>
  ret ((ac r4),0)) (fun e5=>
  ret ((Tm.mk 0 0 ByteArray.empty [] [] []),e5)))
noncomputable def lA {S:Type} (k:Nat) (ret:Tm×Int→Option S) (c0:Int) (c1:Tm) (c2:Int) (numbers:List Int):Nat→Int→Option S
 |0=>fun _=> .none
 |m+1=>fun v19=>tV k ret c0 c1 c2 numbers (lA k ret c0 c1 c2 numbers m) v19
def yw {S:Type} (k:Nat) (ret:Tm×Int→Option S) (J0:Int→Option S) (t:Tm) (numbers:List Int) (c0:Int) (c1:Tm) (c2:Int):Option S:=
 aa k (d3 k (ac t)) fun r1=>
 ab (!(r1==0)) (
 ret ((Tm.mk 0 0 ByteArray.empty [] [] []),r1)) (
  J0 0)
noncomputable def vm {S:Type} (k:Nat) (t:Tm) (numbers:List Int) (c0:Int) (c1:Tm) (c2:Int) (ret:Tm×Int→Option S):Option S:=yw k ret (fun v19=>lA k ret c0 c1 c2 numbers k v19) t numbers c0 c1 c2
noncomputable def EF {S:Type} (k:Nat) (ret:Tm×Int→Option S) (t:Tm) (a_from a_by:Int):Option S:=
 aa k (vm k (ac t) [a_from,a_by] a_by (ac t) a_from) fun r1=>
 ret ((ac r1.1),r1.2)
noncomputable def iE {S:Type} (k:Nat) (t:Tm) (a_from a_by:Int) (ret:Tm×Int→Option S):Option S:=EF k ret t a_from a_by
def P4 {S:Type} (k:Nat) (ret:Int→Option S) (s i:Int):Option S:=
 aa k (lf k i) fun r1=>
 ab (!r1) (
 ret (aL .and .u32 s 16777215)) (
 Option.bind (bv (0≤(IntKind.wrap .u64 i))) fun x2=>
 ret (aL .or .u32 (aL .and .u32 s 16777215) (IntKind.wrap .u32 (1*2^min (Int.toNat (IntKind.wrap .u64 i)) 32))))
noncomputable def gM {S:Type} (k:Nat) (s i:Int) (ret:Int→Option S):Option S:=P4 k ret s i
noncomputable def aip {S:Type} (k:Nat) (ret:Int→Option S) (a_x:Int):Option S:=
 Option.bind (ah (ByteArray.mk #[0,1,1,2,1,2,2,3,1,2,2,3,2,3,3,4,1,2,2,3,2,3,3,4,2,3,3,4,3,4,4,5,1,2,2,3,2,3,3,4,2,3,3,4,3,4,4,5,2,3,3,4,3,4,4,5,3,4,4,5,4,5,5,6,1,2,2,3,2,3,3,4,2,3,3,4,3,4,4,5,2,3,3,4,3,4,4,5,3,4,4,5,4,5,5,6,2,3,3,4,3,4,4,5,3,4,4,5,4,5,5,6,3,4,4,5,4,5,5,6,4,5,5,6,5,6,6,7,1,2,2,3,2,3,3,4,2,3,3,4,3,4,4,5,2,3,3,4,3,4,4,5,3,4,4,5,4,5,5,6,2,3,3,4,3,4,4,5,3,4,4,5,4,5,5,6,3,4,4,5,4,5,5,6,4,5,5,6,5,6,6,7,2,3,3,4,3,4,4,5,3,4,4,5,4,5,5,6,3,4,4,5,4,5,5,6,4,5,5,6,5,6,6,7,3,4,4,5,4,5,5,6,4,5,5,6,5,6,6,7,4,5,5,6,5,6,6,7,5,6,6,7,6,7,7,8]).data.toList (Int.fdiv a_x (2^min (Int.toNat 24) 32))) fun x1=>
 Option.bind (ah (ByteArray.mk #[0,1,1,2,1,2,2,3,1,2,2,3,2,3,3,4,1,2,2,3,2,3,3,4,2,3,3,4,3,4,4,5,1,2,2,3,2,3,3,4,2,3,3,4,3,4,4,5,2,3,3,4,3,4,4,5,3,4,4,5,4,5,5,6,1,2,2,3,2,3,3,4,2,3,3,4,3,4,4,5,2,3,3,4,3,4,4,5,3,4,4,5,4,5,5,6,2,3,3,4,3,4,4,5,3,4,4,5,4,5,5,6,3,4,4,5,4,5,5,6,4,5,5,6,5,6,6,7,1,2,2,3,2,3,3,4,2,3,3,4,3,4,4,5,2,3,3,4,3,4,4,5,3,4,4,5,4,5,5,6,2,3,3,4,3,4,4,5,3,4,4,5,4,5,5,6,3,4,4,5,4,5,5,6,4,5,5,6,5,6,6,7,2,3,3,4,3,4,4,5,3,4,4,5,4,5,5,6,3,4,4,5,4,5,5,6,4,5,5,6,5,6,6,7,3,4,4,5,4,5,5,6,4,5,5,6,5,6,6,7,4,5,5,6,5,6,6,7,5,6,6,7,6,7,7,8]).data.toList (aL .and .u32 (Int.fdiv a_x (2^min (Int.toNat 16) 32)) 255)) fun x2=>
 Option.bind (ah (ByteArray.mk #[0,1,1,2,1,2,2,3,1,2,2,3,2,3,3,4,1,2,2,3,2,3,3,4,2,3,3,4,3,4,4,5,1,2,2,3,2,3,3,4,2,3,3,4,3,4,4,5,2,3,3,4,3,4,4,5,3,4,4,5,4,5,5,6,1,2,2,3,2,3,3,4,2,3,3,4,3,4,4,5,2,3,3,4,3,4,4,5,3,4,4,5,4,5,5,6,2,3,3,4,3,4,4,5,3,4,4,5,4,5,5,6,3,4,4,5,4,5,5,6,4,5,5,6,5,6,6,7,1,2,2,3,2,3,3,4,2,3,3,4,3,4,4,5,2,3,3,4,3,4,4,5,3,4,4,5,4,5,5,6,2,3,3,4,3,4,4,5,3,4,4,5,4,5,5,6,3,4,4,5,4,5,5,6,4,5,5,6,5,6,6,7,2,3,3,4,3,4,4,5,3,4,4,5,4,5,5,6,3,4,4,5,4,5,5,6,4,5,5,6,5,6,6,7,3,4,4,5,4,5,5,6,4,5,5,6,5,6,6,7,4,5,5,6,5,6,6,7,5,6,6,7,6,7,7,8]).data.toList (aL .and .u32 (Int.fdiv a_x (2^min (Int.toNat 8) 32)) 255)) fun x3=>
 Option.bind (ah (ByteArray.mk #[0,1,1,2,1,2,2,3,1,2,2,3,2,3,3,4,1,2,2,3,2,3,3,4,2,3,3,4,3,4,4,5,1,2,2,3,2,3,3,4,2,3,3,4,3,4,4,5,2,3,3,4,3,4,4,5,3,4,4,5,4,5,5,6,1,2,2,3,2,3,3,4,2,3,3,4,3,4,4,5,2,3,3,4,3,4,4,5,3,4,4,5,4,5,5,6,2,3,3,4,3,4,4,5,3,4,4,5,4,5,5,6,3,4,4,5,4,5,5,6,4,5,5,6,5,6,6,7,1,2,2,3,2,3,3,4,2,3,3,4,3,4,4,5,2,3,3,4,3,4,4,5,3,4,4,5,4,5,5,6,2,3,3,4,3,4,4,5,3,4,4,5,4,5,5,6,3,4,4,5,4,5,5,6,4,5,5,6,5,6,6,7,2,3,3,4,3,4,4,5,3,4,4,5,4,5,5,6,3,4,4,5,4,5,5,6,4,5,5,6,5,6,6,7,3,4,4,5,4,5,5,6,4,5,5,6,5,6,6,7,4,5,5,6,5,6,6,7,5,6,6,7,6,7,7,8]).data.toList (aL .and .u32 a_x 255)) fun x4=>
 ret (IntKind.wrap .i64 (IntKind.wrap .u8 ((IntKind.wrap .u8 ((IntKind.wrap .u8 ((x1.toNat:Int)+(x2.toNat:Int)))+(x3.toNat:Int)))+(x4.toNat:Int))))
noncomputable def G3 {S:Type} (k:Nat) (a_x:Int) (ret:Int→Option S):Option S:=aip k ret a_x
noncomputable def EH {S:Type} (k:Nat) (ret:Int→Option S) (s:Int):Option S:=
 aa k (G3 k (aL .and .u32 s 16777215)) fun r1=>
 ret r1
noncomputable def jE {S:Type} (k:Nat) (s:Int) (ret:Int→Option S):Option S:=EH k ret s
noncomputable def Pj {S:Type} (k:Nat) (ret:Bool→Option S) (i:Int):Option S:=
 aa k (gM k 0 i) fun r1=>
 aa k (jE k r1) fun r2=>
 ret (r2==1)
noncomputable def uX {S:Type} (k:Nat) (i:Int) (ret:Bool→Option S):Option S:=Pj k ret i
def Er {S:Type} (k:Nat) (ret:Int→Option S) (t:Tm) (i:Int) (a_r:List Cl):Option S:=
 aa k (d3 k (ac t)) fun r1=>
 ab (!(r1==0)) (
 ret r1) (
 aa k (uX k i) fun r2=>
 ab (!r2) (
  ret 2) (
  aa k (fX k a_r) fun r3=>
  ab (!r3) (
  ret 2) (
  ret 0)))
noncomputable def u4 {S:Type} (k:Nat) (t:Tm) (i:Int) (a_r:List Cl) (ret:Int→Option S):Option S:=Er k ret t i a_r
noncomputable def Po {S:Type} (k:Nat) (ret:Unit→Option S) (c0:Int) (c1:List Cl):Option S:=
 ret ()
noncomputable def As {S:Type} (k:Nat) (c0:Int) (c1:List Cl) (ret:Unit→Option S):Option S:=Po k ret c0 c1
noncomputable def Pp {S:Type} (k:Nat) (ret:Unit→Option S) (c0:Int) (c1:List Cl):Option S:=
 ret ()
noncomputable def Au {S:Type} (k:Nat) (c0:Int) (c1:List Cl) (ret:Unit→Option S):Option S:=Pp k ret c0 c1
noncomputable def Pl {S:Type} (k:Nat) (ret:Int×List Cl→Option S) (i:Int) (a_r:List Cl):Option S:=
 aa k (As k i a_r) fun r1=>
 aa k (Au k i a_r) fun r2=>
 ret (i,a_r)
noncomputable def Ar {S:Type} (k:Nat) (i:Int) (a_r:List Cl) (ret:Int×List Cl→Option S):Option S:=Pl k ret i a_r
def P2 {S:Type} (k:Nat) (ret:Bool→Option S) (s i:Int):Option S:=
 aa k (lf k i) fun r1=>
 ab (r1) (
 Option.bind (bv (0≤(IntKind.wrap .u64 i))) fun x2=>
 ret ((aL .and .u32 (Int.fdiv s (2^min (Int.toNat (IntKind.wrap .u64 i)) 32)) 1)==1)) (
 ret false)
noncomputable def fj {S:Type} (k:Nat) (s i:Int) (ret:Bool→Option S):Option S:=P2 k ret s i
noncomputable def Ef {S:Type} (k:Nat) (ret:List Cl→Option S) (f:List Cl):Option S:=
 Option.bind (ap 1099511627776 0 f.length) fun x1=>
 ret f
noncomputable def qi {S:Type} (k:Nat) (f:List Cl) (ret:List Cl→Option S):Option S:=Ef k ret f
noncomputable def Pw {S:Type} (k:Nat) (ret:Bool→Option S) (i:Int):Option S:=
 aa k (gM k 0 i) fun r1=>
 aa k (jE k r1) fun r2=>
 ret (r2==1)
noncomputable def qr {S:Type} (k:Nat) (i:Int) (ret:Bool→Option S):Option S:=Pw k ret i
noncomputable def Pv {S:Type} (k:Nat) (ret:Cl×Bool→Option S) (c:Cl):Option S:=
 aa k (qf k c) fun r1=>
 ret (c,!r1)
noncomputable def qn {S:Type} (k:Nat) (c:Cl) (ret:Cl×Bool→Option S):Option S:=Pv k ret c
def tL {S:Type} (k:Nat) (ret:List Cl→Option S) (l:List Cl) (rec0:Int→(List Cl)→Option S) (v12:Int) (out5:List Cl):Option S:=
 ab (decide ((v12:Int)<(l.length:Int))) (
 Option.bind (ah l v12) fun x1=>
 aa k (qn k x1) fun r2=>
 ab (r2.2) (
  Option.bind (ap 1099511627776 out5.length [r2.1].length) fun x3=>
   rec0 (IntKind.wrap .i64 (v12+1)) (out5++[r2.1])) (
   rec0 (IntKind.wrap .i64 (v12+1)) out5)) (
 ret out5)
noncomputable def nG {S:Type} (k:Nat) (ret:List Cl→Option S) (l:List Cl):Nat→Int→(List Cl)→Option S
 |0=>fun _ _=> .none
 |m+1=>fun v12 out5=>tL k ret l (nG k ret l m) v12 out5
noncomputable def Eu {S:Type} (k:Nat) (ret:List Cl→Option S) (J0:Int→(List Cl)→Option S) (l:List Cl):Option S:=
 J0 0 ([]:List Cl)
noncomputable def u9 {S:Type} (k:Nat) (l:List Cl) (ret:List Cl→Option S):Option S:=Eu k ret (fun v12 out5=>nG k ret l k v12 out5) l
def Ps {S:Type} (k:Nat) (ret:List Cl×Int→Option S) (f:List Cl):Option S:=
 aa k (fX k f) fun r1=>
 ab (!r1) (
 ret (([]:List Cl),2)) (
 aa k (u9 k f) fun r2=>
 aa k (eP k r2) fun r3=>
 ret (r3.1,r3.2))
noncomputable def qm {S:Type} (k:Nat) (f:List Cl) (ret:List Cl×Int→Option S):Option S:=Ps k ret f
noncomputable def Pz {S:Type} (k:Nat) (ret:Cl×Bool→Option S) (b c0:Cl):Option S:=
 aa k (mM k c0 b) fun r1=>
 aa k (qn k r1) fun r2=>
 ret (r2.1,r2.2)
noncomputable def u_ {S:Type} (k:Nat) (b c0:Cl) (ret:Cl×Bool→Option S):Option S:=Pz k ret b c0
def tK {S:Type} (k:Nat) (ret:List Cl→Option S) (c0:Cl) (l:List Cl) (rec0:Int→(List Cl)→Option S) (v12:Int) (out5:List Cl):Option S:=
 ab (decide ((v12:Int)<(l.length:Int))) (
 Option.bind (ah l v12) fun x1=>
 aa k (u_ k x1 c0) fun r2=>
 ab (r2.2) (
  Option.bind (ap 1099511627776 out5.length [r2.1].length) fun x3=>
   rec0 (IntKind.wrap .i64 (v12+1)) (out5++[r2.1])) (
   rec0 (IntKind.wrap .i64 (v12+1)) out5)) (
 ret out5)
noncomputable def nF {S:Type} (k:Nat) (ret:List Cl→Option S) (c0:Cl) (l:List Cl):Nat→Int→(List Cl)→Option S
 |0=>fun _ _=> .none
 |m+1=>fun v12 out5=>tK k ret c0 l (nF k ret c0 l m) v12 out5
noncomputable def Et {S:Type} (k:Nat) (ret:List Cl→Option S) (J0:Int→(List Cl)→Option S) (l:List Cl) (c0:Cl):Option S:=
 J0 0 ([]:List Cl)
noncomputable def u7 {S:Type} (k:Nat) (l:List Cl) (c0:Cl) (ret:List Cl→Option S):Option S:=Et k ret (fun v12 out5=>nF k ret c0 l k v12 out5) l c0
def tM {S:Type} (k:Nat) (ret:List Cl×Int→Option S) (g f:List Cl) (rec0:Int→(List Cl)→Option S) (v11:Int) (out6:List Cl):Option S:=
 ab (decide ((v11:Int)<(f.length:Int))) (
 Option.bind (ah f v11) fun x1=>
 aa k (u7 k g x1) fun r2=>
 Option.bind (ap 1099511627776 out6.length r2.length) fun x3=>
  rec0 (IntKind.wrap .i64 (v11+1)) (out6++r2)) (
 aa k (eP k out6) fun r4=>
 ret (r4.1,r4.2))
noncomputable def nH {S:Type} (k:Nat) (ret:List Cl×Int→Option S) (g f:List Cl):Nat→Int→(List Cl)→Option S
 |0=>fun _ _=> .none
 |m+1=>fun v11 out6=>tM k ret g f (nH k ret g f m) v11 out6
noncomputable def Ev {S:Type} (k:Nat) (ret:List Cl×Int→Option S) (J0:Int→(List Cl)→Option S) (f g:List Cl):Option S:=
 J0 0 ([]:List Cl)
noncomputable def mO {S:Type} (k:Nat) (f g:List Cl) (ret:List Cl×Int→Option S):Option S:=Ev k ret (fun v11 out6=>nH k ret g f k v11 out6) f g
noncomputable def PF {S:Type} (k:Nat) (ret:List Cl→Option S):Option S:=
 ret [(Cl.mk 0 0)]
noncomputable def qv {S:Type} (k:Nat) (ret:List Cl→Option S):Option S:=PF k ret
def tT {S:Type} (k:Nat) (ret:List Cl×Int→Option S) (r5:List Int) (rec1:Int→(List Cl)→Option S) (v28:Int) (out4':List Cl):Option S:=
 ab (decide ((v28:Int)<(r5.length:Int))) (
 Option.bind (ah r5 v28) fun x6=>
 aa k (gM k 0 x6) fun r7=>
 Option.bind (ap 1099511627776 out4'.length [(Cl.mk r7 0)].length) fun x8=>
  rec1 (IntKind.wrap .i64 (v28+1)) (out4'++[(Cl.mk r7 0)])) (
 aa k (eP k out4') fun r9=>
 ret (r9.1,r9.2))
noncomputable def lz {S:Type} (k:Nat) (ret:List Cl×Int→Option S) (r5:List Int):Nat→Int→(List Cl)→Option S
 |0=>fun _ _=> .none
 |m+1=>fun v28 out4'=>tT k ret r5 (lz k ret r5 m) v28 out4'
def pw {S:Type} (k:Nat) (ret:List Cl×Int→Option S) (c:Cl) (r1:List Int) (J1:(List Int)→Int→(List Cl)→Option S) (rec0:Int→(List Cl)→Option S) (v13:Int) (out4:List Cl):Option S:=
 ab (decide ((v13:Int)<(r1.length:Int))) (
 Option.bind (ah r1 v13) fun x2=>
 aa k (gM k 0 x2) fun r3=>
 Option.bind (ap 1099511627776 out4.length [(Cl.mk 0 r3)].length) fun x4=>
  rec0 (IntKind.wrap .i64 (v13+1)) (out4++[(Cl.mk 0 r3)])) (
 sE c.neg fun r5=>
  J1 r5 0 out4)
noncomputable def nN {S:Type} (k:Nat) (ret:List Cl×Int→Option S) (c:Cl) (r1:List Int):Nat→Int→(List Cl)→Option S
 |0=>fun _ _=> .none
 |m+1=>fun v13 out4=>pw k ret c r1 (fun r5 v28 out4'=>lz k ret r5 k v28 out4') (nN k ret c r1 m) v13 out4
noncomputable def ED {S:Type} (k:Nat) (ret:List Cl×Int→Option S) (J0:(List Int)→Int→(List Cl)→Option S) (c:Cl):Option S:=
 sE c.pos fun r1=>
 J0 r1 0 ([]:List Cl)
noncomputable def vh {S:Type} (k:Nat) (c:Cl) (ret:List Cl×Int→Option S):Option S:=ED k ret (fun r1 v13 out4=>nN k ret c r1 k v13 out4) c
def tR {S:Type} (k:Nat) (ret:List Cl×Int→Option S) (x1:Cl) (g f:List Cl) (v13:Int) (rec0:Int→(List Cl)→Option S) (rec1:Int→(List Cl)→Option S) (v19:Int) (out6':List Cl):Option S:=
 ab (decide ((v19:Int)<(g.length:Int))) (
 Option.bind (ah g v19) fun x2=>
 aa k (mM k x1 x2) fun r3=>
 Option.bind (ap 1099511627776 out6'.length [r3].length) fun x4=>
  rec1 (IntKind.wrap .i64 (v19+1)) (out6'++[r3])) (
  rec0 (IntKind.wrap .i64 (v13+1)) out6')
noncomputable def ly {S:Type} (k:Nat) (ret:List Cl×Int→Option S) (rec0:Int→(List Cl)→Option S) (x1:Cl) (g f:List Cl) (v13:Int):Nat→Int→(List Cl)→Option S
 |0=>fun _ _=> .none
 |m+1=>fun v19 out6'=>tR k ret x1 g f v13 rec0 (ly k ret rec0 x1 g f v13 m) v19 out6'
def pu {S:Type} (k:Nat) (ret:List Cl×Int→Option S) (g f:List Cl) (J1:Cl→Int→Int→(List Cl)→Option S) (rec0:Int→(List Cl)→Option S) (v13:Int) (out6:List Cl):Option S:=
 ab (decide ((v13:Int)<(f.length:Int))) (
 Option.bind (ah f v13) fun x1=>
  J1 x1 v13 0 out6) (
 aa k (eP k out6) fun r5=>
 ret (r5.1,r5.2))
noncomputable def j5 {S:Type} (k:Nat) (ret:List Cl×Int→Option S) (g f:List Cl):Nat→Int→(List Cl)→Option S
 |0=>fun _ _=> .none
 |m+1=>fun v13 out6=>pu k ret g f (fun x1 v13 v19 out6'=>ly k ret (j5 k ret g f m) x1 g f v13 k v19 out6') (j5 k ret g f m) v13 out6
noncomputable def EC {S:Type} (k:Nat) (ret:List Cl×Int→Option S) (J0:Int→(List Cl)→Option S) (f g:List Cl):Option S:=
 J0 0 ([]:List Cl)
noncomputable def iD {S:Type} (k:Nat) (f g:List Cl) (ret:List Cl×Int→Option S):Option S:=EC k ret (fun v13 out6=>j5 k ret g f k v13 out6) f g
def PM {S:Type} (k:Nat) (ret:List Cl×Int→Option S) (a_have:List Cl) (c:Cl):Option S:=
 aa k (vh k c) fun r1=>
 ab (!(r1.2==0)) (
 ret (([]:List Cl),r1.2)) (
 aa k (iD k a_have r1.1) fun r2=>
 ret (r2.1,r2.2))
noncomputable def vg {S:Type} (k:Nat) (a_have:List Cl) (c:Cl) (ret:List Cl×Int→Option S):Option S:=PM k ret a_have c
def tP {S:Type} (k:Nat) (ret:List Cl×Int→Option S) (l:List Cl) (rec0:(List Cl)→Int→Option S) (v1:List Cl) (v15:Int):Option S:=
 ab (decide ((v15:Int)<(l.length:Int))) (
 Option.bind (ah l v15) fun x1=>
 aa k (vg k v1 x1) fun r2=>
 ab (!(r2.2==0)) (
  ret (([]:List Cl),r2.2)) (
   rec0 r2.1 (IntKind.wrap .i64 (v15+1)))) (
 ret (v1,0))
noncomputable def nL {S:Type} (k:Nat) (ret:List Cl×Int→Option S) (l:List Cl):Nat→(List Cl)→Int→Option S
 |0=>fun _ _=> .none
 |m+1=>fun v1 v15=>tP k ret l (nL k ret l m) v1 v15
noncomputable def EA {S:Type} (k:Nat) (ret:List Cl×Int→Option S) (J0:(List Cl)→Int→Option S) (l a_from:List Cl):Option S:=
 J0 a_from 0
noncomputable def AC {S:Type} (k:Nat) (l a_from:List Cl) (ret:List Cl×Int→Option S):Option S:=EA k ret (fun v1 v15=>nL k ret l k v1 v15) l a_from
noncomputable def PL {S:Type} (k:Nat) (ret:List Cl×Int→Option S) (f:List Cl):Option S:=
 aa k (qv k) fun r1=>
 aa k (AC k f r1) fun r2=>
 ret (r2.1,r2.2)
noncomputable def mR {S:Type} (k:Nat) (f:List Cl) (ret:List Cl×Int→Option S):Option S:=PL k ret f
def PE {S:Type} (k:Nat) (ret:List Cl×Int→Option S) (f:List Cl):Option S:=
 aa k (mS k [f]) fun r1=>
 ab (!(r1==0)) (
 ret (([]:List Cl),r1)) (
 aa k (mR k f) fun r2=>
 ret (r2.1,r2.2))
noncomputable def vc {S:Type} (k:Nat) (f:List Cl) (ret:List Cl×Int→Option S):Option S:=PE k ret f
def Pt {S:Type} (k:Nat) (ret:List Cl×Int→Option S) (f:List Cl):Option S:=
 aa k (vc k f) fun r1=>
 ab (!(r1.2==0)) (
 ret (([]:List Cl),r1.2)) (
 aa k (qm k r1.1) fun r2=>
 ret (r2.1,r2.2))
noncomputable def u5 {S:Type} (k:Nat) (f:List Cl) (ret:List Cl×Int→Option S):Option S:=Pt k ret f
def tJ {S:Type} (k:Nat) (ret:List Cl×Int→Option S) (i:Int) (a_r f:List Cl) (v29:Int) (v8:List Cl) (rec0:Int→(List Cl)→Option S) (g11:List Cl) (v13:Int):Option S:=
 ab (v13==0) (
 aa k (qu k v8 g11) fun r10=>
 ab (!(r10.2==0)) (
  ret (([]:List Cl),r10.2)) (
   rec0 (IntKind.wrap .i64 (v29+1)) r10.1)) (
 ab (!(v13==0)) (
  ret (([]:List Cl),v13)) (
   rec0 (IntKind.wrap .i64 (v29+1)) v8))
noncomputable def nE {S:Type} (k:Nat) (ret:List Cl×Int→Option S) (rec0:Int→(List Cl)→Option S) (i:Int) (a_r f:List Cl) (v29:Int) (v8:List Cl):Nat→(List Cl)→Int→Option S
 |0=>fun _ _=> .none
 |_+1=>fun g11 v13=>tJ k ret i a_r f v29 v8 rec0 g11 v13
def pr {S:Type} (k:Nat) (ret:List Cl×Int→Option S) (i:Int) (a_r f:List Cl) (J1:Int→(List Cl)→(List Cl)→Int→Option S) (rec0:Int→(List Cl)→Option S) (v29:Int) (v8:List Cl):Option S:=
 ab (decide ((v29:Int)<(f.length:Int))) (
 Option.bind (ah f v29) fun x4=>
 aa k (iF k x4.pos i) fun r5=>
 aa k (iF k x4.neg i) fun r6=>
 aa k (fj k x4.pos i) fun r7=>
 ab (r7) (
  aa k (qm k a_r) fun r8=>
  ab (r8.2==0) (
  aa k (mO k [(Cl.mk r5 r6)] r8.1) fun r9=>
    J1 v29 v8 r9.1 r9.2) (
    J1 v29 v8 [(Cl.mk r5 r6)] r8.2)) (
  aa k (fj k x4.neg i) fun r11=>
  ab (r11) (
  aa k (u5 k a_r) fun r12=>
  ab (r12.2==0) (
   aa k (mO k [(Cl.mk r5 r6)] r12.1) fun r13=>
     J1 v29 v8 r13.1 r13.2) (
     J1 v29 v8 [(Cl.mk r5 r6)] r12.2)) (
    J1 v29 v8 [(Cl.mk r5 r6)] 0))) (
 ret (v8,0))
noncomputable def j4 {S:Type} (k:Nat) (ret:List Cl×Int→Option S) (i:Int) (a_r f:List Cl):Nat→Int→(List Cl)→Option S
 |0=>fun _ _=> .none
 |m+1=>fun v29 v8=>pr k ret i a_r f (fun v29 v8 g11 v13=>nE k ret (j4 k ret i a_r f m) i a_r f v29 v8 k g11 v13) (j4 k ret i a_r f m) v29 v8
def Es {S:Type} (k:Nat) (ret:List Cl×Int→Option S) (J0:Int→(List Cl)→Option S) (f:List Cl) (i:Int) (a_r:List Cl):Option S:=
 aa k (iA k f) fun r1=>
 ab (!r1) (
 ret (([]:List Cl),2)) (
 aa k (qr k i) fun r2=>
 ab (!r2) (
  ret (([]:List Cl),2)) (
  aa k (fX k a_r) fun r3=>
  ab (!r3) (
  ret (([]:List Cl),2)) (
    J0 0 [])))
noncomputable def u6 {S:Type} (k:Nat) (f:List Cl) (i:Int) (a_r:List Cl) (ret:List Cl×Int→Option S):Option S:=Es k ret (fun v29 v8=>j4 k ret i a_r f k v29 v8) f i a_r
def Pn {S:Type} (k:Nat) (ret:List Cl×Int→Option S) (f:List Cl) (depth c0:Int) (c1:List Cl):Option S:=
 aa k (mP k f) fun r1=>
 aa k (fj k r1 (IntKind.wrap .i64 (c0+depth))) fun r2=>
 ab (!r2) (
 aa k (qi k f) fun r3=>
 ret (r3,0)) (
 aa k (iC k c1 0 depth) fun r4=>
 ab (!(r4.2==0)) (
  ret (([]:List Cl),r4.2)) (
  aa k (u6 k f (IntKind.wrap .i64 (c0+depth)) r4.1) fun r5=>
  ret (r5.1,r5.2)))
noncomputable def qj {S:Type} (k:Nat) (f:List Cl) (depth c0:Int) (c1:List Cl) (ret:List Cl×Int→Option S):Option S:=Pn k ret f depth c0 c1
def PB {S:Type} (k:Nat) (ret:List Cl×Int→Option S) (i:Int):Option S:=
 aa k (gM k 0 i) fun r1=>
 aa k (jE k r1) fun r2=>
 ab (r2==0) (
 ret (([]:List Cl),2)) (
 aa k (gM k 0 i) fun r3=>
 ret ([(Cl.mk r3 0)],0))
noncomputable def va {S:Type} (k:Nat) (i:Int) (ret:List Cl×Int→Option S):Option S:=PB k ret i
noncomputable def PK {S:Type} (k:Nat) (ret:List Cl×Int→Option S) (f g:List Cl):Option S:=
 Option.bind (ap 1099511627776 ([]:List Cl).length f.length) fun x1=>
 Option.bind (ap 1099511627776 (([]:List Cl)++f).length g.length) fun x2=>
 aa k (eP k ((([]:List Cl)++f)++g)) fun r3=>
 ret (r3.1,r3.2)
noncomputable def ld {S:Type} (k:Nat) (f g:List Cl) (ret:List Cl×Int→Option S):Option S:=PK k ret f g
def PH {S:Type} (k:Nat) (ret:List Cl×Int→Option S) (a_have:List Cl) (c:Cl) (c0:Int) (c1:List Cl):Option S:=
 aa k (iF k c.pos c0) fun r1=>
 aa k (iF k c.neg c0) fun r2=>
 aa k (fj k c.pos c0) fun r3=>
 ab (r3) (
 aa k (iD k [(Cl.mk r1 r2)] c1) fun r4=>
 ab (!(r4.2==0)) (
  ret (([]:List Cl),r4.2)) (
  aa k (fj k c.neg c0) fun r5=>
  ab (r5) (
  aa k (mR k c1) fun r6=>
  ab (!(r6.2==0)) (
   ret (([]:List Cl),r6.2)) (
   aa k (iD k r4.1 r6.1) fun r7=>
   ab (!(r7.2==0)) (
   ret (([]:List Cl),r7.2)) (
   aa k (ld k a_have r7.1) fun r8=>
   ret (r8.1,r8.2)))) (
  aa k (ld k a_have r4.1) fun r9=>
  ret (r9.1,r9.2)))) (
 aa k (fj k c.neg c0) fun r10=>
 ab (r10) (
  aa k (mR k c1) fun r11=>
  ab (!(r11.2==0)) (
  ret (([]:List Cl),r11.2)) (
  aa k (iD k [(Cl.mk r1 r2)] r11.1) fun r12=>
  ab (!(r12.2==0)) (
   ret (([]:List Cl),r12.2)) (
   aa k (ld k a_have r12.1) fun r13=>
   ret (r13.1,r13.2)))) (
  aa k (ld k a_have [(Cl.mk r1 r2)]) fun r14=>
  ret (r14.1,r14.2)))
noncomputable def ve {S:Type} (k:Nat) (a_have:List Cl) (c:Cl) (c0:Int) (c1:List Cl) (ret:List Cl×Int→Option S):Option S:=PH k ret a_have c c0 c1
def tO {S:Type} (k:Nat) (ret:List Cl×Int→Option S) (c0:Int) (c1 l:List Cl) (rec0:(List Cl)→Int→Option S) (v1:List Cl) (v15:Int):Option S:=
 ab (decide ((v15:Int)<(l.length:Int))) (
 Option.bind (ah l v15) fun x1=>
 aa k (ve k v1 x1 c0 c1) fun r2=>
 ab (!(r2.2==0)) (
  ret (([]:List Cl),r2.2)) (
   rec0 r2.1 (IntKind.wrap .i64 (v15+1)))) (
 ret (v1,0))
noncomputable def nJ {S:Type} (k:Nat) (ret:List Cl×Int→Option S) (c0:Int) (c1 l:List Cl):Nat→(List Cl)→Int→Option S
 |0=>fun _ _=> .none
 |m+1=>fun v1 v15=>tO k ret c0 c1 l (nJ k ret c0 c1 l m) v1 v15
noncomputable def Ez {S:Type} (k:Nat) (ret:List Cl×Int→Option S) (J0:(List Cl)→Int→Option S) (l a_from:List Cl) (c0:Int) (c1:List Cl):Option S:=
 J0 a_from 0
noncomputable def AB {S:Type} (k:Nat) (l a_from:List Cl) (c0:Int) (c1:List Cl) (ret:List Cl×Int→Option S):Option S:=Ez k ret (fun v1 v15=>nJ k ret c0 c1 l k v1 v15) l a_from c0 c1
def PG {S:Type} (k:Nat) (ret:List Cl×Int→Option S) (f:List Cl) (i:Int) (a_r:List Cl):Option S:=
 aa k (mS k [f,a_r]) fun r1=>
 ab (!(r1==0)) (
 ret (([]:List Cl),r1)) (
 aa k (va k i) fun r2=>
 ab (!(r2.2==0)) (
  ret (([]:List Cl),r2.2)) (
  aa k (mQ k) fun r3=>
  aa k (AB k f r3 i a_r) fun r4=>
  ret (r4.1,r4.2)))
noncomputable def vd {S:Type} (k:Nat) (f:List Cl) (i:Int) (a_r:List Cl) (ret:List Cl×Int→Option S):Option S:=PG k ret f i a_r
def Pm {S:Type} (k:Nat) (ret:List Cl×Int→Option S) (f:List Cl) (depth c0:Int) (c1:List Cl):Option S:=
 aa k (mP k f) fun r1=>
 aa k (fj k r1 (IntKind.wrap .i64 (c0+depth))) fun r2=>
 ab (!r2) (
 aa k (qi k f) fun r3=>
 ret (r3,0)) (
 aa k (iC k c1 0 depth) fun r4=>
 ab (!(r4.2==0)) (
  ret (([]:List Cl),r4.2)) (
  aa k (vd k f (IntKind.wrap .i64 (c0+depth)) r4.1) fun r5=>
  ret (r5.1,r5.2)))
noncomputable def uY {S:Type} (k:Nat) (f:List Cl) (depth c0:Int) (c1:List Cl) (ret:List Cl×Int→Option S):Option S:=Pm k ret f depth c0 c1
def Pq {S:Type} (k:Nat) (ret:List Cl×Int→Option S) (t:Tm) (depth c0:Int) (c1:List Cl):Option S:=
 ab (t.kind==14) (
 aa k (qj k t.r depth c0 c1) fun r1=>
 ret (r1.1,r1.2)) (
 aa k (uY k t.r depth c0 c1) fun r2=>
 ret (r2.1,r2.2))
noncomputable def uZ {S:Type} (k:Nat) (t:Tm) (depth c0:Int) (c1:List Cl) (ret:List Cl×Int→Option S):Option S:=Pq k ret t depth c0 c1
noncomputable def Ek {S:Type} (k:Nat) (ret:Int→Option S) (i:Int) (c0:Tm):Option S:=
 aa k (fw k c0.kind i) fun r1=>
 ret r1.2
noncomputable def qk {S:Type} (k:Nat) (i:Int) (c0:Tm) (ret:Int→Option S):Option S:=Ek k ret i c0
noncomputable def Em {S:Type} (k:Nat) (ret:Int→Option S) (p c0:Int):Option S:=
 ret c0
noncomputable def ql {S:Type} (k:Nat) (p c0:Int) (ret:Int→Option S):Option S:=Em k ret p c0
abbrev cx (S:Type):=Tm→Int→Int→(List Cl)→(Tm×Int→Option S)→Option S
def tF {S:Type} (hd:cx S) (k:Nat) (ret:List Tm×Int→Option S) (c0:Int) (c1:List Cl) (c4:Int) (l:List Tm) (depth:Int) (rec0:(List Tm)→Int→Option S) (out10:List Tm) (v17:Int):Option S:=
 ab (decide ((v17:Int)<(l.length:Int))) (
 Option.bind (ah l v17) fun x1=>
 aa k (ql k v17 c4) fun r2=>
 hd (ac x1) (IntKind.wrap .i64 (depth+r2)) c0 c1 fun r3=>
 ab (!(r3.2==0)) (
  ret (([]:List Tm),r3.2)) (
  Option.bind (ap 1099511627776 out10.length [(ac r3.1)].length) fun x4=>
   rec0 (out10++[(ac r3.1)]) (IntKind.wrap .i64 (v17+1)))) (
 ret (out10,0))
noncomputable def jY {S:Type} (hd:cx S) (k:Nat) (ret:List Tm×Int→Option S) (c0:Int) (c1:List Cl) (c4:Int) (l:List Tm) (depth:Int):Nat→(List Tm)→Int→Option S
 |0=>fun _ _=> .none
 |m+1=>fun out10 v17=>tF hd k ret c0 c1 c4 l depth (jY hd k ret c0 c1 c4 l depth m) out10 v17
noncomputable def Ei {S:Type} (hd:cx S) (k:Nat) (ret:List Tm×Int→Option S) (J0:(List Tm)→Int→Option S) (l:List Tm) (depth c0:Int) (c1:List Cl) (c4:Int):Option S:=
 J0 ([]:List Tm) 0
noncomputable def Ax {S:Type} (hd:cx S) (k:Nat) (l:List Tm) (depth c0:Int) (c1:List Cl) (c4:Int) (ret:List Tm×Int→Option S):Option S:=Ei hd k ret (fun out10 v17=>jY hd k ret c0 c1 c4 l depth k out10 v17) l depth c0 c1 c4
def tG {S:Type} (hd:cx S) (k:Nat) (ret:List Tm×Int→Option S) (c0:Int) (c1:List Cl) (c4:Tm) (l:List Tm) (depth:Int) (rec0:(List Tm)→Int→Option S) (out10:List Tm) (v17:Int):Option S:=
 ab (decide ((v17:Int)<(l.length:Int))) (
 Option.bind (ah l v17) fun x1=>
 aa k (qk k v17 (ac c4)) fun r2=>
 hd (ac x1) (IntKind.wrap .i64 (depth+r2)) c0 c1 fun r3=>
 ab (!(r3.2==0)) (
  ret (([]:List Tm),r3.2)) (
  Option.bind (ap 1099511627776 out10.length [(ac r3.1)].length) fun x4=>
   rec0 (out10++[(ac r3.1)]) (IntKind.wrap .i64 (v17+1)))) (
 ret (out10,0))
noncomputable def jZ {S:Type} (hd:cx S) (k:Nat) (ret:List Tm×Int→Option S) (c0:Int) (c1:List Cl) (c4:Tm) (l:List Tm) (depth:Int):Nat→(List Tm)→Int→Option S
 |0=>fun _ _=> .none
 |m+1=>fun out10 v17=>tG hd k ret c0 c1 c4 l depth (jZ hd k ret c0 c1 c4 l depth m) out10 v17
noncomputable def Ej {S:Type} (hd:cx S) (k:Nat) (ret:List Tm×Int→Option S) (J0:(List Tm)→Int→Option S) (l:List Tm) (depth c0:Int) (c1:List Cl) (c4:Tm):Option S:=
 J0 ([]:List Tm) 0
noncomputable def Ay {S:Type} (hd:cx S) (k:Nat) (l:List Tm) (depth c0:Int) (c1:List Cl) (c4:Tm) (ret:List Tm×Int→Option S):Option S:=Ej hd k ret (fun out10 v17=>jZ hd k ret c0 c1 c4 l depth k out10 v17) l depth c0 c1 c4
def tH {S:Type} (hd:cx S) (k:Nat) (ret:Tm×Int→Option S) (c0:Int) (c1:List Cl) (t:Tm) (r1:List Cl×Int) (r2:List Tm×Int) (depth:Int) (rec0:Int→(List (Br Tm))→Int→Option S) (b10_0:Int) (b8_5:List (Br Tm)) (v55:Int):Option S:=
 ab (decide ((v55:Int)<(t.sys.length:Int))) (
 Option.bind (ah t.sys v55) fun x3=>
 aa k (qj k x3.face depth c0 c1) fun r4=>
 ab (!(r4.2==0)) (
  ret ((Tm.mk 0 0 ByteArray.empty [] [] []),r4.2)) (
  ab ((r4.1.length:Int)==0) (
    rec0 b10_0 b8_5 (IntKind.wrap .i64 (v55+1))) (
  aa k (Ax hd k x3.kids depth c0 c1 b10_0) fun r5=>
  ab (!(r5.2==0)) (
   ret ((Tm.mk 0 0 ByteArray.empty [] [] []),r5.2)) (
   Option.bind (ap 1099511627776 b8_5.length [(Br.mk r4.1 r5.1)].length) fun x6=>
     rec0 b10_0 (b8_5++[(Br.mk r4.1 r5.1)]) (IntKind.wrap .i64 (v55+1)))))) (
 ret ((Tm.mk t.kind t.n t.name r1.1 r2.1 b8_5),0))
noncomputable def eV {S:Type} (hd:cx S) (k:Nat) (ret:Tm×Int→Option S) (c0:Int) (c1:List Cl) (t:Tm) (r1:List Cl×Int) (r2:List Tm×Int) (depth:Int):Nat→Int→(List (Br Tm))→Int→Option S
 |0=>fun _ _ _=> .none
 |m+1=>fun b10_0 b8_5 v55=>tH hd k ret c0 c1 t r1 r2 depth (eV hd k ret c0 c1 t r1 r2 depth m) b10_0 b8_5 v55
def Eo {S:Type} (hd:cx S) (k:Nat) (ret:Tm×Int→Option S) (J0:(List Cl×Int)→(List Tm×Int)→Int→(List (Br Tm))→Int→Option S) (t:Tm) (depth c0:Int) (c1:List Cl):Option S:=
 aa k (uZ k (ac t) depth c0 c1) fun r1=>
 ab (!(r1.2==0)) (
 ret ((Tm.mk 0 0 ByteArray.empty [] [] []),r1.2)) (
 aa k (Ay hd k t.kids depth c0 c1 (ac t)) fun r2=>
 ab (!(r2.2==0)) (
  ret ((Tm.mk 0 0 ByteArray.empty [] [] []),r2.2)) (
  ab (t.kind==15) (
    J0 r1 r2 1 ([]:List (Br Tm)) 0) (
    J0 r1 r2 0 ([]:List (Br Tm)) 0)))
noncomputable def dz {S:Type}:Nat→Tm→Int→Int→(List Cl)→(Tm×Int→Option S)→Option S
 |0=>fun _ _ _ _ _=> .none
 |k+1=>fun t depth c0 c1 ret=>Eo (dz k) k ret (fun r1 r2 b10_0 b8_5 v55=>eV (dz k) k ret c0 c1 t r1 r2 depth k b10_0 b8_5 v55) t depth c0 c1
noncomputable def Pk {S:Type} (k:Nat) (ret:Int→Option S) (i:Int):Option S:=
 ret i
noncomputable def Aq {S:Type} (k:Nat) (i:Int) (ret:Int→Option S):Option S:=Pk k ret i
def P1 {S:Type} (k:Nat) (ret:Int→Option S) (s i:Int):Option S:=
 aa k (lf k i) fun r1=>
 ab (!r1) (
 ret (aL .and .u32 s 16777215)) (
 aa k (mV k i) fun r2=>
 Option.bind (bv (0≤(IntKind.wrap .u64 (IntKind.wrap .i64 (i+1))))) fun x3=>
 Option.bind (bv (0≤(IntKind.wrap .u64 i))) fun x4=>
 ret (aL .or .u32 (aL .and .u32 (aL .and .u32 s 16777215) r2) (IntKind.wrap .u32 ((Int.fdiv (aL .and .u32 s 16777215) (2^min (Int.toNat (IntKind.wrap .u64 (IntKind.wrap .i64 (i+1)))) 32))*2^min (Int.toNat (IntKind.wrap .u64 i)) 32))))
noncomputable def mT {S:Type} (k:Nat) (s i:Int) (ret:Int→Option S):Option S:=P1 k ret s i
def tB {S:Type} (k:Nat) (ret:List Cl×Int→Option S) (c0 depth:Int) (f:List Cl) (rec0:Int→(List Cl)→Option S) (v12:Int) (out7:List Cl):Option S:=
 ab (decide ((v12:Int)<(f.length:Int))) (
 Option.bind (ah f v12) fun x1=>
 aa k (mT k x1.pos (IntKind.wrap .i64 (c0+depth))) fun r2=>
 aa k (mT k x1.neg (IntKind.wrap .i64 (c0+depth))) fun r3=>
 Option.bind (ap 1099511627776 out7.length [(Cl.mk r2 r3)].length) fun x4=>
  rec0 (IntKind.wrap .i64 (v12+1)) (out7++[(Cl.mk r2 r3)])) (
 aa k (eP k out7) fun r5=>
 ret (r5.1,r5.2))
noncomputable def nD {S:Type} (k:Nat) (ret:List Cl×Int→Option S) (c0 depth:Int) (f:List Cl):Nat→Int→(List Cl)→Option S
 |0=>fun _ _=> .none
 |m+1=>fun v12 out7=>tB k ret c0 depth f (nD k ret c0 depth f m) v12 out7
noncomputable def Ee {S:Type} (k:Nat) (ret:List Cl×Int→Option S) (J0:Int→(List Cl)→Option S) (f:List Cl) (depth c0:Int):Option S:=
 J0 0 ([]:List Cl)
noncomputable def mN {S:Type} (k:Nat) (f:List Cl) (depth c0:Int) (ret:List Cl×Int→Option S):Option S:=Ee k ret (fun v12 out7=>nD k ret c0 depth f k v12 out7) f depth c0
def Pr {S:Type} (k:Nat) (ret:List Cl×Int→Option S) (t:Tm) (depth c0:Int):Option S:=
 ab (t.kind==14) (
 aa k (mN k t.r depth c0) fun r1=>
 ret (r1.1,r1.2)) (
 aa k (mN k t.r depth c0) fun r2=>
 ret (r2.1,r2.2))
noncomputable def u3 {S:Type} (k:Nat) (t:Tm) (depth c0:Int) (ret:List Cl×Int→Option S):Option S:=Pr k ret t depth c0
abbrev cz (S:Type):=Tm→Int→Int→(Tm×Int→Option S)→Option S
def tC {S:Type} (hd:cz S) (k:Nat) (ret:List Tm×Int→Option S) (c0 c1:Int) (l:List Tm) (depth:Int) (rec0:(List Tm)→Int→Option S) (out10:List Tm) (v17:Int):Option S:=
 ab (decide ((v17:Int)<(l.length:Int))) (
 Option.bind (ah l v17) fun x1=>
 aa k (ql k v17 c1) fun r2=>
 hd (ac x1) (IntKind.wrap .i64 (depth+r2)) c0 fun r3=>
 ab (!(r3.2==0)) (
  ret (([]:List Tm),r3.2)) (
  Option.bind (ap 1099511627776 out10.length [(ac r3.1)].length) fun x4=>
   rec0 (out10++[(ac r3.1)]) (IntKind.wrap .i64 (v17+1)))) (
 ret (out10,0))
noncomputable def jW {S:Type} (hd:cz S) (k:Nat) (ret:List Tm×Int→Option S) (c0 c1:Int) (l:List Tm) (depth:Int):Nat→(List Tm)→Int→Option S
 |0=>fun _ _=> .none
 |m+1=>fun out10 v17=>tC hd k ret c0 c1 l depth (jW hd k ret c0 c1 l depth m) out10 v17
noncomputable def Eg {S:Type} (hd:cz S) (k:Nat) (ret:List Tm×Int→Option S) (J0:(List Tm)→Int→Option S) (l:List Tm) (depth c0 c1:Int):Option S:=
 J0 ([]:List Tm) 0
noncomputable def Av {S:Type} (hd:cz S) (k:Nat) (l:List Tm) (depth c0 c1:Int) (ret:List Tm×Int→Option S):Option S:=Eg hd k ret (fun out10 v17=>jW hd k ret c0 c1 l depth k out10 v17) l depth c0 c1
def tD {S:Type} (hd:cz S) (k:Nat) (ret:List Tm×Int→Option S) (c0:Int) (c1:Tm) (l:List Tm) (depth:Int) (rec0:(List Tm)→Int→Option S) (out10:List Tm) (v17:Int):Option S:=
 ab (decide ((v17:Int)<(l.length:Int))) (
 Option.bind (ah l v17) fun x1=>
 aa k (qk k v17 (ac c1)) fun r2=>
 hd (ac x1) (IntKind.wrap .i64 (depth+r2)) c0 fun r3=>
 ab (!(r3.2==0)) (
  ret (([]:List Tm),r3.2)) (
  Option.bind (ap 1099511627776 out10.length [(ac r3.1)].length) fun x4=>
   rec0 (out10++[(ac r3.1)]) (IntKind.wrap .i64 (v17+1)))) (
 ret (out10,0))
noncomputable def jX {S:Type} (hd:cz S) (k:Nat) (ret:List Tm×Int→Option S) (c0:Int) (c1:Tm) (l:List Tm) (depth:Int):Nat→(List Tm)→Int→Option S
 |0=>fun _ _=> .none
 |m+1=>fun out10 v17=>tD hd k ret c0 c1 l depth (jX hd k ret c0 c1 l depth m) out10 v17
noncomputable def Eh {S:Type} (hd:cz S) (k:Nat) (ret:List Tm×Int→Option S) (J0:(List Tm)→Int→Option S) (l:List Tm) (depth c0:Int) (c1:Tm):Option S:=
 J0 ([]:List Tm) 0
noncomputable def Aw {S:Type} (hd:cz S) (k:Nat) (l:List Tm) (depth c0:Int) (c1:Tm) (ret:List Tm×Int→Option S):Option S:=Eh hd k ret (fun out10 v17=>jX hd k ret c0 c1 l depth k out10 v17) l depth c0 c1
def tI {S:Type} (hd:cz S) (k:Nat) (ret:Tm×Int→Option S) (c0:Int) (t:Tm) (r1:List Cl×Int) (r2:List Tm×Int) (depth:Int) (rec0:Int→(List (Br Tm))→Int→Option S) (b10_0:Int) (b8_5:List (Br Tm)) (v55:Int):Option S:=
 ab (decide ((v55:Int)<(t.sys.length:Int))) (
 Option.bind (ah t.sys v55) fun x3=>
 aa k (mN k x3.face depth c0) fun r4=>
 ab (!(r4.2==0)) (
  ret ((Tm.mk 0 0 ByteArray.empty [] [] []),r4.2)) (
  ab ((r4.1.length:Int)==0) (
    rec0 b10_0 b8_5 (IntKind.wrap .i64 (v55+1))) (
  aa k (Av hd k x3.kids depth c0 b10_0) fun r5=>
  ab (!(r5.2==0)) (
   ret ((Tm.mk 0 0 ByteArray.empty [] [] []),r5.2)) (
   Option.bind (ap 1099511627776 b8_5.length [(Br.mk r4.1 r5.1)].length) fun x6=>
     rec0 b10_0 (b8_5++[(Br.mk r4.1 r5.1)]) (IntKind.wrap .i64 (v55+1)))))) (
 ret ((Tm.mk t.kind t.n t.name r1.1 r2.1 b8_5),0))
noncomputable def eW {S:Type} (hd:cz S) (k:Nat) (ret:Tm×Int→Option S) (c0:Int) (t:Tm) (r1:List Cl×Int) (r2:List Tm×Int) (depth:Int):Nat→Int→(List (Br Tm))→Int→Option S
 |0=>fun _ _ _=> .none
 |m+1=>fun b10_0 b8_5 v55=>tI hd k ret c0 t r1 r2 depth (eW hd k ret c0 t r1 r2 depth m) b10_0 b8_5 v55
def Ep {S:Type} (hd:cz S) (k:Nat) (ret:Tm×Int→Option S) (J0:(List Cl×Int)→(List Tm×Int)→Int→(List (Br Tm))→Int→Option S) (t:Tm) (depth c0:Int):Option S:=
 aa k (u3 k (ac t) depth c0) fun r1=>
 ab (!(r1.2==0)) (
 ret ((Tm.mk 0 0 ByteArray.empty [] [] []),r1.2)) (
 aa k (Aw hd k t.kids depth c0 (ac t)) fun r2=>
 ab (!(r2.2==0)) (
  ret ((Tm.mk 0 0 ByteArray.empty [] [] []),r2.2)) (
  ab (t.kind==15) (
    J0 r1 r2 1 ([]:List (Br Tm)) 0) (
    J0 r1 r2 0 ([]:List (Br Tm)) 0)))
noncomputable def dn {S:Type}:Nat→Tm→Int→Int→(Tm×Int→Option S)→Option S
 |0=>fun _ _ _ _=> .none
 |k+1=>fun t depth c0 ret=>Ep (dn k) k ret (fun r1 r2 b10_0 b8_5 v55=>eW (dn k) k ret c0 t r1 r2 depth k b10_0 b8_5 v55) t depth c0
def Ed {S:Type} (k:Nat) (ret:Tm×Int→Option S) (t:Tm) (i:Int) (a_r:List Cl):Option S:=
 aa k (u4 k (ac t) i a_r) fun r1=>
 ab (!(r1==0)) (
 ret ((Tm.mk 0 0 ByteArray.empty [] [] []),r1)) (
 aa k (iC k a_r i 1) fun r2=>
 ab (!(r2.2==0)) (
  ret ((Tm.mk 0 0 ByteArray.empty [] [] []),r2.2)) (
  aa k (Ar k i r2.1) fun r3=>
  dz k (ac t) 0 r3.1 r3.2 fun r4=>
  ab (!(r4.2==0)) (
  ret ((Tm.mk 0 0 ByteArray.empty [] [] []),r4.2)) (
  aa k (Aq k i) fun r5=>
  dn k (ac r4.1) 0 r5 fun r6=>
  ret ((ac r6.1),r6.2))))
noncomputable def gL {S:Type} (k:Nat) (t:Tm) (i:Int) (a_r:List Cl) (ret:Tm×Int→Option S):Option S:=Ed k ret t i a_r
def ahS {S:Type} (k:Nat) (ret:Tm×Int→Option S) (line:Tm) (a_r:List Cl) (c0:Int):Option S:=
 aa k (fV k c0) fun r1=>
 ab (!r1) (
 ret ((Tm.mk 0 0 ByteArray.empty [] [] []),c0)) (
 aa k (iE k (ac line) 1 2) fun r2=>
 aa k (gK k r2.2 c0) fun r3=>
 aa k (fV k r3) fun r4=>
 ab (!r4) (
  ret ((Tm.mk 0 0 ByteArray.empty [] [] []),r3)) (
  aa k (gL k (ac r2.1) 0 a_r) fun r5=>
  aa k (gK k r5.2 r3) fun r6=>
  ret ((ac r5.1),r6)))
noncomputable def uS {S:Type} (k:Nat) (line:Tm) (a_r:List Cl) (c0:Int) (ret:Tm×Int→Option S):Option S:=ahS k ret line a_r c0
def ahY {S:Type} (k:Nat) (ret:Tm×Int→Option S) (t:Tm) (vars dims c0:Int):Option S:=
 aa k (fV k c0) fun r1=>
 ab (!r1) (
 ret ((Tm.mk 0 0 ByteArray.empty [] [] []),c0)) (
 aa k (vk k (ac t) vars dims) fun r2=>
 aa k (gK k r2.2 c0) fun r3=>
 ret ((ac r2.1),r3))
noncomputable def mL {S:Type} (k:Nat) (t:Tm) (vars dims c0:Int) (ret:Tm×Int→Option S):Option S:=ahY k ret t vars dims c0
noncomputable def ahZ {S:Type} (k:Nat) (ret:Int×Int×ByteArray×List Tm→Option S) (kind:Int) (kids:List Tm):Option S:=
 ret (kind,0,ByteArray.empty,kids)
noncomputable def fW {S:Type} (k:Nat) (kind:Int) (kids:List Tm) (ret:Int×Int×ByteArray×List Tm→Option S):Option S:=ahZ k ret kind kids
def ahT {S:Type} (k:Nat) (ret:Tm×Int×Int→Option S) (t:Tm) (c0:Int):Option S:=
 aa k (fV k c0) fun r1=>
 ab (r1) (
 aa k (d3 k (ac t)) fun r2=>
 aa k (gK k r2 c0) fun r3=>
 aa k (fV k r3) fun r4=>
 ab (!r4) (
  ret ((Tm.mk 0 0 ByteArray.empty [] [] []),r3,r3)) (
  ret ((ac t),0,r3))) (
 aa k (fV k c0) fun r5=>
 ab (!r5) (
  ret ((Tm.mk 0 0 ByteArray.empty [] [] []),c0,c0)) (
  ret ((ac t),0,c0)))
noncomputable def mK {S:Type} (k:Nat) (t:Tm) (c0:Int) (ret:Tm×Int×Int→Option S):Option S:=ahT k ret t c0
def ahP {S:Type} (k:Nat) (ret:Tm×Int→Option S) (line:Tm) (phi:List Cl) (a:Tm) (a_end:Cl) (a_r:List Cl):Option S:=
 aa k (uR k [(ac line),(ac a)]) fun r1=>
 aa k (iA k phi) fun r2=>
 ab (!r2) (
 aa k (gK k 2 r1) fun r3=>
 aa k (Ao k phi r3) fun r4=>
 aa k (An k r4.1 [a_end] r4.2) fun r5=>
 aa k (uS k (ac line) a_r r5.2) fun r6=>
 aa k (mL k (ac a) 0 1 r6.2) fun r7=>
 aa k (fW k 14 [(ac r6.1),(ac r7.1)]) fun r8=>
 aa k (mK k (Tm.mk r8.1 r8.2.1 r8.2.2.1 r5.1 r8.2.2.2 []) r7.2) fun r9=>
 ret ((ac r9.1),r9.2.1)) (
 aa k (Ao k phi r1) fun r10=>
 aa k (An k r10.1 [a_end] r10.2) fun r11=>
 aa k (uS k (ac line) a_r r11.2) fun r12=>
 aa k (mL k (ac a) 0 1 r12.2) fun r13=>
 aa k (fW k 14 [(ac r12.1),(ac r13.1)]) fun r14=>
 aa k (mK k (Tm.mk r14.1 r14.2.1 r14.2.2.1 r11.1 r14.2.2.2 []) r13.2) fun r15=>
 ret ((ac r15.1),r15.2.1))
noncomputable def Am {S:Type} (k:Nat) (line:Tm) (phi:List Cl) (a:Tm) (a_end:Cl) (a_r:List Cl) (ret:Tm×Int→Option S):Option S:=ahP k ret line phi a a_end a_r
noncomputable def ahM {S:Type} (k:Nat) (ret:Tm×Int→Option S) (line:Tm) (phi:List Cl) (a:Tm):Option S:=
 aa k (Am k (ac line) phi (ac a) (Cl.mk 1 0) [(Cl.mk 0 1),(Cl.mk 2 0)]) fun r1=>
 ret ((ac r1.1),r1.2)
noncomputable def Gv {S:Type} (k:Nat) (line:Tm) (phi:List Cl) (a:Tm) (ret:Tm×Int→Option S):Option S:=ahM k ret line phi a
def ais {S:Type} (k:Nat) (ret:Tm×Int→Option S) (line:Tm) (phi:List Cl) (a:Tm) (c0:Int):Option S:=
 aa k (dA k c0) fun r1=>
 ab (!r1) (
 ret ((Tm.mk 0 0 ByteArray.empty [] [] []),c0)) (
 aa k (Gv k (ac line) phi (ac a)) fun r2=>
 aa k (d2 k (ac r2.1) r2.2 c0) fun r3=>
 ret ((ac r3.1),r3.2))
noncomputable def G5 {S:Type} (k:Nat) (line:Tm) (phi:List Cl) (a:Tm) (c0:Int) (ret:Tm×Int→Option S):Option S:=ais k ret line phi a c0
noncomputable def aio {S:Type} (k:Nat) (ret:Pan Int Tm→Option S) (c0:Int) (c1:Tm) (c2:Int):Option S:=
 cK k c0 0 (ac c1) (if 2000000000<c2 then 2000000000 else c2) 0 fun r2=>Pan.elim r2 (fun r2=>
 ret (.ok (ac r2))) (fun e3=>
 ret (.pan e3))
noncomputable def GY {S:Type} (k:Nat) (c0:Int) (c1:Tm) (c2:Int) (ret:Pan Int Tm→Option S):Option S:=aio k ret c0 c1 c2
def F4 {S:Type} (k:Nat) (ret:Tm×Int→Option S) (c0:Int) (c1:Tm) (c2:Int) (numbers:List Int) (rec0:Int→Option S) (v19:Int):Option S:=
 ab (decide ((v19:Int)<(numbers.length:Int))) (
 Option.bind (ah numbers v19) fun x2=>
 ab (decide ((x2:Int)<0)) (
  ret ((Tm.mk 0 0 ByteArray.empty [] [] []),2)) (
   rec0 (IntKind.wrap .i64 (v19+1)))) (
 aa k (GY k c0 (ac c1) c2) fun r4=>Pan.elim r4 (fun r4=>
  ret ((ac r4),0)) (fun e5=>
  ret ((Tm.mk 0 0 ByteArray.empty [] [] []),e5)))
noncomputable def B1 {S:Type} (k:Nat) (ret:Tm×Int→Option S) (c0:Int) (c1:Tm) (c2:Int) (numbers:List Int):Nat→Int→Option S
 |0=>fun _=> .none
 |m+1=>fun v19=>F4 k ret c0 c1 c2 numbers (B1 k ret c0 c1 c2 numbers m) v19
def PY {S:Type} (k:Nat) (ret:Tm×Int→Option S) (J0:Int→Option S) (t:Tm) (numbers:List Int) (c0:Int) (c1:Tm) (c2:Int):Option S:=
 aa k (d3 k (ac t)) fun r1=>
 ab (!(r1==0)) (
 ret ((Tm.mk 0 0 ByteArray.empty [] [] []),r1)) (
  J0 0)
noncomputable def GZ {S:Type} (k:Nat) (t:Tm) (numbers:List Int) (c0:Int) (c1:Tm) (c2:Int) (ret:Tm×Int→Option S):Option S:=PY k ret (fun v19=>B1 k ret c0 c1 c2 numbers k v19) t numbers c0 c1 c2
noncomputable def ain {S:Type} (k:Nat) (ret:Tm×Int→Option S) (t:Tm) (a_from a_by:Int):Option S:=
 aa k (GZ k (ac t) [a_from,a_by,IntKind.wrap .i64 (1000000-a_by)] a_by (ac t) a_from) fun r1=>
 ret ((ac r1.1),r1.2)
noncomputable def GX {S:Type} (k:Nat) (t:Tm) (a_from a_by:Int) (ret:Tm×Int→Option S):Option S:=ain k ret t a_from a_by
def ait {S:Type} (k:Nat) (ret:Tm×Int→Option S) (t:Tm) (vars dims c0:Int):Option S:=
 aa k (dA k c0) fun r1=>
 ab (!r1) (
 ret ((Tm.mk 0 0 ByteArray.empty [] [] []),c0)) (
 aa k (GX k (ac t) 1 vars) fun r2=>
 aa k (d2 k (ac r2.1) r2.2 c0) fun r3=>
 aa k (dA k r3.2) fun r4=>
 ab (!r4) (
  ret ((Tm.mk 0 0 ByteArray.empty [] [] []),r3.2)) (
  aa k (iE k (ac r3.1) 0 dims) fun r5=>
  aa k (d2 k (ac r5.1) r5.2 r3.2) fun r6=>
  ret ((ac r6.1),r6.2)))
noncomputable def G6 {S:Type} (k:Nat) (t:Tm) (vars dims c0:Int) (ret:Tm×Int→Option S):Option S:=ait k ret t vars dims c0
abbrev cS (S:Type):=Tm→(Int→Option S)→Option S
noncomputable def aiP {S:Type} (hd:cS S) (k:Nat) (ret:Bool×Int→Option S) (a_k:Tm) (p p' c0:Int):Option S:=
 hd (ac a_k) fun r1=>
 ret (true,IntKind.wrap .i64 (c0+r1))
noncomputable def AT {S:Type} (hd:cS S) (k:Nat) (a_k:Tm) (p p' c0:Int) (ret:Bool×Int→Option S):Option S:=aiP hd k ret a_k p p' c0
def F_ {S:Type} (hd:cS S) (k:Nat) (ret:Bool×Int→Option S) (t:Tm) (v42:Int) (x4:(Br Tm)) (more9:Int) (rec1:Int→Int→Int→Option S) (rec2:Int→Int→Option S) (e0_0'' v49:Int):Option S:=
 ab (decide ((v49:Int)<(x4.kids.length:Int))) (
 Option.bind (ah x4.kids v49) fun x5=>
 aa k (AT hd k (ac x5) 0 more9 e0_0'') fun r6=>
 ab (!r6.1) (
  ret (false,r6.2)) (
   rec2 r6.2 (IntKind.wrap .i64 (v49+1)))) (
  rec1 e0_0'' (IntKind.wrap .i64 (v42+1)) more9)
noncomputable def wQ {S:Type} (hd:cS S) (k:Nat) (ret:Bool×Int→Option S) (rec1:Int→Int→Int→Option S) (t:Tm) (v42:Int) (x4:(Br Tm)) (more9:Int):Nat→Int→Int→Option S
 |0=>fun _ _=> .none
 |m+1=>fun e0_0'' v49=>F_ hd k ret t v42 x4 more9 rec1 (wQ hd k ret rec1 t v42 x4 more9 m) e0_0'' v49
def zZ {S:Type} (hd:cS S) (k:Nat) (ret:Bool×Int→Option S) (t:Tm) (J2:Int→(Br Tm)→Int→Int→Int→Option S) (rec1:Int→Int→Int→Option S) (e0_0' v42 more9:Int):Option S:=
 ab (decide ((v42:Int)<(t.sys.length:Int))) (
 Option.bind (ah t.sys v42) fun x4=>
  J2 v42 x4 more9 e0_0' 0) (
 ret (true,e0_0'))
noncomputable def rB {S:Type} (hd:cS S) (k:Nat) (ret:Bool×Int→Option S) (t:Tm):Nat→Int→Int→Int→Option S
 |0=>fun _ _ _=> .none
 |m+1=>fun e0_0' v42 more9=>zZ hd k ret t (fun v42 x4 more9 e0_0'' v49=>wQ hd k ret (rB hd k ret t m) t v42 x4 more9 k e0_0'' v49) (rB hd k ret t m) e0_0' v42 more9
def zY {S:Type} (hd:cS S) (k:Nat) (ret:Bool×Int→Option S) (t:Tm) (J1:Int→Int→Int→Option S) (rec0:Int→Int→Option S) (e0_0 v17:Int):Option S:=
 ab (decide ((v17:Int)<(t.kids.length:Int))) (
 Option.bind (ah t.kids v17) fun x1=>
 aa k (fw k t.kind v17) fun r2=>
 aa k (AT hd k (ac x1) r2.1 r2.2 e0_0) fun r3=>
 ab (!r3.1) (
  ret (false,r3.2)) (
   rec0 r3.2 (IntKind.wrap .i64 (v17+1)))) (
 ab (t.kind==15) (
   J1 e0_0 0 1) (
   J1 e0_0 0 0))
noncomputable def B7 {S:Type} (hd:cS S) (k:Nat) (ret:Bool×Int→Option S) (t:Tm):Nat→Int→Int→Option S
 |0=>fun _ _=> .none
 |m+1=>fun e0_0 v17=>zY hd k ret t (fun e0_0' v42 more9=>rB hd k ret t k e0_0' v42 more9) (B7 hd k ret t m) e0_0 v17
noncomputable def QN {S:Type} (hd:cS S) (k:Nat) (ret:Bool×Int→Option S) (J0:Int→Int→Option S) (t:Tm) (c0:Int):Option S:=
 J0 c0 0
noncomputable def Ha {S:Type} (hd:cS S) (k:Nat) (t:Tm) (c0:Int) (ret:Bool×Int→Option S):Option S:=QN hd k ret (fun e0_0 v17=>B7 hd k ret t k e0_0 v17) t c0
noncomputable def aiO {S:Type} (hd:cS S) (k:Nat) (ret:Int→Option S) (t:Tm):Option S:=
 aa k (Ha hd k (ac t) 1) fun r1=>
 ret r1.2
noncomputable def li {S:Type}:Nat→Tm→(Int→Option S)→Option S
 |0=>fun _ _=> .none
 |k+1=>fun t ret=>aiO (li k) k ret t
abbrev eL (S:Type):=Tm→Int→(Int→Option S)→Option S
def F6 {S:Type} (hd:eL S) (k:Nat) (ret:Int→Option S) (a_n:Int) (t:Tm) (v49:Int) (x4:(Br Tm)) (rec2:Int→Int→Option S) (rec3:Int→Int→Option S) (sum5'' v56:Int):Option S:=
 ab (decide ((v56:Int)<(x4.kids.length:Int))) (
 Option.bind (ah x4.kids v56) fun x5=>
 hd (ac x5) a_n fun r6=>
  rec3 (IntKind.wrap .i64 (sum5''+r6)) (IntKind.wrap .i64 (v56+1))) (
  rec2 (IntKind.wrap .i64 (v49+1)) sum5'')
noncomputable def wK {S:Type} (hd:eL S) (k:Nat) (ret:Int→Option S) (rec2:Int→Int→Option S) (a_n:Int) (t:Tm) (v49:Int) (x4:(Br Tm)):Nat→Int→Int→Option S
 |0=>fun _ _=> .none
 |m+1=>fun sum5'' v56=>F6 hd k ret a_n t v49 x4 rec2 (wK hd k ret rec2 a_n t v49 x4 m) sum5'' v56
def zR {S:Type} (hd:eL S) (k:Nat) (ret:Int→Option S) (a_n:Int) (t:Tm) (J3:Int→(Br Tm)→Int→Int→Option S) (rec2:Int→Int→Option S) (v49 sum5':Int):Option S:=
 ab (decide ((v49:Int)<(t.sys.length:Int))) (
 Option.bind (ah t.sys v49) fun x4=>
  J3 v49 x4 sum5' 0) (
 ret sum5')
noncomputable def rx {S:Type} (hd:eL S) (k:Nat) (ret:Int→Option S) (a_n:Int) (t:Tm):Nat→Int→Int→Option S
 |0=>fun _ _=> .none
 |m+1=>fun v49 sum5'=>zR hd k ret a_n t (fun v49 x4 sum5'' v56=>wK hd k ret (rx hd k ret a_n t m) a_n t v49 x4 k sum5'' v56) (rx hd k ret a_n t m) v49 sum5'
def zQ {S:Type} (hd:eL S) (k:Nat) (ret:Int→Option S) (t:Tm) (a_n:Int) (J2:Int→Int→Option S) (rec1:Int→Int→Option S) (v26 sum5:Int):Option S:=
 ab (decide ((v26:Int)<(t.kids.length:Int))) (
 Option.bind (ah t.kids v26) fun x1=>
 aa k (fw k t.kind v26) fun r2=>
 hd (ac x1) (IntKind.wrap .i64 (a_n+r2.1)) fun r3=>
  rec1 (IntKind.wrap .i64 (v26+1)) (IntKind.wrap .i64 (sum5+r3))) (
  J2 0 sum5)
noncomputable def wJ {S:Type} (hd:eL S) (k:Nat) (ret:Int→Option S) (t:Tm) (a_n:Int):Nat→Int→Int→Option S
 |0=>fun _ _=> .none
 |m+1=>fun v26 sum5=>zQ hd k ret t a_n (fun v49 sum5'=>rx hd k ret a_n t k v49 sum5') (wJ hd k ret t a_n m) v26 sum5
noncomputable def zP {S:Type} (hd:eL S) (k:Nat) (ret:Int→Option S) (t:Tm) (a_n:Int) (J1:Int→Int→Option S):Option S:=
 J1 0 0
noncomputable def IW {S:Type} (hd:eL S) (k:Nat) (ret:Int→Option S) (t:Tm) (a_n:Int):Nat→Option S
 |0=> .none
 |_+1=>zP hd k ret t a_n (fun v26 sum5=>wJ hd k ret t a_n k v26 sum5)
def P8 {S:Type} (hd:eL S) (k:Nat) (ret:Int→Option S) (J0:Option S) (t:Tm) (a_n:Int):Option S:=
 ab (t.kind==1) (
 ab (t.n==a_n) (
  ret 1) (
   J0)) (
  J0)
noncomputable def jG {S:Type}:Nat→Tm→Int→(Int→Option S)→Option S
 |0=>fun _ _ _=> .none
 |k+1=>fun t a_n ret=>P8 (jG k) k ret (IW (jG k) k ret t a_n k) t a_n
def aiL {S:Type} (k:Nat) (ret:Int→Option S) (t:Tm):Option S:=
 ab (t.kind==15) (
 ret 1) (
 ret 0)
noncomputable def G_ {S:Type} (k:Nat) (t:Tm) (ret:Int→Option S):Option S:=aiL k ret t
abbrev fN (S:Type):=Tm→Int→Tm→Int→Int→(Pan Int Tm→Option S)→Option S
def F7 {S:Type} (hd:fN S) (k:Nat) (ret:Pan Int Tm→Option S) (t:Tm) (b13_4:List Tm) (b13_5:List (Br Tm)) (x9:(Br Tm)) (u:Tm) (a_n vars dims v99:Int) (rec1:(List (Br Tm))→Int→Option S) (rec2:(List Tm)→Int→Option S) (b20_1:List Tm) (v110:Int):Option S:=
 ab (decide ((v110:Int)<(x9.kids.length:Int))) (
 Option.bind (ah x9.kids v110) fun x11=>
 aa k (G_ k (ac t)) fun r12=>
 hd (ac x11) a_n (ac u) vars (IntKind.wrap .i64 (dims+r12)) fun r14=>Pan.elim r14 (fun r14=>
  Option.bind (ap 1099511627776 b20_1.length [(ac r14)].length) fun x16=>
   rec2 (b20_1++[(ac r14)]) (IntKind.wrap .i64 (v110+1))) (fun e15=>
  ret (.pan e15))) (
 Option.bind (ap 1099511627776 b13_5.length [(Br.mk x9.face b20_1)].length) fun x17=>
  rec1 (b13_5++[(Br.mk x9.face b20_1)]) (IntKind.wrap .i64 (v99+1)))
noncomputable def wL {S:Type} (hd:fN S) (k:Nat) (ret:Pan Int Tm→Option S) (rec1:(List (Br Tm))→Int→Option S) (t:Tm) (b13_4:List Tm) (b13_5:List (Br Tm)) (x9:(Br Tm)) (u:Tm) (a_n vars dims v99:Int):Nat→(List Tm)→Int→Option S
 |0=>fun _ _=> .none
 |m+1=>fun b20_1 v110=>F7 hd k ret t b13_4 b13_5 x9 u a_n vars dims v99 rec1 (wL hd k ret rec1 t b13_4 b13_5 x9 u a_n vars dims v99 m) b20_1 v110
def zT {S:Type} (hd:fN S) (k:Nat) (ret:Pan Int Tm→Option S) (t:Tm) (b13_4:List Tm) (u:Tm) (a_n vars dims:Int) (J2:(List (Br Tm))→(Br Tm)→Int→(List Tm)→Int→Option S) (rec1:(List (Br Tm))→Int→Option S) (b13_5:List (Br Tm)) (v99:Int):Option S:=
 ab (decide ((v99:Int)<(t.sys.length:Int))) (
 Option.bind (ah t.sys v99) fun x9=>
 Option.bind (ap 1099511627776 0 x9.face.length) fun x10=>
  J2 b13_5 x9 v99 ([]:List Tm) 0) (
 ret (.ok (Tm.mk t.kind 0 t.name t.r b13_4 b13_5)))
noncomputable def ry {S:Type} (hd:fN S) (k:Nat) (ret:Pan Int Tm→Option S) (t:Tm) (b13_4:List Tm) (u:Tm) (a_n vars dims:Int):Nat→(List (Br Tm))→Int→Option S
 |0=>fun _ _=> .none
 |m+1=>fun b13_5 v99=>zT hd k ret t b13_4 u a_n vars dims (fun b13_5 x9 v99 b20_1 v110=>wL hd k ret (ry hd k ret t b13_4 u a_n vars dims m) t b13_4 b13_5 x9 u a_n vars dims v99 k b20_1 v110) (ry hd k ret t b13_4 u a_n vars dims m) b13_5 v99
def zS {S:Type} (hd:fN S) (k:Nat) (ret:Pan Int Tm→Option S) (t u:Tm) (a_n vars dims:Int) (J1:(List Tm)→(List (Br Tm))→Int→Option S) (rec0:(List Tm)→Int→Option S) (b13_4:List Tm) (v68:Int):Option S:=
 ab (decide ((v68:Int)<(t.kids.length:Int))) (
 Option.bind (ah t.kids v68) fun x3=>
 aa k (fw k t.kind v68) fun r4=>
 hd (ac x3) a_n (ac u) (IntKind.wrap .i64 (vars+r4.1)) (IntKind.wrap .i64 (dims+r4.2)) fun r6=>Pan.elim r6 (fun r6=>
  Option.bind (ap 1099511627776 b13_4.length [(ac r6)].length) fun x8=>
   rec0 (b13_4++[(ac r6)]) (IntKind.wrap .i64 (v68+1))) (fun e7=>
  ret (.pan e7))) (
  J1 b13_4 ([]:List (Br Tm)) 0)
noncomputable def B3 {S:Type} (hd:fN S) (k:Nat) (ret:Pan Int Tm→Option S) (t u:Tm) (a_n vars dims:Int):Nat→(List Tm)→Int→Option S
 |0=>fun _ _=> .none
 |m+1=>fun b13_4 v68=>zS hd k ret t u a_n vars dims (fun b13_4 b13_5 v99=>ry hd k ret t b13_4 u a_n vars dims k b13_5 v99) (B3 hd k ret t u a_n vars dims m) b13_4 v68
def P9 {S:Type} (hd:fN S) (k:Nat) (ret:Pan Int Tm→Option S) (J0:(List Tm)→Int→Option S) (t:Tm) (a_n:Int) (u:Tm) (vars dims:Int):Option S:=
 ab (t.kind==1) (
 ab (t.n==(IntKind.wrap .i64 (a_n+vars))) (
  aa k (vk k (ac u) vars dims) fun r1=>
  ab (!(r1.2==0)) (
  ret (.pan r1.2)) (
  ret (.ok (ac r1.1)))) (
  ab (decide ((t.n:Int)>(IntKind.wrap .i64 (a_n+vars)))) (
  ret (.ok (Tm.mk 1 (IntKind.wrap .i64 (t.n-1)) ByteArray.empty [] [] []))) (
  ret (.ok (ac t))))) (
 Option.bind (ap 1099511627776 0 t.r.length) fun x2=>
  J0 ([]:List Tm) 0)
noncomputable def jH {S:Type}:Nat→Tm→Int→Tm→Int→Int→(Pan Int Tm→Option S)→Option S
 |0=>fun _ _ _ _ _ _=> .none
 |k+1=>fun t a_n u vars dims ret=>P9 (jH k) k ret (fun b13_4 v68=>B3 (jH k) k ret t u a_n vars dims k b13_4 v68) t a_n u vars dims
abbrev cR (S:Type):=Tm→(Int→Option S)→Option S
noncomputable def aiN {S:Type} (hd:cR S) (k:Nat) (ret:Bool×Int→Option S) (a_k:Tm) (p p' c0:Int):Option S:=
 hd (ac a_k) fun r1=>
 ret (true,if r1>c0 then r1 else c0)
noncomputable def AR {S:Type} (hd:cR S) (k:Nat) (a_k:Tm) (p p' c0:Int) (ret:Bool×Int→Option S):Option S:=aiN hd k ret a_k p p' c0
def Ga {S:Type} (hd:cR S) (k:Nat) (ret:Bool×Int→Option S) (t:Tm) (v42:Int) (x4:(Br Tm)) (more9:Int) (rec1:Int→Int→Int→Option S) (rec2:Int→Int→Option S) (e0_0'' v49:Int):Option S:=
 ab (decide ((v49:Int)<(x4.kids.length:Int))) (
 Option.bind (ah x4.kids v49) fun x5=>
 aa k (AR hd k (ac x5) 0 more9 e0_0'') fun r6=>
 ab (!r6.1) (
  ret (false,r6.2)) (
   rec2 r6.2 (IntKind.wrap .i64 (v49+1)))) (
  rec1 e0_0'' (IntKind.wrap .i64 (v42+1)) more9)
noncomputable def wR {S:Type} (hd:cR S) (k:Nat) (ret:Bool×Int→Option S) (rec1:Int→Int→Int→Option S) (t:Tm) (v42:Int) (x4:(Br Tm)) (more9:Int):Nat→Int→Int→Option S
 |0=>fun _ _=> .none
 |m+1=>fun e0_0'' v49=>Ga hd k ret t v42 x4 more9 rec1 (wR hd k ret rec1 t v42 x4 more9 m) e0_0'' v49
def z7 {S:Type} (hd:cR S) (k:Nat) (ret:Bool×Int→Option S) (t:Tm) (J2:Int→(Br Tm)→Int→Int→Int→Option S) (rec1:Int→Int→Int→Option S) (e0_0' v42 more9:Int):Option S:=
 ab (decide ((v42:Int)<(t.sys.length:Int))) (
 Option.bind (ah t.sys v42) fun x4=>
  J2 v42 x4 more9 e0_0' 0) (
 ret (true,e0_0'))
noncomputable def rC {S:Type} (hd:cR S) (k:Nat) (ret:Bool×Int→Option S) (t:Tm):Nat→Int→Int→Int→Option S
 |0=>fun _ _ _=> .none
 |m+1=>fun e0_0' v42 more9=>z7 hd k ret t (fun v42 x4 more9 e0_0'' v49=>wR hd k ret (rC hd k ret t m) t v42 x4 more9 k e0_0'' v49) (rC hd k ret t m) e0_0' v42 more9
def z6 {S:Type} (hd:cR S) (k:Nat) (ret:Bool×Int→Option S) (t:Tm) (J1:Int→Int→Int→Option S) (rec0:Int→Int→Option S) (e0_0 v17:Int):Option S:=
 ab (decide ((v17:Int)<(t.kids.length:Int))) (
 Option.bind (ah t.kids v17) fun x1=>
 aa k (fw k t.kind v17) fun r2=>
 aa k (AR hd k (ac x1) r2.1 r2.2 e0_0) fun r3=>
 ab (!r3.1) (
  ret (false,r3.2)) (
   rec0 r3.2 (IntKind.wrap .i64 (v17+1)))) (
 ab (t.kind==15) (
   J1 e0_0 0 1) (
   J1 e0_0 0 0))
noncomputable def B8 {S:Type} (hd:cR S) (k:Nat) (ret:Bool×Int→Option S) (t:Tm):Nat→Int→Int→Option S
 |0=>fun _ _=> .none
 |m+1=>fun e0_0 v17=>z6 hd k ret t (fun e0_0' v42 more9=>rC hd k ret t k e0_0' v42 more9) (B8 hd k ret t m) e0_0 v17
noncomputable def QO {S:Type} (hd:cR S) (k:Nat) (ret:Bool×Int→Option S) (J0:Int→Int→Option S) (t:Tm) (c0:Int):Option S:=
 J0 c0 0
noncomputable def Hb {S:Type} (hd:cR S) (k:Nat) (t:Tm) (c0:Int) (ret:Bool×Int→Option S):Option S:=QO hd k ret (fun e0_0 v17=>B8 hd k ret t k e0_0 v17) t c0
noncomputable def aiM {S:Type} (hd:cR S) (k:Nat) (ret:Int→Option S) (t:Tm):Option S:=
 aa k (Hb hd k (ac t) 0) fun r1=>
 ret (IntKind.wrap .i64 (r1.2+1))
noncomputable def nc {S:Type}:Nat→Tm→(Int→Option S)→Option S
 |0=>fun _ _=> .none
 |k+1=>fun t ret=>aiM (nc k) k ret t
def aiK {S:Type} (k:Nat) (ret:Tm×Int→Option S) (t:Tm) (a_n:Int) (u:Tm):Option S:=
 aa k (d3 k (ac t)) fun r1=>
 ab (!(r1==0)) (
 ret ((Tm.mk 0 0 ByteArray.empty [] [] []),r1)) (
 aa k (d3 k (ac u)) fun r2=>
 ab (!(r2==0)) (
  ret ((Tm.mk 0 0 ByteArray.empty [] [] []),r2)) (
  ab (decide ((a_n:Int)<0)) (
  ret ((Tm.mk 0 0 ByteArray.empty [] [] []),2)) (
  li k (ac t) fun r3=>
  jG k (ac t) (if 1099511627776<a_n then 1099511627776 else a_n) fun r4=>
  li k (ac u) fun r5=>
  ab (decide ((IntKind.wrap .i64 (r3+(IntKind.wrap .i64 (r4*(IntKind.wrap .i64 (r5-1))))):Int)>20000)) (
   ret ((Tm.mk 0 0 ByteArray.empty [] [] []),221)) (
   jH k (ac t) (if 1099511627776<a_n then 1099511627776 else a_n) (ac u) 0 0 fun r7=>Pan.elim r7 (fun r7=>
   nc k (ac r7) fun r9=>
   ab (decide ((r9:Int)>200)) (
    ret ((Tm.mk 0 0 ByteArray.empty [] [] []),62)) (
    ret ((ac r7),0))) (fun e8=>
   ret ((Tm.mk 0 0 ByteArray.empty [] [] []),e8))))))
noncomputable def G9 {S:Type} (k:Nat) (t:Tm) (a_n:Int) (u:Tm) (ret:Tm×Int→Option S):Option S:=aiK k ret t a_n u
def aiz {S:Type} (k:Nat) (ret:Tm×Int→Option S) (t u:Tm) (c0:Int):Option S:=
 aa k (dA k c0) fun r1=>
 ab (!r1) (
 ret ((Tm.mk 0 0 ByteArray.empty [] [] []),c0)) (
 aa k (G9 k (ac t) 0 (ac u)) fun r2=>
 aa k (d2 k (ac r2.1) r2.2 c0) fun r3=>
 ret ((ac r3.1),r3.2))
noncomputable def AH {S:Type} (k:Nat) (t u:Tm) (c0:Int) (ret:Tm×Int→Option S):Option S:=aiz k ret t u c0
def aiC {S:Type} (k:Nat) (ret:Tm×Int→Option S) (t:Tm) (a_r:List Cl) (c0:Int):Option S:=
 aa k (dA k c0) fun r1=>
 ab (!r1) (
 ret ((Tm.mk 0 0 ByteArray.empty [] [] []),c0)) (
 aa k (gL k (ac t) 0 a_r) fun r2=>
 aa k (d2 k (ac r2.1) r2.2 c0) fun r3=>
 ret ((ac r3.1),r3.2))
noncomputable def mX {S:Type} (k:Nat) (t:Tm) (a_r:List Cl) (c0:Int) (ret:Tm×Int→Option S):Option S:=aiC k ret t a_r c0
noncomputable def aiG {S:Type} (k:Nat) (ret:Int×Int×ByteArray×List Tm→Option S) (kind:Int) (kids:List Tm):Option S:=
 ret (kind,0,ByteArray.empty,kids)
noncomputable def co {S:Type} (k:Nat) (kind:Int) (kids:List Tm) (ret:Int×Int×ByteArray×List Tm→Option S):Option S:=aiG k ret kind kids
noncomputable def aiJ {S:Type} (k:Nat) (ret:Int×Int×ByteArray×List Cl×List Tm→Option S) (kind:Int) (a_r:List Cl) (kids:List Tm):Option S:=
 ret (kind,0,ByteArray.empty,a_r,kids)
noncomputable def gN {S:Type} (k:Nat) (kind:Int) (a_r:List Cl) (kids:List Tm) (ret:Int×Int×ByteArray×List Cl×List Tm→Option S):Option S:=aiJ k ret kind a_r kids
noncomputable def aiR {S:Type} (k:Nat) (ret:Int×Int×ByteArray×List Cl×List Tm→Option S) (line a:Tm) (c0_0:Int) (c0_1:List Cl) (c0_2 c0_3:Int) (c0_4:ByteArray) (c0_5:List Cl) (c0_6:List Tm) (c0_7:List (Br Tm)):Option S:=
 aa k (gN k 14 c0_1 [(ac line),(ac a)]) fun r1=>
 ret (r1.1,r1.2.1,r1.2.2.1,r1.2.2.2.1,r1.2.2.2.2)
noncomputable def lj {S:Type} (k:Nat) (line a:Tm) (c0_0:Int) (c0_1:List Cl) (c0_2 c0_3:Int) (c0_4:ByteArray) (c0_5:List Cl) (c0_6:List Tm) (c0_7:List (Br Tm)) (ret:Int×Int×ByteArray×List Cl×List Tm→Option S):Option S:=aiR k ret line a c0_0 c0_1 c0_2 c0_3 c0_4 c0_5 c0_6 c0_7
noncomputable def aiU {S:Type} (k:Nat) (ret:Int×Int×ByteArray×List Tm×Int→Option S) (l:Tm) (c0_0:Int) (c0_1:List Cl) (c0_2 c0_3:Int) (c0_4:ByteArray) (c0_5:List Cl) (c0_6:List Tm) (c0_7:List (Br Tm)):Option S:=
 Option.bind (ah l.kids 0) fun x1=>
 aa k (eo k (ac x1) 1 0 c0_0) fun r2=>
 aa k (G8 k 0) fun r3=>
 aa k (G5 k (ac r2.1) c0_1 (Tm.mk r3.1 r3.2.1 r3.2.2 [] [] []) r2.2) fun r4=>
 Option.bind (ah l.kids 1) fun x5=>
 aa k (G6 k (ac x5) 1 0 r4.2) fun r6=>
 aa k (AH k (ac r6.1) (ac r4.1) r6.2) fun r7=>
 aa k (eo k (Tm.mk c0_2 c0_3 c0_4 c0_5 c0_6 c0_7) 1 0 r7.2) fun r8=>
 aa k (mX k (ac r4.1) ([]:List Cl) r8.2) fun r9=>
 aa k (co k 6 [(ac r8.1),(ac r9.1)]) fun r10=>
 aa k (lj k (ac r7.1) (Tm.mk r10.1 r10.2.1 r10.2.2.1 [] r10.2.2.2 []) r9.2 c0_1 c0_2 c0_3 c0_4 c0_5 c0_6 c0_7) fun r11=>
 aa k (co k 5 [(Tm.mk r11.1 r11.2.1 r11.2.2.1 r11.2.2.2.1 r11.2.2.2.2 [])]) fun r12=>
 ret (r12.1,r12.2.1,r12.2.2.1,r12.2.2.2,r9.2)
noncomputable def He {S:Type} (k:Nat) (l:Tm) (c0_0:Int) (c0_1:List Cl) (c0_2 c0_3:Int) (c0_4:ByteArray) (c0_5:List Cl) (c0_6:List Tm) (c0_7:List (Br Tm)) (ret:Int×Int×ByteArray×List Tm×Int→Option S):Option S:=aiU k ret l c0_0 c0_1 c0_2 c0_3 c0_4 c0_5 c0_6 c0_7
noncomputable def ahO {S:Type} (k:Nat) (ret:Tm×Int→Option S) (line:Tm) (phi:List Cl) (a:Tm):Option S:=
 aa k (Am k (ac line) phi (ac a) (Cl.mk 0 1) [(Cl.mk 3 0)]) fun r1=>
 ret ((ac r1.1),r1.2)
noncomputable def Gy {S:Type} (k:Nat) (line:Tm) (phi:List Cl) (a:Tm) (ret:Tm×Int→Option S):Option S:=ahO k ret line phi a
def aiB {S:Type} (k:Nat) (ret:Tm×Int→Option S) (line:Tm) (phi:List Cl) (a:Tm) (c0:Int):Option S:=
 aa k (dA k c0) fun r1=>
 ab (!r1) (
 ret ((Tm.mk 0 0 ByteArray.empty [] [] []),c0)) (
 aa k (Gy k (ac line) phi (ac a)) fun r2=>
 aa k (d2 k (ac r2.1) r2.2 c0) fun r3=>
 ret ((ac r3.1),r3.2))
noncomputable def AJ {S:Type} (k:Nat) (line:Tm) (phi:List Cl) (a:Tm) (c0:Int) (ret:Tm×Int→Option S):Option S:=aiB k ret line phi a c0
noncomputable def aiV {S:Type} (k:Nat) (ret:Int×Int×ByteArray×List Tm×Int→Option S) (l:Tm) (c0_0:Int) (c0_1:List Cl) (c0_2 c0_3:Int) (c0_4:ByteArray) (c0_5:List Cl) (c0_6:List Tm) (c0_7:List (Br Tm)):Option S:=
 aa k (co k 9 [(Tm.mk c0_2 c0_3 c0_4 c0_5 c0_6 c0_7)]) fun r1=>
 Option.bind (ah l.kids 1) fun x2=>
 Option.bind (ah l.kids 0) fun x3=>
 aa k (AJ k (ac x3) c0_1 (Tm.mk r1.1 r1.2.1 r1.2.2.1 [] r1.2.2.2 []) c0_0) fun r4=>
 aa k (AH k (ac x2) (ac r4.1) r4.2) fun r5=>
 Option.bind (ah l.kids 0) fun x6=>
 aa k (lj k (ac x6) (Tm.mk r1.1 r1.2.1 r1.2.2.1 [] r1.2.2.2 []) r5.2 c0_1 c0_2 c0_3 c0_4 c0_5 c0_6 c0_7) fun r7=>
 aa k (co k 10 [(Tm.mk c0_2 c0_3 c0_4 c0_5 c0_6 c0_7)]) fun r8=>
 aa k (lj k (ac r5.1) (Tm.mk r8.1 r8.2.1 r8.2.2.1 [] r8.2.2.2 []) r5.2 c0_1 c0_2 c0_3 c0_4 c0_5 c0_6 c0_7) fun r9=>
 aa k (co k 8 [(Tm.mk r7.1 r7.2.1 r7.2.2.1 r7.2.2.2.1 r7.2.2.2.2 []),(Tm.mk r9.1 r9.2.1 r9.2.2.1 r9.2.2.2.1 r9.2.2.2.2 [])]) fun r10=>
 ret (r10.1,r10.2.1,r10.2.2.1,r10.2.2.2,r5.2)
noncomputable def Hf {S:Type} (k:Nat) (l:Tm) (c0_0:Int) (c0_1:List Cl) (c0_2 c0_3:Int) (c0_4:ByteArray) (c0_5:List Cl) (c0_6:List Tm) (c0_7:List (Br Tm)) (ret:Int×Int×ByteArray×List Tm×Int→Option S):Option S:=aiV k ret l c0_0 c0_1 c0_2 c0_3 c0_4 c0_5 c0_6 c0_7
def QU {S:Type} (k:Nat) (ret:Tm×Int→Option S) (t:Tm):Option S:=
 aa k (iE k (ac t) 2 1) fun r1=>
 ab (!(r1.2==0)) (
 ret ((Tm.mk 0 0 ByteArray.empty [] [] []),r1.2)) (
 aa k (gL k (ac r1.1) 0 [(Cl.mk 2 0)]) fun r2=>
 ret ((ac r2.1),r2.2))
noncomputable def qT {S:Type} (k:Nat) (t:Tm) (ret:Tm×Int→Option S):Option S:=QU k ret t
def aiW {S:Type} (k:Nat) (ret:Tm×Int→Option S) (t:Tm) (c0_0:Int) (c0_1:List Cl) (c0_2 c0_3:Int) (c0_4:ByteArray) (c0_5:List Cl) (c0_6:List Tm) (c0_7:List (Br Tm)):Option S:=
 ab (!(c0_0==0)) (
 ret ((Tm.mk 0 0 ByteArray.empty [] [] []),c0_0)) (
 aa k (qT k (ac t)) fun r1=>
 ret ((ac r1.1),r1.2))
noncomputable def Hg {S:Type} (k:Nat) (t:Tm) (c0_0:Int) (c0_1:List Cl) (c0_2 c0_3:Int) (c0_4:ByteArray) (c0_5:List Cl) (c0_6:List Tm) (c0_7:List (Br Tm)) (ret:Tm×Int→Option S):Option S:=aiW k ret t c0_0 c0_1 c0_2 c0_3 c0_4 c0_5 c0_6 c0_7
noncomputable def aiS {S:Type} (k:Nat) (ret:Int×Int×ByteArray×List Cl×List Tm×Int→Option S) (a_by:Int) (a_r:Cl) (c1 c2:Tm) (c3_0:Int) (c3_1:List Cl) (c3_2 c3_3:Int) (c3_4:ByteArray) (c3_5:List Cl) (c3_6:List Tm) (c3_7:List (Br Tm)):Option S:=
 aa k (eo k (Tm.mk c3_2 c3_3 c3_4 c3_5 c3_6 c3_7) 0 a_by c3_0) fun r1=>
 aa k (eo k (ac c1) 0 a_by r1.2) fun r2=>
 aa k (eo k (ac c2) 0 a_by r2.2) fun r3=>
 aa k (gN k 13 [a_r] [(ac r1.1),(ac r2.1),(ac r3.1)]) fun r4=>
 ret (r4.1,r4.2.1,r4.2.2.1,r4.2.2.2.1,r4.2.2.2.2,r3.2)
noncomputable def AX {S:Type} (k:Nat) (a_by:Int) (a_r:Cl) (c1 c2:Tm) (c3_0:Int) (c3_1:List Cl) (c3_2 c3_3:Int) (c3_4:ByteArray) (c3_5:List Cl) (c3_6:List Tm) (c3_7:List (Br Tm)) (ret:Int×Int×ByteArray×List Cl×List Tm×Int→Option S):Option S:=aiS k ret a_by a_r c1 c2 c3_0 c3_1 c3_2 c3_3 c3_4 c3_5 c3_6 c3_7
def aiA {S:Type} (k:Nat) (ret:List Cl×Int→Option S) (f:List Cl) (a_by c0:Int):Option S:=
 aa k (dA k c0) fun r1=>
 ab (!r1) (
 ret (([]:List Cl),c0)) (
 aa k (iC k f 0 a_by) fun r2=>
 aa k (d2 k (Tm.mk 0 0 ByteArray.empty [] [] []) r2.2 c0) fun r3=>
 ret (r2.1,r3.2))
noncomputable def AI {S:Type} (k:Nat) (f:List Cl) (a_by c0:Int) (ret:List Cl×Int→Option S):Option S:=aiA k ret f a_by c0
noncomputable def aiq {S:Type} (k:Nat) (ret:(Br Tm)→Option S) (f:List Cl) (kids:List Tm):Option S:=
 ret (Br.mk f kids)
noncomputable def dN {S:Type} (k:Nat) (f:List Cl) (kids:List Tm) (ret:(Br Tm)→Option S):Option S:=aiq k ret f kids
def aiy {S:Type} (k:Nat) (ret:Tm×Int→Option S) (t:Tm) (a_by c0:Int):Option S:=
 aa k (dA k c0) fun r1=>
 ab (!r1) (
 ret ((Tm.mk 0 0 ByteArray.empty [] [] []),c0)) (
 aa k (iE k (ac t) 1 a_by) fun r2=>
 aa k (d2 k (ac r2.1) r2.2 c0) fun r3=>
 ret ((ac r3.1),r3.2))
noncomputable def mW {S:Type} (k:Nat) (t:Tm) (a_by c0:Int) (ret:Tm×Int→Option S):Option S:=aiy k ret t a_by c0
noncomputable def ah1 {S:Type} (k:Nat) (ret:Int×Int×ByteArray×List Tm×List (Br Tm)→Option S) (sys:List (Br Tm)):Option S:=
 aa k (fW k 3 ([]:List Tm)) fun r1=>
 aa k (fW k 3 ([]:List Tm)) fun r2=>
 ret (15,0,ByteArray.empty,[(Tm.mk r1.1 r1.2.1 r1.2.2.1 [] r1.2.2.2 []),(Tm.mk r2.1 r2.2.1 r2.2.2.1 [] r2.2.2.2 [])],sys)
noncomputable def Ap {S:Type} (k:Nat) (sys:List (Br Tm)) (ret:Int×Int×ByteArray×List Tm×List (Br Tm)→Option S):Option S:=ah1 k ret sys
def ahU {S:Type} (k:Nat) (ret:Tm×Int→Option S) (line:Tm) (c0:Int):Option S:=
 aa k (fV k c0) fun r1=>
 ab (!r1) (
 ret ((Tm.mk 0 0 ByteArray.empty [] [] []),c0)) (
 aa k (qv k) fun r2=>
 aa k (gL k (ac line) 0 r2) fun r3=>
 aa k (gK k r3.2 c0) fun r4=>
 ret ((ac r3.1),r4))
noncomputable def Gz {S:Type} (k:Nat) (line:Tm) (c0:Int) (ret:Tm×Int→Option S):Option S:=ahU k ret line c0
def FR {S:Type} (k:Nat) (ret:Tm×Int→Option S) (r3:Tm) (r9:Int×Int×ByteArray×List Tm) (r6:Tm) (rec0:Int→(List (Br Tm))→Int→Option S) (b19000_0:Int) (b9_5:List (Br Tm)) (v38:Int):Option S:=
 ab (decide ((v38:Int)<(r6.sys.length:Int))) (
 Option.bind (ah r6.sys v38) fun x10=>
 aa k (fV k b19000_0) fun r11=>
 ab (!r11) (
  aa k (mK k (Tm.mk r9.1 r9.2.1 r9.2.2.1 [] r9.2.2.2 b9_5) b19000_0) fun r12=>
  ret ((ac r12.1),r12.2.1)) (
  aa k (uS k (ac r3) [(Cl.mk 1 0),(Cl.mk 2 0)] b19000_0) fun r13=>
  Option.bind (ah x10.kids 0) fun x14=>
  aa k (fW k 14 [(ac r13.1),(ac x14)]) fun r15=>
  Option.bind (ap 1099511627776 b9_5.length [(Br.mk x10.face [(Tm.mk r15.1 r15.2.1 r15.2.2.1 [(Cl.mk 1 0)] r15.2.2.2 [])])].length) fun x16=>
   rec0 r13.2 (b9_5++[(Br.mk x10.face [(Tm.mk r15.1 r15.2.1 r15.2.2.1 [(Cl.mk 1 0)] r15.2.2.2 [])])]) (IntKind.wrap .i64 (v38+1)))) (
 aa k (mK k (Tm.mk r9.1 r9.2.1 r9.2.2.1 [] r9.2.2.2 b9_5) b19000_0) fun r17=>
 ret ((ac r17.1),r17.2.1))
noncomputable def BQ {S:Type} (k:Nat) (ret:Tm×Int→Option S) (r3:Tm) (r9:Int×Int×ByteArray×List Tm) (r6:Tm):Nat→Int→(List (Br Tm))→Int→Option S
 |0=>fun _ _ _=> .none
 |m+1=>fun b19000_0 b9_5 v38=>FR k ret r3 r9 r6 (BQ k ret r3 r9 r6 m) b19000_0 b9_5 v38
noncomputable def Pa {S:Type} (k:Nat) (ret:Tm×Int→Option S) (J0:Tm→(Int×Int×ByteArray×List Tm)→Tm→Int→(List (Br Tm))→Int→Option S) (line a:Tm) (sys:List (Br Tm)):Option S:=
 aa k (Ap k sys) fun r1=>
 aa k (uR k [(ac line),(ac a),(Tm.mk r1.1 r1.2.1 r1.2.2.1 [] r1.2.2.2.1 r1.2.2.2.2)]) fun r2=>
 c5 k (ac line) fun r3=>
 c5 k (ac a) fun r4=>
 aa k (Ap k sys) fun r5=>
 c5 k (Tm.mk r5.1 r5.2.1 r5.2.2.1 [] r5.2.2.2.1 r5.2.2.2.2) fun r6=>
 aa k (Gz k (ac r3) r2) fun r7=>
 aa k (fW k 14 [(ac r3),(ac r4)]) fun r8=>
 aa k (fW k 15 [(ac r7.1),(Tm.mk r8.1 r8.2.1 r8.2.2.1 [] r8.2.2.2 [])]) fun r9=>
 J0 r3 r9 r6 r7.2 ([]:List (Br Tm)) 0
noncomputable def Gw {S:Type} (k:Nat) (line a:Tm) (sys:List (Br Tm)) (ret:Tm×Int→Option S):Option S:=Pa k ret (fun r3 r9 r6 b19000_0 b9_5 v38=>BQ k ret r3 r9 r6 k b19000_0 b9_5 v38) line a sys
def aiu {S:Type} (k:Nat) (ret:Tm×Int→Option S) (line a:Tm) (sys:List (Br Tm)) (c0:Int):Option S:=
 aa k (dA k c0) fun r1=>
 ab (!r1) (
 ret ((Tm.mk 0 0 ByteArray.empty [] [] []),c0)) (
 aa k (Gw k (ac line) (ac a) sys) fun r2=>
 aa k (d2 k (ac r2.1) r2.2 c0) fun r3=>
 ret ((ac r3.1),r3.2))
noncomputable def vn {S:Type} (k:Nat) (line a:Tm) (sys:List (Br Tm)) (c0:Int) (ret:Tm×Int→Option S):Option S:=aiu k ret line a sys c0
end
end Go.Proofs.YtgajalidbabccaaGreatDoor
