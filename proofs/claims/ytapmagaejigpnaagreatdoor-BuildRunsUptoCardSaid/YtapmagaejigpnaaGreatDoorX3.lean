/- Part 3 of a proof: the sources, with their names and remarks, lie in wip/. -/
import Derived.Test.YtapmagaejigpnaaGreatDoorX2
import Derived.LoopN
import Derived.Recover
import Derived.Orders
import Derived.Test.YtapmagaejigpnaaGreatDoorProg
import Derived.KernelRfl
namespace Go.Proofs.YtapmagaejigpnaaGreatDoor.PI
open Go
set_option linter.unusedVariables false
set_option linter.unusedSimpArgs false
section
variable {U:Uni} {V:Env U} {P:Program} {X:Link V P} {K:bQ U} {S:Side U} {c:Ctx} {ops:Array Oper} {σ0 σ1:St U}
theorem qC {o:Oper} {y:Tmp×Nat} (h:qB V S σ0 σ1 o=some y): ∃t z,o.op= .alloc t∧o.dst=some y.1∧o.guard=none∧V.zero t=some z∧y.2=S.boxId y.1∧σ0.b y.2=none∧σ1.b y.2=none∧ ∀e∈o.after.toList,Region.binds .any e=false:=by
 unfold qB at h
 split at h
 case h_2=>cases h
 rename_i t d h1 h2 h3
 cases hb:((V.zero t).isSome&&((σ0.b (S.boxId d)).isNone&&((σ1.b (S.boxId d)).isNone&&(o.after.toList.all fun e=> !Region.binds .any e)))) with
 |false=>rw [hb] at h;cases h
 |true=>
 rw [hb] at h
 injection h with h
 subst h
 simp only [Bool.and_eq_true,Option.isNone_iff_eq_none] at hb
 obtain ⟨a,b,c,d'⟩:=hb
 obtain ⟨z,hz⟩:=Option.isSome_iff_exists.1 a
 exact ⟨t,z,h1,h2,h3,hz,rfl,b,c,fun e he=>by have:=List.all_eq_true.1 d' e he;simpa using this⟩
theorem abj {f g:List Loc}:cD f g=cD g f:=by
 have: ∀x y:Loc,x.meets y=y.meets x:=by
  intro x y
  cases x<;>cases y<;>simp only [Loc.meets]<;>(rename_i a b;cases h:Nat.beq a b<;>cases h2:Nat.beq b a<;>simp_all)
 have key:(f.any fun x=>g.any fun y=>x.meets y)=(g.any fun x=>f.any fun y=>x.meets y):=by
  rw [Bool.eq_iff_iff]
  simp only [List.any_eq_true]
  constructor
  ·rintro ⟨x,hx,y,hy,h⟩;exact ⟨y,hy,x,hx,by rw [this];exact h⟩
  ·rintro ⟨x,hx,y,hy,h⟩;exact ⟨y,hy,x,hx,by rw [this];exact h⟩
 unfold cD
 rw [key]
theorem Ww {bf:List Nat} {j:Nat}: ∀ (l:List Oper) (i:Nat) (fps:List (List Loc)) (ll:List (Nat×List Loc)),ops.toList.drop i=l→nr V S σ0 σ1 bf j i l fps=some ll→
  (∀x∈ll,i≤x.1∧x.1<ops.size∧ ∃o y,ops[x.1]? =some o∧qB V S σ0 σ1 o=some y∧x.2=gK y)∧(ll.map (·.1)).Pairwise (· < ·)∧(∀x∈ll,∀f∈fps,cD f x.2=true)∧ll.Pairwise (fun x y=>cD x.2 y.2=true)∧
  ∀k,i≤k→k<ops.size→k∉ll.map (·.1)→(bf.getD k 0).testBit j=true:=by
 intro l
 induction l with
 |nil=>
  intro i fps ll hd h
  simp only [nr] at h
  injection h with h
  subst h
  refine ⟨by simp,by simp,by simp,by simp,fun k hk hk2 _=> ?_⟩
  exfalso
  have:=congrArg List.length hd
  simp at this;omega
 |cons o l ih=>
  intro i fps ll hd h
  have hi:ops[i]? =some o:=by
   have:=congrArg (·[0]?) hd
   simpa using this
  have his:i<ops.size:=(Array.getElem?_eq_some_iff.1 hi).1
  have hd':ops.toList.drop (i+1)=l:=by rw [←List.drop_drop,hd];rfl
  simp only [nr] at h
  cases hb:(bf.getD i 0).testBit j with
  |true=>
   rw [hb] at h
   obtain ⟨a,b,c,d,e⟩:=ih (i+1) fps ll hd' h
   refine ⟨fun x hx=>by obtain ⟨p,q⟩:=a x hx;exact ⟨by omega,q⟩,b,c,d,fun k hk hk2 hkn=> ?_⟩
   by_cases hki:k=i
   ·rw [hki];exact hb
   ·exact e k (by omega) hk2 hkn
  |false=>
   rw [hb] at h
   simp only [cond_false] at h
   split at h
   case h_2=>cases h
   rename_i y hy
   cases hap:fps.all (fun f=>cD f (gK y)) with
   |false=>rw [hap] at h;cases h
   |true=>
   rw [hap] at h
   simp only [cond_true] at h
   split at h
   case h_2=>cases h
   rename_i l' hl'
   injection h with h
   subst h
   obtain ⟨a,b,c,d,e⟩:=ih (i+1) (gK y::fps) l' hd' hl'
   refine ⟨fun x hx=> ?_, ?_,fun x hx f hf=> ?_, ?_,fun k hk hk2 hkn=> ?_⟩
   ·rcases List.mem_cons.1 hx with rfl|hx
    ·exact ⟨Nat.le_refl _,his,o,y,hi,hy,rfl⟩
    ·obtain ⟨p,q⟩:=a x hx;exact ⟨by omega,q⟩
   ·simp only [List.map_cons,List.pairwise_cons]
    refine ⟨fun k hk=> ?_,b⟩
    obtain ⟨x,hx,rfl⟩:=List.mem_map.1 hk
    have:=(a x hx).1
    omega
   ·rcases List.mem_cons.1 hx with rfl|hx
    ·exact List.all_eq_true.1 hap f hf
    ·exact c x hx f (by simp [hf])
   ·simp only [List.pairwise_cons]
    exact ⟨fun x hx=>c x hx _ (by simp),d⟩
   ·simp only [List.map_cons,List.mem_cons,not_or] at hkn
    exact e k (by omega) hk2 hkn.2
theorem Wv: ∀ (ll:List (Nat×List Loc)) (σ:St U),(∀x∈ll,∃o y,ops[x.1]? =some o∧qB V S σ0 σ1 o=some y∧x.2=gK y∧σ.b y.2=none)→ll.Pairwise (fun x y=>cD x.2 y.2=true)→
  ∃σe,SeqR V K S ops (ll.map fun x=>(x.1,x.2,.done)) σ σe:=by
 intro ll
 induction ll with
 |nil=>intro σ _ _;exact ⟨σ,St.eqv.refl _⟩
 |cons x ll ih=>
  intro σ h hp
  obtain ⟨o,y,ho,hy,hx,hb⟩:=h x (by simp)
  obtain ⟨t,z,h1,h2,h3,h4,h5,_⟩:=qC hy
  simp only [List.pairwise_cons] at hp
  obtain ⟨σe,he⟩:=ih ((σ.setB y.2 (.cells z)).setR y.1 (.ptr y.2 0)) (fun x' hx'=>by
   obtain ⟨o',y',a,b,c,d⟩:=h x' (by simp [hx'])
   refine ⟨o',y',a,b,c, ?_⟩
   have hne:y.2≠y'.2:=by
    intro e
    have:=hp.1 x' hx'
    rw [hx,c] at this
    simp [cD,gK,Loc.meets,e] at this
   simp [hne,d]) hp.2
  refine ⟨σe,o,_,ho, ?_,he⟩
  unfold gM
  rw [h3]
  simp only
  unfold bh
  rw [h1]
  simp only [h2,h4,←h5,M.Rel,hb]
  exact ⟨trivial,trivial,by rw [hx];rfl⟩
theorem Ff {y:Tmp×Nat} (h:σ0.b y.2=none):PI.harmless σ0 (gK y)=true:=by
 simp [PI.harmless,gK,h]
theorem Yl {fs:List (List Loc)} {f:List Loc} {o:Oper} {σ σa σ' σ'':St U} {v:PV U} (ho:ops[fs.length]? =some o) (hseq:SeqRel V K S ops ((List.range' 0 fs.length).zip fs) σ σa) (hj:(gM V S o (fi ops.toList)).Rel K σa [] (.raise v) σ' f) (he:σ'.eqv σ'')
  (hf:rC V S ops.toList σ σ'' (fs++[f])=true): ∃L σe,Raises ops σ L fs.length v∧SeqR V K S ops L σ σe∧Alike σ σ'' σe∧fL 0 ops.toList=true∧fs.length∈L.map (·.1)∧L.length≤ops.size:=by
 unfold rC at hf
 simp only [Bool.and_eq_true,List.length_append,List.length_singleton,Nat.add_sub_cancel] at hf
 obtain ⟨hfor,hfree,hharm,hlate⟩:=hf
 obtain ⟨ll,hll⟩:=Option.isSome_iff_exists.1 hlate
 obtain ⟨a,b,cc,d,e⟩:=Ww (ops:=ops) _ _ _ ll rfl hll
 have hjs:fs.length<ops.size:=(Array.getElem?_eq_some_iff.1 ho).1
 obtain ⟨σe,hse⟩:=Wv (K:=K) (V:=V) (S:=S) (ops:=ops) (σ0:=σ) (σ1:=σ'') ll σ' (fun x hx=>by
  obtain ⟨_,_,o',y,h1,h2,h3⟩:=a x hx
  obtain ⟨_,_,_,_,_,_,_,_,h4,_⟩:=qC h2
  exact ⟨o',y,h1,h2,h3,(he.b _).trans h4⟩) d
 generalize hEx:(List.range' 0 fs.length).zip fs=ex at hseq
 have hex:ex.map (·.1)=List.range' 0 fs.length:=by rw [←hEx];exact List.map_fst_zip (by simp)
 have hexm: ∀x∈ex,x.1<fs.length∧fs[x.1]? =some x.2:=by
  intro x hx
  rw [←hEx] at hx
  obtain ⟨i,hi⟩:=List.mem_iff_getElem?.1 hx
  rw [List.getElem?_zip_eq_some] at hi
  obtain ⟨h1,h2⟩:=hi
  have hil:i<fs.length:=(List.getElem?_eq_some_iff.1 h2).1
  have h3:(List.range' 0 fs.length)[i]? =some i:=by simp [hil]
  rw [h3] at h1
  injection h1 with h1
  rw [←h1];exact ⟨hil,h2⟩
 let L:List (Nat×List Loc×MR U):=(ex.map fun x=>(x.1,x.2,MR.done))++((fs.length,f,MR.raise v)::ll.map fun x=>(x.1,x.2,MR.done))
 have hLm:L.map (·.1)=List.range' 0 (fs.length+1)++ll.map (·.1):=by
  simp only [L,List.map_append,List.map_map,List.map_cons]
  have:(fun x:Nat×List Loc×MR U=>x.1)∘(fun x:Nat×List Loc=>(x.1,x.2,(MR.done:MR U)))=fun x=>x.1:=rfl
  rw [this,hex,List.range'_concat]
  simp
 have hinc:(L.map (·.1)).Pairwise (· < ·):=by
  rw [hLm,List.pairwise_append]
  refine ⟨List.pairwise_lt_range',b,fun x hx y hy=> ?_⟩
  obtain ⟨z,hz,rfl⟩:=List.mem_map.1 hy
  have h1:=(a z hz).1
  have h2:x<fs.length+1:=by
   rw [List.mem_range'] at hx
   obtain ⟨i,hi,rfl⟩:=hx;omega
  omega
 have cases3: ∀x∈L,(∃y∈ex,x=(y.1,y.2,.done))∨x=(fs.length,f,.raise v)∨ ∃y∈ll,x=(y.1,y.2,.done):=by
  intro x hx
  simp only [L,List.mem_append,List.mem_map,List.mem_cons] at hx
  rcases hx with ⟨y,hy,rfl⟩|rfl|⟨y,hy,rfl⟩
  ·exact .inl ⟨y,hy,rfl⟩
  ·exact .inr (.inl rfl)
  ·exact .inr (.inr ⟨y,hy,rfl⟩)
 have hLlt: ∀x∈L,x.1<ops.size:=by
  intro x hx
  rcases cases3 x hx with ⟨y,hy,rfl⟩|rfl|⟨y,hy,rfl⟩
  ·have:=(hexm y hy).1;simp only;omega
  ·exact hjs
  ·exact (a y hy).2.1
 have hfps: ∀x∈ex,x.2∈fs++[f]:=fun x hx=>by
  have:=List.mem_of_getElem? (hexm x hx).2
  simp [this]
 refine ⟨L,σe,⟨hinc.imp Nat.ne_of_lt,hLlt, ?_, ?_, ?_, ?_, ?_, ?_⟩, ?_, ?_,hfor, ?_, ?_⟩
 ·
  simp only [L,List.pairwise_append,List.pairwise_cons]
  have fo: ∀p q g h,p<q→(fs++[f])[p]? =some g→(fs++[f])[q]? =some h→((dc ops.toList []).getD q 0).testBit p=true∨cD g h=true:=fun p q g h hpq hp hq=>
   Ev _ (fs++[f]) 0 [] rfl hfree p q g h hpq (by simpa using hp) (by simpa using hq) (by simp)
  refine ⟨?_,⟨fun y hy=> ?_, ?_⟩,fun x hx y hy=> ?_⟩
  ·have h1:ex.Pairwise fun x y=>x.1<y.1:=by
    have:(ex.map (·.1)).Pairwise (· < ·):=by rw [hex];exact List.pairwise_lt_range'
    exact List.pairwise_map.1 this
   rw [List.pairwise_map]
   refine (List.Pairwise.and_mem.1 h1).imp fun {x y} h=> ?_
   obtain ⟨hx,hy,hlt⟩:=h
   exact fo x.1 y.1 x.2 y.2 hlt (by rw [List.getElem?_append_left (hexm x hx).1];exact (hexm x hx).2) (by rw [List.getElem?_append_left (hexm y hy).1];exact (hexm y hy).2)
  ·obtain ⟨z,hz,rfl⟩:=List.mem_map.1 hy
   exact .inr (cc z hz f (by simp))
  ·rw [List.pairwise_map]
   exact d.imp fun h=> .inr h
  ·obtain ⟨x',hx',rfl⟩:=List.mem_map.1 hx
   rcases List.mem_cons.1 hy with rfl|hy
   ·exact fo x'.1 fs.length x'.2 f (hexm x' hx').1 (by rw [List.getElem?_append_left (hexm x' hx').1];exact (hexm x' hx').2) (by simp)
   ·obtain ⟨z,hz,rfl⟩:=List.mem_map.1 hy
    exact .inr (cc z hz x'.2 (hfps x' hx'))
 ·
  intro pre x post hpp o' ho' ed hed hb
  have hxL:x∈L:=by rw [hpp];simp
  have hk:x.1≤fs.length∨fs.length<x.1:=by omega
  rcases hk with hk|hk
  ·have hlt:=zb ops.toList 0 x.1 _ hfor (by simpa using ho') ed hed hb
   rw [Nat.zero_add] at hlt
   have hin:ed.on∈L.map (·.1):=by
    rw [hLm]
    refine List.mem_append.2 (.inl ?_)
    rw [List.mem_range']
    exact ⟨ed.on,by omega,by omega⟩
   rw [hpp,List.map_append,List.map_cons] at hin hinc
   rcases List.mem_append.1 hin with h|h
   ·exact h
   ·exfalso
    rw [List.pairwise_append,List.pairwise_cons] at hinc
    rcases List.mem_cons.1 h with h|h
    ·omega
    ·have:=hinc.2.1.1 ed.on h;omega
  ·exfalso
   rcases cases3 x hxL with ⟨y,hy,rfl⟩|rfl|⟨y,hy,rfl⟩
   ·have:=(hexm y hy).1;simp only at hk;omega
   ·simp at hk
   ·obtain ⟨_,_,o2,y2,h1,h2,_⟩:=a y hy
    simp only at ho'
    rw [h1] at ho'
    injection ho' with ho'
    subst ho'
    obtain ⟨_,_,_,_,_,_,_,_,_,h3⟩:=qC h2
    rw [h3 ed hed] at hb;cases hb
 ·intro x hx hne
  rcases cases3 x hx with ⟨y,hy,rfl⟩|rfl|⟨y,hy,rfl⟩
  ·rfl
  ·exact absurd rfl hne
  ·rfl
 ·intro x hx heq
  rcases cases3 x hx with ⟨y,hy,rfl⟩|rfl|⟨y,hy,rfl⟩
  ·have:=(hexm y hy).1;simp only at heq;omega
  ·rfl
  ·have:=(a y hy).1;simp only at heq;omega
 ·intro x hx hne
  rcases cases3 x hx with ⟨y,hy,rfl⟩|rfl|⟨y,hy,rfl⟩
  ·have:=Q1 _ _ hharm y.1 (by omega) (by have:=(hexm y hy).1;omega)
   simp only [Bool.or_eq_true] at this
   rcases this with h|h
   ·exact .inl h
   ·refine .inr ?_
    rw [List.getD_eq_getElem?_getD,List.getElem?_append_left (hexm y hy).1,(hexm y hy).2] at h
    exact h
  ·exact absurd rfl hne
  ·obtain ⟨_,_,o2,y2,h1,h2,h3⟩:=a y hy
   obtain ⟨_,_,_,_,_,_,_,h4,_⟩:=qC h2
   refine .inr ?_
   simp only [h3]
   exact Ff h4
 ·intro i hi hn
  rw [hLm,List.mem_append,not_or] at hn
  refine e i ?_ hi hn.2
  have: ¬i<fs.length+1:=fun h=>hn.1 (by rw [List.mem_range'];exact ⟨i,h,by omega⟩)
  omega
 ·exact SeqR.append (SeqR.ofSeq hseq) ⟨o,σ',ho,hj,hse⟩
 ·have hh:=SeqR.harmless (σ0:=σ) _ hse (fun x hx=>by
   obtain ⟨y,hy,rfl⟩:=List.mem_map.1 hx
   obtain ⟨_,_,o2,y2,h1,h2,h3⟩:=a y hy
   obtain ⟨_,_,_,_,_,_,_,h4,_⟩:=qC h2
   simp only [h3]
   exact Ff h4)
  exact ⟨fun id hid=>(hh.b id hid).trans (he.b id),fun i=>(hh.o i).trans (he.o i),fun i=>(hh.u i).trans (he.u i)⟩
 ·rw [hLm]
  refine List.mem_append.2 (.inl ?_)
  rw [List.mem_range']
  exact ⟨fs.length,by omega,by omega⟩
 ·have h1:(L.map (·.1)).length≤(List.range ops.size).length:=by
   have hnd:(L.map (·.1)).Nodup:=hinc.imp Nat.ne_of_lt
   refine List.Nodup.length_le_of_subset hnd fun i hi=> ?_
   obtain ⟨x,hx,rfl⟩:=List.mem_map.1 hi
   exact List.mem_range.2 (hLlt x hx)
  simpa using h1
theorem Yw {σ τ:St U} (ho:σ.o=τ.o) (hu:σ.u=τ.u) (t:Option (Nat×Bool)) (v:PV U) (K:Kept U):jX σ t v K=jX τ t v K:=by
 unfold jX
 rw [ho,hu]
theorem Rr {σ τ:St U} (ho:σ.o=τ.o) (hu:σ.u=τ.u): ∀ (ts:List (Option (Nat×Bool))) (vs:List (PV U)) (K:Kept U),gk σ ts vs K=gk τ ts vs K:=by
 intro ts
 induction ts with
 |nil=>intro vs K;cases vs<;>rfl
 |cons t ts ih=>
  intro vs K
  cases vs with
  |nil=>rfl
  |cons v vs=>simp only [gk,Yw ho hu,ih]
theorem Rp {σ τ:St U} (ho:σ.o=τ.o) (hu:σ.u=τ.u): ∀ (l:List (Nat×List (Option (Nat×Bool)))) (K:Kept U),(∀x∈l,σ.b x.1=τ.b x.1)→eG σ l K=eG τ l K:=by
 intro l
 induction l with
 |nil=>intro K _;rfl
 |cons x l ih=>
  obtain ⟨n,ts⟩:=x
  intro K h
  have h1:=h (n,ts) (by simp)
  simp only at h1
  have h2: ∀K,eG σ l K=eG τ l K:=fun K=>ih K fun x hx=>h x (by simp [hx])
  simp only [eG,h1,Rr ho hu,h2]
theorem WW: ∀ (l:List Nat) (n:Nat),n∈mo l→n∈l:=by
 intro l
 induction l with
 |nil=>intro n h;exact h
 |cons m l ih=>
  intro n h
  simp only [mo] at h
  cases hb:l.any (Nat.beq m) with
  |true=>rw [hb] at h;simp [ih n h]
  |false=>
   rw [hb] at h
   rcases List.mem_cons.1 h with rfl|h
   ·simp
   ·simp [ih n h]
theorem WN {α:Type}: ∀ (l:List (Nat×α)) (n:Nat),n∈l.map (·.1)→(bP l n).isSome=true:=by
 intro l
 induction l with
 |nil=>intro n h;cases h
 |cons x l ih=>
  obtain ⟨m,v⟩:=x
  intro n h
  rw [fY]
  by_cases hm:m=n
  ·rw [if_pos hm];rfl
  ·rw [if_neg hm]
   refine ih n ?_
   simp only [List.map_cons,List.mem_cons] at h
   exact h.resolve_left (Ne.symm hm)
theorem Du {σ0 σ τ:St U} (h:Alike σ0 σ τ):dr (gf σ0 τ) τ=dr (gf σ0 σ) σ:=by
 have hkeys: ∀id∈mo (σ0.box.map (·.1)),τ.b id=σ.b id:=fun id hid=>h.b id (WN _ _ (WW _ _ hid))
 have hA:gf σ0 τ=gf σ0 σ:=by
  unfold gf
  congr 1
  exact List.map_congr_left fun id hid=>by rw [hkeys id hid]
 rw [hA]
 have hB: ∀K,eG τ (gf σ0 σ).boxes K=eG σ (gf σ0 σ).boxes K:=fun K=>Rp (funext h.o) (funext h.u) _ K fun x hx=>by
  obtain ⟨id,hid,rfl⟩:=List.mem_map.1 hx
  exact hkeys id hid
 unfold dr
 simp only [gf,lU] at hB ⊢
 rw [hB]
end
end Go.Proofs.YtapmagaejigpnaaGreatDoor.PI
namespace Go.Proofs.YtapmagaejigpnaaGreatDoor.PI
open Go
set_option linter.unusedVariables false
set_option linter.unusedSimpArgs false
section
variable {U:Uni} {V:Env U} {P:Program} {X:Link V P} {K:bQ U} {S:Side U} {c:Ctx} {ann:Nat→Option Ann}
theorem Lands.eqv {ds:List Deferred} {e:Ex U} {σ σ':St U} {Q:Exit→Act→World→Prop} (h:Lands X c ds e σ Q) (he:σ'.eqv σ):Lands X c ds e σ' Q:=
 fun a w g D hd hs=>h a w g D hd (hs.eqv he)
def sb (X:Link V P) (c:Ctx):Option Ann→Code→St U→Ex U→St U→Prop
 |none,code,σ,e,σ'=> ∀ (a:Act) (w:World) (g:Gh U) (D:Nat→Option Nat) (Q:Exit→Act→World→Prop),Sim X c a.tmps w σ g D→Lands X c a.defers e σ' Q→code.wp P Q a w
 |some A,code,σ,e,σ'=> ∃n,∀ (a:Act) (w:World) (g:Gh U) (D:Nat→Option Nat) (Q:Exit→Act→World→Prop),Sim X c a.tmps w σ g D→Lands X c a.defers e σ' Q→Code.rounds P code Q n a w
theorem Mk {next:Act→World→Prop} {Q:Exit→Act→World→Prop} {ds:List Deferred} {e:Ex U} {σ':St U} (h:Lands X c ds e σ' Q) (he:e≠ .normal):Lands X c ds e σ' (Exit.then next Q):=by
 intro a w g D hd hs
 have:=h a w g D hd hs
 cases e with
 |normal=>exact absurd rfl he
 |exit id=>exact this
 |ret=>exact this
 |panic v=>exact this
theorem T_ {Q:Exit→Act→World→Prop} {ds:List Deferred} {e:Ex U} {σ':St U} {id:Nat} (h:Lands X c ds e σ' Q) (he:e≠ .exit id):Lands X c ds e σ' (Exit.inBlock id Q):=by
 intro a w g D hd hs
 have:=h a w g D hd hs
 cases e with
 |normal=>exact this
 |exit j=>
  have hj:j≠id:=fun h=>he (by rw [h])
  simp only [Exit.inBlock,hj,if_false]
  exact this
 |ret=>exact this
 |panic v=>exact this
theorem lQ (hm:P.follows .mixedOrders=true) (hS:kj X K S c) (hnt:c.nt=S.nt) {o:Option Ann} {code:Code} {σ:St U} {e:Ex U} {σ':St U} (h:Big K V S ann o code σ e σ'):sb X c o code σ e σ':=by
 induction h with
 |skip σ=>exact fun a w g D Q hs hl=>Go.wp_skip (hl a w g D rfl hs)
 |label l σ=>exact fun a w g D Q hs hl=>wp_label (hl a w g D rfl hs)
 |region id ops draw σ e σ' fps hd h hf=>
  intro a w g D Q hs hl
  rw [←hnt] at hd
  cases draw with
  |false=>
   refine wp_region ?_
   rw [List.range_eq_range']
   have:=MI (Q:=Q) hS ops.toList 0 a w σ g D fps (by simp) hd hs h hl
   simpa using this
  |true=>
   obtain ⟨rfl,hfor,hfree⟩:=hf rfl
   refine wp_region_any hm ?_
   obtain ⟨hlen,hseq⟩:=ZY ops.toList 0 σ σ' fps (by simp) h
   have hlen':fps.length=ops.size:=by simpa using hlen
   refine aa8 hS hd hfor hfree hl ops.size _ ((List.range' 0 ops.toList.length).zip fps) a _ σ g D (by simp [hlen']) ⟨by simp, ?_,fun x hx=> ?_,fun k o hk=> ?_⟩ rfl hs.drew hseq
   ·have h1:((List.range' 0 ops.toList.length).zip fps).map (·.1)=List.range' 0 ops.toList.length:=List.map_fst_zip (by simp [hlen'])
    rw [h1,List.filter_eq_self.2,List.range_eq_range']
    ·simp
    ·intro i hi
     have hi':i<ops.size:=List.mem_range.1 hi
     simp [Array.getD_eq_getD_getElem?,hi']
   ·obtain ⟨i,hi⟩:=List.mem_iff_getElem?.1 hx
    rw [List.getElem?_zip_eq_some] at hi
    obtain ⟨h1,h2⟩:=hi
    have hil:i<ops.size:=by have:=(List.getElem?_eq_some_iff.1 h2).1;omega
    have h3:(List.range' 0 ops.toList.length)[i]? =some i:=by simp [hil]
    rw [h3] at h1
    injection h1 with h1
    rw [←h1];exact h2
   ·exfalso
    have:(Array.replicate ops.size false).getD k false=false:=by
     rw [Array.getD_eq_getD_getElem?,Array.getElem?_replicate]
     split<;>rfl
    dsimp only at hk
    rw [this] at hk;cases hk
 |regionP id ops σ v σ' σ'' τ fps hd h he hv hf hc=>
  intro a w g D Q hs hl
  rw [←hnt] at hd
  obtain ⟨fs,f,o,σ1,hfps,ho,hseq,hj⟩:=ZZ (ops:=ops) ops.toList 0 σ σ' fps v (by simp) h
  subst hfps
  rw [Nat.zero_add] at ho
  obtain ⟨L,σe,hR,hsq,hal,hfor,hjL,hlen⟩:=Yl ho hseq hj he hf
  refine wp_region_any hm ?_
  have hjs:fs.length<ops.size:=(Array.getElem?_eq_some_iff.1 ho).1
  have hrep: ∀i d,(Array.replicate ops.size false).getD i d=(if i<ops.size then false else d):=by
   intro i d
   rw [Array.getD_eq_getD_getElem?,Array.getElem?_replicate]
   split<;>rfl
  have hwp:=aa9 (v:=v) hS hd hfor hR (ds:=a.defers) (Q:=Q) (fun a' w' g' D' τ' hdf hs' hal' val hval=>by
    have hc2:dr (gf σ τ') τ'=some τ:=by rw [←Du hal',Du hal];exact hc
    obtain ⟨g2,D2,hs2⟩:=tG hs' hc2
    refine hl a' w' g2 D2 hdf hs2 val ?_
    cases v with
    |iface t p=>
     cases p with
     |int k n=>cases hval with
      |iface _ u _ hu=>cases hu;exact .iface _ _ _ (.int _ _)
     |_=>cases hv
    |_=>cases hv) L.length (Array.replicate ops.size false) L a _ σ g D rfl (by simp) ?_ (fun i hi _=>by rw [hrep,if_pos hi]) (by rw [hrep,if_pos hjs]) hjL (fun k o' hk=> ?_) rfl hs.drew hsq
  ·rw [show L.length+(ops.size-L.length)=ops.size by omega] at hwp
   exact hwp
  ·rw [List.filter_eq_self.2]
   intro x hx
   rw [hrep,if_pos (hR.lt x hx)];rfl
  ·exfalso
   dsimp only at hk
   rw [hrep] at hk
   split at hk<;>cases hk
 |seqN x y σ σ1 e σ' h1 h2 i1 i2=>
  intro a w g D Q hs hl
  exact wp_seq (i1 a w g D _ hs fun a' w' g' D' hd hs'=>i2 a' w' g' D' Q hs' (by rw [hd];exact hl))
 |seqJ x y A σ σ1 τ e σ' h1 hA hc h2 i1 i2=>
  intro a w g D Q hs hl
  refine wp_seq (i1 a w g D _ hs fun a' w' g' D' hd hs'=> ?_)
  obtain ⟨g2,D2,hs2⟩:=tG hs' hc
  exact i2 a' w' g2 D2 Q hs2 (by rw [hd];exact hl)
 |seqE x y σ e σ' h1 he i1=>exact fun a w g D Q hs hl=>wp_seq (i1 a w g D _ hs (Mk hl he))
 |cond j x y σ t e σ' hj h ih=>
  intro a w g D Q hs hl
  have hR:=hs.regs j
  rw [hj] at hR
  refine wp_cond (t:=t) (iJ hR) ?_
  cases t with
  |true=>exact ih a w g D Q hs hl
  |false=>exact ih a w g D Q hs hl
 |blockIn id x σ σ' h ih=>
  intro a w g D Q hs hl
  refine wp_block (ih a w g D _ hs fun a' w' g' D' hd hs'=> ?_)
  simp only [Exit.inBlock,if_true]
  exact hl a' w' g' D' hd hs'
 |blockOut id x σ e σ' h he ih=>exact fun a w g D Q hs hl=>wp_block (ih a w g D _ hs (T_ hl he))
 |loop x A σ τ e σ' hA hc h ih=>
  intro a w g D Q hs hl
  obtain ⟨n,hn⟩:=ih
  obtain ⟨g',D',hs'⟩:=tG hs hc
  exact wp_loop_rounds n (hn a w g' D' Q hs' hl)
 |exit id σ=>exact fun a w g D Q hs hl=>wp_exit (hl a w g D rfl hs)
 |ret σ=>exact fun a w g D Q hs hl=>wp_ret (hl a w g D rfl hs)
 |round x A σ σ1 τ e σ' h hc h' i1 i2=>
  obtain ⟨n,hn⟩:=i2
  refine ⟨n+1,fun a w g D Q hs hl=> ?_⟩
  rw [rounds_succ]
  refine i1 a w g D _ hs fun a' w' g' D' hd hs'=> ?_
  obtain ⟨g2,D2,hs2⟩:=tG hs' hc
  exact hn a' w' g2 D2 Q hs2 (by rw [hd];exact hl)
 |leave x A σ e σ' h he i1=>
  refine ⟨1,fun a w g D Q hs hl=> ?_⟩
  rw [rounds_succ]
  exact i1 a w g D _ hs (Mk hl he)
 |pre o x σ0 σ e σ' he h ih=>
  cases o with
  |none=>exact fun a w g D Q hs hl=>ih a w g D Q (hs.eqv he) hl
  |some A=>obtain ⟨n,hn⟩:=ih;exact ⟨n,fun a w g D Q hs hl=>hn a w g D Q (hs.eqv he) hl⟩
 |post o x σ e σ1 σ' he h ih=>
  cases o with
  |none=>exact fun a w g D Q hs hl=>ih a w g D Q hs (hl.eqv he)
  |some A=>obtain ⟨n,hn⟩:=ih;exact ⟨n,fun a w g D Q hs hl=>hn a w g D Q hs (hl.eqv he)⟩
end
end Go.Proofs.YtapmagaejigpnaaGreatDoor.PI
namespace Go.Proofs.YtapmagaejigpnaaGreatDoor.PI
open Go
set_option linter.unusedVariables false
section
variable {U:Uni} {V:Env U} {P:Program} {X:Link V P} {S:Side U} {c:Ctx}
theorem lq (hI:iY X) (hS:S.rcv=none) (hP:PinOK S c):kj X (b9 X) S c:=by
 intro o a w σ g D r τ fp gp next Q hd h hr ht
 obtain ⟨dst,op,ty,pos,after,gd⟩:=o
 cases op with
 |move x=>exact Xw hd h hr ht
 |assign x=>exact Xd hd h hr ht
 |pick x y z=>exact Xz hd h hr ht
 |alloc t=>exact Xc hP hd h hr ht
 |box t x=>exact Xf hP hd h hr ht
 |build t ps=>exact Xg hd h hr ht
 |buildSlice t n ps=>exact Xh hd h hr ht
 |load t x=>exact Xq hd h hr ht
 |store t x y=>exact XB h hr ht
 |nilCheck x=>exact Xx hd h hr ht
 |binOp b t x y u=>exact Xe hd h hr ht
 |unOp u t x=>exact XD hd h hr ht
 |convert s t x=>exact Xk hd h hr ht
 |makeFunc f xs ys=>cases f with
  |func f=>exact Xs hd h hr ht
  |_=>exact hr.elim
 |makeInterface t x=>exact Xt hd h hr ht
 |typeAssert x s t ok=>cases ok with
  |true=>exact XC hd h hr ht
  |false=>exact hr.elim
 |makeMap t x=>cases x with
  |none=>exact Xu hd h hr ht
  |some x=>exact hr.elim
 |lookup t m x ok=>exact Xr hd h hr ht
 |mapUpdate t m x y=>exact Xv h hr ht
 |slice t x lo hi mx=>exact XA hd h hr ht
 |fieldAddr s x f=>exact Xn hd h hr ht
 |field s x f=>exact Xm hd h hr ht
 |indexAddr t x i=>exact Xp hd h hr ht
 |index t x i=>exact Xo hd h hr ht
 |extract x i=>exact Xl hd h hr ht
 |panic x=>exact Xy h hr ht
 |call cl=>
  cases hc:cl.callee with
  |builtin b=>
   by_cases hb:b= .recover
   ·subst hb
    obtain ⟨callee,args,ats⟩:=cl
    simp only at hc
    subst hc
    simp only [bh,hS] at hr
    exact hr.elim
   ·exact Xi hc hb hd h hr ht
  |value f=>exact Xj hI hc hd h hr ht
  |invoke x n=>
   obtain ⟨callee,args,ats⟩:=cl
   simp only at hc
   subst hc
   exact hr.elim
 |_=>exact hr.elim
end
end Go.Proofs.YtapmagaejigpnaaGreatDoor.PI
namespace Go.Proofs.YtapmagaejigpnaaGreatDoor.PI
open Go
set_option linter.unusedVariables false
set_option linter.unusedSimpArgs false
section
variable {U:Uni} {V:Env U} {P:Program} {X:Link V P}
theorem aag: ∀ (args:List (PV U)) (s n:Nat),bP (rS s args) n=if s≤n then (args[n-s]?).map (Ky n) else none:=by
 intro args
 induction args with
 |nil=>intro s n;simp [rS,bP]
 |cons p args ih=>
  intro s n
  simp only [rS,fY,ih]
  by_cases h:s=n
  ·subst h;simp
  ·rw [if_neg h]
   by_cases h2:s≤n
   ·rw [if_pos h2,if_pos (by omega)]
    obtain ⟨k,rfl⟩: ∃k,n=s+(k+1):=⟨n-s-1,by omega⟩
    rw [show s+(k+1)-(s+1)=k by omega,show s+(k+1)-s=k+1 by omega]
    simp
   ·rw [if_neg h2,if_neg (by omega)]
def eh (args:List (PV U)) (j:Nat):Option (Ob U):=match args[j]? with|some (.fresh e l)=>some ⟨0,e,l⟩|_=>none
theorem Kx: ∀ (args:List (PV U)) (s i:Nat),bP (fz s args) i=if 2000000+s≤i then eh args (i-2000000-s) else none:=by
 intro args
 induction args with
 |nil=>intro s i;simp [fz,bP,eh]
 |cons p args ih=>
  intro s i
  have tail:bP (fz (s+1) args) i=if 2000000+s≤i∧i≠2000000+s then eh (p::args) (i-2000000-s) else none:=by
   rw [ih]
   by_cases h:2000000+(s+1)≤i
   ·rw [if_pos h,if_pos ⟨by omega,by omega⟩]
    obtain ⟨k,rfl⟩: ∃k,i=2000000+s+(k+1):=⟨i-2000000-s-1,by omega⟩
    rw [show 2000000+s+(k+1)-2000000-(s+1)=k by omega,show 2000000+s+(k+1)-2000000-s=k+1 by omega]
    simp [eh]
   ·rw [if_neg h,if_neg (by omega)]
  have plain:p.notFresh=true→fz s (p::args)=fz (s+1) args:=by
   intro hp;cases p<;>first|rfl|cases hp
  by_cases hp:p.notFresh=true
  ·rw [plain hp,tail]
   by_cases h1:2000000+s≤i
   ·rw [if_pos h1]
    by_cases h2:i=2000000+s
    ·subst h2
     rw [if_neg (by omega)]
     have:2000000+s-2000000-s=0:=by omega
     rw [this]
     unfold eh
     simp only [List.getElem?_cons_zero]
     cases p<;>first|rfl|cases hp
    ·rw [if_pos ⟨h1,h2⟩]
   ·rw [if_neg h1,if_neg (by omega)]
  ·cases p with
   |fresh e l=>
    simp only [fz,fY,tail]
    by_cases h1:2000000+s=i
    ·subst h1
     rw [if_pos rfl,if_pos (Nat.le_refl _)]
     have:2000000+s-2000000-s=0:=by omega
     rw [this];rfl
    ·rw [if_neg h1]
     by_cases h2:2000000+s≤i
     ·rw [if_pos ⟨h2,Ne.symm h1⟩,if_pos h2]
     ·rw [if_neg (by omega),if_neg h2]
   |_=>exact absurd rfl hp
end
end Go.Proofs.YtapmagaejigpnaaGreatDoor.PI
namespace Go.Proofs.YtapmagaejigpnaaGreatDoor.PI
open Go
set_option linter.unusedVariables false
set_option linter.unusedSimpArgs false
section
variable {U:Uni} {V:Env U} {P:Program} {X:Link V P}
theorem abi {boxes:List (Box U)}: ∀ (n s id:Nat) (bs:List (Box U)),n=bs.length→bP ((bZ s n).zip bs) id=if s≤id then bs[id-s]? else none:=by
 intro n
 induction n with
 |zero=>intro s id bs h;have:bs=[]:=List.eq_nil_of_length_eq_zero h.symm;subst this;simp [bZ,bP]
 |succ n ih=>
  intro s id bs h
  cases bs with
  |nil=>simp at h
  |cons b bs=>
   simp only [bZ,List.zip_cons_cons,fY]
   rw [ih (s+1) id bs (by simpa using h)]
   by_cases h1:s=id
   ·subst h1;simp
   ·rw [if_neg h1]
    by_cases h2:s≤id
    ·rw [if_pos h2,if_pos (by omega)]
     obtain ⟨k,rfl⟩: ∃k,id=s+(k+1):=⟨id-s-1,by omega⟩
     rw [show s+(k+1)-(s+1)=k by omega,show s+(k+1)-s=k+1 by omega]
     simp
    ·rw [if_neg h2,if_neg (by omega)]
def d7 (n:Nat) (ν:Nat→Nat) (args:List (PV U)) (vs:Array Value):Gh U:=
 ⟨fun id=>if 1000000≤id∧id-1000000<n then some (ν (id-1000000)) else none,
  fun i=>if 2000000≤i then (eh args (i-2000000)).map (fun ob=>(0,ob.e,vs.getD (i-2000000) undef)) else none⟩
def j4 (args:List (PV U)) (δ:Nat→Option Nat):Nat→Option Nat:=fun i=>if 2000000≤i then (eh args (i-2000000)).bind fun _=>δ (i-2000000) else none
def eW (w:World) (N0:aA) (n m:Nat) (ν:Nat→Nat) (δ:Nat→Option Nat) (nt:Nat) (hnt:nt≤1000000) (h:Bnd w N0 n ν δ) (gl:List (Nat×Obj)) (hgl: ∀b o,(b,o)∈gl→w.heap[b]? =some o∧(∀i,i<n→ν i≠b)∧ ∀j,δ j≠some b):Ctx:=
 ⟨w,N0,lk n m ν δ,nt,fun b o hn=>⟨(h.n0 b o hn).1,fun hm=>by
  rcases List.mem_append.1 hm with hm|hm
  ·obtain ⟨k,hk,e⟩:=List.mem_map.1 hm
   exact (h.n0 b o hn).2.1 k (List.mem_range.1 hk) e
  ·obtain ⟨j,_,hj⟩:=List.mem_filterMap.1 hm
   exact (h.n0 b o hn).2.2 j hj⟩,
  fun id=>if 1000000≤id∧id-1000000<n then some (ν (id-1000000)) else none,fun id k h=>(by
  split at h
  ·rename_i h1;exact ⟨h1.1,Nat.le_trans hnt h1.1⟩
  ·cases h),
  gl,fun b o hb=>⟨(hgl b o hb).1,fun hm=>by
  rcases List.mem_append.1 hm with hm|hm
  ·obtain ⟨k,hk,e⟩:=List.mem_map.1 hm
   exact (hgl b o hb).2.1 k (List.mem_range.1 hk) e
  ·obtain ⟨j,_,hj⟩:=List.mem_filterMap.1 hm
   exact (hgl b o hb).2.2 j hj⟩⟩
structure CtxOf (c:Ctx) (w:World) (N0:aA) (n m:Nat) (ν:Nat→Nat) (δ:Nat→Option Nat):Prop where
 cw:c.w0=w
 cN:c.N0=N0
 bl:c.bl=lk n m ν δ
 fix: ∀i,i<n→c.fix (cG i)=some (ν i)
 other: ∀id k,c.fix id=some k→(∃i,i<n∧id=cG i)∨w.heap.size≤k
 bnd:Bnd w N0 n ν δ
theorem iV {w:World} {N0:aA} {n m nt:Nat} {ν:Nat→Nat} {δ:Nat→Option Nat} {hnt:nt≤1000000} {h:Bnd w N0 n ν δ} {gl:List (Nat×Obj)} {hgl: ∀b o,(b,o)∈gl→w.heap[b]? =some o∧(∀i,i<n→ν i≠b)∧ ∀j,δ j≠some b}:CtxOf (eW w N0 n m ν δ nt hnt h gl hgl) w N0 n m ν δ where
 cw:=rfl
 cN:=rfl
 bl:=rfl
 fix i hi:=by
  simp only [eW,cG]
  rw [if_pos ⟨by omega,by omega⟩,show 1000000+i-1000000=i by omega]
 other id k hk:=by
  simp only [eW] at hk
  split at hk
  ·rename_i h1;exact .inl ⟨id-1000000,h1.2,by simp [cG];omega⟩
  ·cases hk
 bnd:=h
variable {w:World} {vs:Array Value} {N0:aA} {ν:Nat→Nat} {δ:Nat→Option Nat} {args:List (PV U)} {boxes:List (Box U)}
theorem rR {i b:Nat} (h:j4 args δ i=some b):2000000≤i∧δ (i-2000000)=some b∧(eh args (i-2000000)).isSome=true:=by
 unfold j4 at h
 split at h
 ·rename_i hi
  cases hf:eh args (i-2000000) with
  |none=>rw [hf] at h;cases h
  |some ob=>rw [hf] at h;exact ⟨hi,h,rfl⟩
 ·cases h
theorem aah (hg:Given X w vs N0 ν δ args boxes) (nt:Nat) (hnt:nt≤1000000): ∀b o,((eW w N0 boxes.length args.length ν δ nt hnt hg.bnd X.gblk hg.glob).N (d7 boxes.length ν args vs) (j4 args δ)) b o→(NB N0 boxes.length ν δ) b o:=by
 rintro b o (hn|⟨id,hid⟩|⟨i,hi⟩)
 ·exact .inl hn
 ·simp only [d7] at hid
  split at hid
  ·rename_i h1
   injection hid with hid
   exact .inr (.inl ⟨_,h1.2,hid⟩)
  ·cases hid
 ·exact .inr (.inr ⟨_,(rR hi).2.1⟩)
theorem Kz (id:Nat):(fy args boxes).b id=if 1000000≤id then (boxes.map (Box.ren false cG))[id-1000000]? else none:=by
 unfold St.b fy
 simp only
 rw [abi (boxes:=boxes) _ _ _ _ (by simp)]
 rfl
theorem wF (hg:Given X w vs N0 ν δ args boxes) {nt:Nat} (hnt:args.length≤nt) (hnt2:nt≤1000000):
  Sim X (eW w N0 boxes.length args.length ν δ nt hnt2 hg.bnd X.gblk hg.glob) (vs++Array.replicate (nt-vs.size) undef) w (fy args boxes) (d7 boxes.length ν args vs) (j4 args δ):=by
 have hsub:=aah hg nt hnt2
 have hμ: ∀i b,(gB U boxes.length ν).μ i=some b→(d7 boxes.length ν args vs).μ (cG i)=some b:=by
  intro i b hb
  simp only [gB] at hb
  split at hb
  ·rename_i hi
   simp only [d7,cG]
   rw [if_pos ⟨by omega,by omega⟩,show 1000000+i-1000000=i by omega]
   exact hb
  ·cases hb
 have hvs: ∀n,n<args.length→(vs++Array.replicate (nt-vs.size) undef).getD n undef=vs.getD n undef:=by
  intro n hn
  have:n<vs.size:=by rw [hg.size];exact hn
  simp [Array.getD_eq_getD_getElem?,Array.getElem?_append,this]
 have ho: ∀i ob,(fy args boxes).o i=some ob→2000000≤i∧eh args (i-2000000)=some ob:=by
  intro i ob h
  unfold St.o fy at h
  simp only [Kx] at h
  split at h
  ·rename_i hi;exact ⟨by omega,by simpa using h⟩
  ·cases h
 have hb: ∀id b,(fy args boxes).b id=some b→1000000≤id∧ ∃b0,boxes[id-1000000]? =some b0∧b=b0.ren false cG:=by
  intro id b h
  rw [Kz] at h
  by_cases hi:1000000≤id
  ·rw [if_pos hi,List.getElem?_map,Option.map_eq_some_iff] at h
   obtain ⟨b0,h1,h2⟩:=h
   exact ⟨by omega,b0,h1,h2.symm⟩
  ·rw [if_neg hi] at h;cases h
 refine {nt:=by simp [eW,hg.size];omega,regs:=fun n=> ?_,boxes:=fun id b h=> ?_,dom:=fun id k hk=> ?_,inj:=fun id id' k h1 h2=> ?_,new:=fun id k hk=> ?_,objs:=fun i ob h=> ?_,nobj:=fun i h=> ?_,dinj:=fun i j b h1 h2=> ?_,dnew:=fun i b h=> ?_,dbox:=fun i id b h1 h2=> ?_,ext:=Ext.refl _ _,gl:=rfl,fix:=fun id k hk=> .inl hk}
 ·unfold St.r fy
  simp only [aag,Nat.zero_le,if_true,Nat.sub_zero]
  cases hp:args[n]? with
  |none=>simp only [Option.map_none];exact .undef _
  |some p=>
   simp only [Option.map_some]
   have hn:=(List.getElem?_eq_some_iff.1 hp).1
   rw [hvs n hn]
   have hr:=hg.args n p hp
   by_cases hf:p.notFresh=true
   ·have:=(hr.rep hf).ren (g':=d7 boxes.length ν args vs) (N':=(eW w N0 boxes.length args.length ν δ nt hnt2 hg.bnd X.gblk hg.glob).N (d7 boxes.length ν args vs) (j4 args δ)) false cG (fun _ _ _ _=>rfl) (fun b o _ h=>hsub b o h) (.inr fun _=>rfl) fun i _ b hb=>hμ i b hb
    cases p<;>first|exact this|cases hf
   ·cases p with
    |fresh e l=>
     obtain ⟨A,n',cp,hval,_⟩:=(show ObOK X w _ _ e l (vs.getD n undef) .wr (δ n) from hr).val
     have hfa:eh args n=some ⟨0,e,l⟩:=by unfold eh;rw [hp]
     refine .own (2000000+n) 0 _ 0 e (vs.getD n undef) ?_ (Nat.le_refl _) (fun _=>rfl) ⟨A,n',cp,hval⟩
     simp only [d7]
     rw [if_pos (by omega),show 2000000+n-2000000=n by omega,hfa];rfl
    |_=>exact absurd rfl hf
 ·obtain ⟨h1,b0,h2,rfl⟩:=hb id b h
  have hlt:=(List.getElem?_eq_some_iff.1 h2).1
  have hμid:(d7 boxes.length ν args vs).μ id=some (ν (id-1000000)):=if_pos ⟨h1,hlt⟩
  refine ⟨ν (id-1000000),hμid, ?_⟩
  exact (hg.boxes _ b0 h2).ren false cG rfl (fun _ _ _ _=>rfl) (fun b o _ h=>hsub b o h) (.inr fun _=>rfl) fun i _ b hb=>hμ i b hb
 ·simp only [d7] at hk
  split at hk
  ·rename_i h1
   obtain ⟨hx1,hx2⟩:=h1
   obtain ⟨b0,hb0⟩: ∃b0,boxes[id-1000000]? =some b0:=⟨_,List.getElem?_eq_getElem hx2⟩
   exact ⟨b0.ren false cG,by rw [Kz,if_pos hx1,List.getElem?_map,hb0];rfl⟩
  ·cases hk
 ·simp only [d7] at h1 h2
  split at h1
  ·rename_i q1
   split at h2
   ·rename_i q2
    injection h1 with h1
    injection h2 with h2
    have:=hg.bnd.inj _ _ q1.2 q2.2 (h1.trans h2.symm)
    omega
   ·cases h2
  ·cases h1
 ·simp only [d7] at hk
  split at hk
  ·rename_i h1
   injection hk with hk
   subst hk
   exact ⟨hg.bnd.lt _ h1.2,.inl (List.mem_append.2 (.inl (List.mem_map.2 ⟨_,List.mem_range.2 h1.2,rfl⟩)))⟩
  ·cases hk
 ·obtain ⟨h1,h2⟩:=ho i ob h
  have hp: ∃e l,args[i-2000000]? =some (.fresh e l)∧ob=⟨0,e,l⟩:=by
   unfold eh at h2
   split at h2
   ·rename_i e l hq
    injection h2 with h2
    exact ⟨e,l,hq,h2.symm⟩
   ·cases h2
  obtain ⟨e,l,hp,rfl⟩:=hp
  have hO:ObOK X w (NB N0 boxes.length ν δ) (gB U boxes.length ν) e l (vs.getD (i-2000000) undef) .wr (δ (i-2000000)):=hg.args _ _ hp
  refine ⟨vs.getD (i-2000000) undef,by simp only [d7];rw [if_pos h1,h2];rfl, ?_⟩
  have hu:(fy args boxes).u i= .wr:=by
   unfold St.u fy
   simp only
   have hlook: ∀ (l:List (Nat×Ob U)) (n:Nat),bP (l.map fun x=>(x.1,Use.wr)) n=(bP l n).map fun _=>Use.wr:=by
    intro l n
    induction l with
    |nil=>rfl
    |cons x l ih=>
     obtain ⟨m,y⟩:=x
     simp only [List.map_cons,fY,ih]
     split<;>rfl
   rw [hlook]
   have h':bP (fz 0 args) i=some ⟨0,e,l⟩:=h
   rw [h'];rfl
  have hD:j4 args δ i=δ (i-2000000):=by simp only [j4];rw [if_pos h1,h2];rfl
  rw [hu,hD]
  exact hO.turn (fun _ _=>rfl) (fun _ _ _ _=>rfl) (fun b o _ h=>hsub b o h)
 ·have hf:2000000≤i→eh args (i-2000000)=none:=by
   intro hi
   have h':bP (fz 0 args) i=none:=h
   rw [Kx,if_pos (by omega)] at h'
   simpa using h'
  constructor
  ·simp only [d7]
   split
   ·rename_i hi;rw [hf hi];rfl
   ·rfl
  ·simp only [j4]
   split
   ·rename_i hi;rw [hf hi];rfl
   ·rfl
 ·obtain ⟨a1,a2,_⟩:=rR h1
  obtain ⟨b1,b2,_⟩:=rR h2
  have:=hg.bnd.dinj _ _ _ a2 b2
  omega
 ·obtain ⟨a1,a2,_⟩:=rR h
  exact ⟨hg.bnd.dlt _ _ a2,.inl (List.mem_append.2 (.inr (List.mem_filterMap.2 ⟨_,List.mem_range.2 (hg.dom _ _ a2),a2⟩)))⟩
 ·obtain ⟨a1,a2,_⟩:=rR h1
  simp only [d7] at h2
  split at h2
  ·rename_i q
   injection h2 with h2
   exact hg.bnd.dν _ _ a2 _ q.2 h2
  ·cases h2
end
end Go.Proofs.YtapmagaejigpnaaGreatDoor.PI
namespace Go.Proofs.YtapmagaejigpnaaGreatDoor.PI
open Go
set_option linter.unusedVariables false
set_option linter.unusedSimpArgs false
section
variable {U:Uni} {V:Env U} {P:Program} {X:Link V P} {K:bQ U} {c:Ctx} {tm:Array Value} {w:World} {σ:St U} {g:Gh U} {D:Nat→Option Nat}
variable {r:MR U} {τ:St U} {gp:List Loc}
def jW (tmps:Array Value):ResultVar→Sem Value
 | .tmp t=>pure (tmps.getD t undef)
 | .cell a t=>do loadVar t (←asAddr (tmps.getD a undef))
theorem Yt (fn:Func) (tmps:Array Value):results fn tmps=(do
  let vs←fn.results.mapM (jW tmps)
  pure (if h:vs.size=1 then vs[0] else .tuple vs)):=by
 unfold results jW
 rfl
theorem Ys (h:Sim X c tm w σ g D): ∀ (res:List ResultVar) {k:List (PV U)→M U} {fp:List Loc},(nR V res k).Rel K σ fp r τ gp→
  ∃ps us fp',(k ps).Rel K σ fp' r τ gp∧us.length=ps.length∧(∀ (j:Nat) p,ps[j]? =some p→Rep X w (c.N g D) g (us.getD j undef) p)∧(res.mapM (jW tm)).run P w= .ok us w:=by
 intro res
 induction res with
 |nil=>intro k fp hr;exact ⟨[],[],fp,hr,rfl,by simp,by simp⟩
 |cons x res ih=>
  intro k fp hr
  have step: ∀ {p:PV U} {v:Value} {fp1:List Loc},(nR V res fun vs=>k (p::vs)).Rel K σ fp1 r τ gp→Rep X w (c.N g D) g v p→(jW tm x).run P w= .ok v w→
    ∃ps us fp',(k ps).Rel K σ fp' r τ gp∧us.length=ps.length∧(∀ (j:Nat) p,ps[j]? =some p→Rep X w (c.N g D) g (us.getD j undef) p)∧((x::res).mapM (jW tm)).run P w= .ok us w:=by
   intro p v fp1 hr1 hp hv
   obtain ⟨ps,us,fp',h1,h2,h3,h4⟩:=ih hr1
   refine ⟨p::ps,v::us,fp',h1,by simp [h2],fun j q hq=> ?_,by simp [List.mapM_cons,Sem.run_bind,hv,h4]⟩
   cases j with
   |zero=>simp at hq;subst hq;exact hp
   |succ j=>exact h3 j q (by simpa using hq)
  cases x with
  |tmp t=>exact step hr (h.regs t) (by simp [jW])
  |cell a t=>
   simp only [nR,M.Rel] at hr
   obtain ⟨x,fp',v,h1,h2,h3⟩:=Fq (a:=⟨tm,[]⟩) h (h.regs a) hr
   refine step h1 h3 ?_
   have h2':=h2
   unfold Instr.loadAt at h2'
   simp only [jW]
   cases hu:tm.getD a undef with
   |pointer q=>
    rw [hu] at h2'
    cases q with
    |none=>simp [Instr.sureAddr] at h2'
    |some q=>simpa [Instr.sureAddr,asAddr] using h2'
   |_=>rw [hu] at h2';simp [Instr.sureAddr] at h2'
theorem ze: ∀ (l:List Nat) {k:List (Nat×Box U)→M U} {fp:List Loc},(fM l k).Rel K σ fp r τ gp→ ∃bs fp',(k bs).Rel K σ fp' r τ gp∧bs.map (·.1)=l∧ ∀x∈bs,σ.b x.1=some x.2:=by
 intro l
 induction l with
 |nil=>intro k fp hr;exact ⟨[],fp,hr,rfl,by simp⟩
 |cons id l ih=>
  intro k fp hr
  simp only [fM,M.Rel] at hr
  split at hr
  ·rename_i b hb
   obtain ⟨bs,fp',h1,h2,h3⟩:=ih hr
   exact ⟨(id,b)::bs,fp',h1,by simp [h2],fun x hx=>by
    rcases List.mem_cons.1 hx with rfl|hx
    ·exact hb
    ·exact h3 x hx⟩
  ·exact hr.elim
theorem T2: ∀ (n:Nat) (todo:List Nat) (acc:List (Nat×Box U)) {k:List (Nat×Box U)→M U} {fp:List Loc},(∀x∈acc,σ.b x.1=some x.2)→(jt n todo acc k).Rel K σ fp r τ gp→
  ∃bs fp',(k (acc++bs)).Rel K σ fp' r τ gp∧ ∀x∈acc++bs,σ.b x.1=some x.2:=by
 intro n
 induction n with
 |zero=>intro todo acc k fp _ hr;exact hr.elim
 |succ n ih=>
  intro todo acc k fp hacc hr
  cases todo with
  |nil=>exact ⟨[],fp,by rw [List.append_nil];exact hr,by simpa using hacc⟩
  |cons id todo=>
   simp only [jt] at hr
   split at hr
   ·exact ih todo acc hacc hr
   ·simp only [M.Rel] at hr
    split at hr
    ·rename_i b hb
     obtain ⟨bs,fp',h1,h2⟩:=ih _ _ (fun x hx=>by
      rcases List.mem_append.1 hx with hx|hx
      ·exact hacc x hx
      ·simp at hx;subst hx;exact hb) hr
     exact ⟨(id,b)::bs,fp',by simpa using h1,by simpa using h2⟩
    ·exact hr.elim
theorem RepG.lessN {N N':aA} {v:Value} {Do:Option Nat} {p:PV U} (h:RepG X w N g v Do p) (hN: ∀b o,N' b o→N b o):RepG X w N' g v Do p:=by
 by_cases hp:p.notFresh=true
 ·have:=(h.rep hp).mono X (w':=w) (N':=N') (g':=g) (fun _ _ _ _=>rfl) (fun b o _ hn=>hN b o hn) (Gh.le.refl g)
  cases p<;>first|exact this|cases hp
 ·cases p with
  |fresh e l=>exact ObOK.mono h (fun _ _=>rfl) (fun _ _ _ _=>rfl) (fun b o _ hn=>hN b o hn) (Gh.le.refl g)
  |_=>exact absurd rfl hp
theorem Dj {w0:World} {N0:aA} {n m:Nat} {ν:Nat→Nat} {δ:Nat→Option Nat} (hc:CtxOf c w0 N0 n m ν δ) (hdom: ∀j b,δ j=some b→j<m)
  (h:Sim X c tm w σ g D) {bs:List (Nat×Box U)} {qs:List (PV U)} {vs:Array Value} {ν':Nat→Nat} {δ':Nat→Option Nat} {keep:Bool} {N1:aA}
  (hkeys: ∃more,bs.map (·.1)=bZ (cG 0) n++more) (hnd:(bs.map (·.1)).Nodup) (hν: ∀ (k:Nat) id,(bs.map (·.1))[k]? =some id→g.μ id=some (ν' k))
  (hδ: ∀j b,δ' j=some b→ ∃i,D i=some b)
  (hg:Given X w vs N1 ν' δ' qs (bs.map fun b=>b.2.ren keep (ba (bs.map (·.1)))))
  (hN1:NB N1 bs.length ν' δ'=c.N g D):
  Back X w0 w N0 ν δ n m ν' δ' (bs.map fun b=>b.2.ren keep (ba (bs.map (·.1))))∧ ∀b o,(NB N0 bs.length ν' δ') b o→(NB N1 bs.length ν' δ') b o:=by
 obtain ⟨more,hmore⟩:=hkeys
 obtain ⟨c0,cN,cbl,cfix,cother,hb0⟩:=hc
 have hlen:bs.length=n+more.length:=by have:=congrArg List.length hmore;simpa [vr] using this
 have hext: ∀i,i<n→(bs.map (·.1))[i]? =some (cG i):=by
  intro i hi
  rw [hmore,List.getElem?_append_left (by rw [vr];exact hi),G3 _ _ _ hi]
  simp [cG]
 have hold: ∀i,i<n→ν' i=ν i:=by
  intro i hi
  have h1:=hν i _ (hext i hi)
  rcases h.fix _ _ h1 with h2|⟨h2,_⟩
  ·rw [cfix i hi] at h2;injection h2 with h2;exact h2.symm
  ·rw [cfix i hi] at h2;cases h2
 have hμν: ∀i,i<n→g.μ (cG i)=some (ν i):=fun i hi=>by rw [←hold i hi];exact hν i _ (hext i hi)
 have hget: ∀k,k<bs.length→ ∃id,(bs.map (·.1))[k]? =some id∧g.μ id=some (ν' k):=fun k hk=>⟨_,List.getElem?_eq_getElem (by simpa using hk),hν k _ (List.getElem?_eq_getElem (by simpa using hk))⟩
 have hsub: ∀b o,(NB N0 bs.length ν' δ') b o→(NB N1 bs.length ν' δ') b o:=by
  intro b o hn
  rw [hN1]
  rcases hn with hn|⟨k,hk,rfl⟩|⟨j,hj⟩
  ·exact .inl (by rw [cN];exact hn)
  ·obtain ⟨id,_,hid⟩:=hget k hk
   exact .inr (.inl ⟨id,hid⟩)
  ·obtain ⟨i,hi⟩:=hδ j b hj
   exact .inr (.inr ⟨i,hi⟩)
 have hnew: ∀i,n≤i→i<bs.length→w0.heap.size≤ν' i:=by
  intro i hi hlt
  obtain ⟨id,h1,h2⟩:=hget i hlt
  rcases h.fix _ _ h2 with h3|⟨_,h3⟩
  ·rcases cother _ _ h3 with ⟨j,hj,e⟩|h4
   ·exfalso
    subst e
    have h7:=hext j hj
    have:=(List.getElem?_inj (by simpa using hlt) hnd).1 (h1.trans h7.symm)
    omega
   ·exact h4
  ·rw [c0] at h3;exact h3
 have hdnew: ∀j b,δ' j=some b→w0.heap.size≤b∨ ∃i,δ i=some b:=by
  intro j b hj
  obtain ⟨i,hi⟩:=hδ j b hj
  rcases (h.dnew i b hi).2 with h1|h1
  ·rw [cbl] at h1
   rcases List.mem_append.1 h1 with h1|h1
   ·obtain ⟨k,hk,e⟩:=List.mem_map.1 h1
    rw [List.mem_range] at hk
    subst e
    exact absurd (hμν k hk) (h.dbox i _ _ hi)
   ·obtain ⟨k,_,hk⟩:=List.mem_filterMap.1 h1
    exact .inr ⟨k,hk⟩
  ·rw [c0] at h1;exact .inl h1
 have hl:(bs.map fun b=>b.2.ren keep (ba (bs.map (·.1)))).length=bs.length:=by simp
 have hgb:=hg.bnd
 rw [hl] at hgb
 have hex:Ext (lk n m ν δ) w0 w:=by have:=h.ext;rwa [c0,cbl] at this
 refine ⟨⟨hex,by rw [hl];omega,hold,by rw [hl];exact hnew,hdnew, ?_,fun k b hb=> ?_⟩,hsub⟩
 ·rw [hl]
  refine ⟨hgb.inj,hgb.lt,hgb.dlt,hgb.dinj,hgb.dν,fun b o hn=>⟨Nat.lt_of_lt_of_le (hb0.n0 b o hn).1 hex.size,fun i hi e=> ?_,fun j hj=> ?_⟩⟩
  ·by_cases hin:i<n
   ·exact (hb0.n0 b o hn).2.1 i hin (by rw [←hold i hin];exact e)
   ·have:=hnew i (by omega) hi
    have:=(hb0.n0 b o hn).1
    omega
  ·rcases hdnew j b hj with h1|⟨i,h1⟩
   ·have:=(hb0.n0 b o hn).1;omega
   ·exact (hb0.n0 b o hn).2.2 i h1
 ·have:=hg.boxes k b hb
  rw [hl] at this ⊢
  exact this.mono rfl (fun _ _ _ _=>rfl) (fun b o _ hn=>hsub b o hn) (Gh.le.refl _)
end
end Go.Proofs.YtapmagaejigpnaaGreatDoor.PI
namespace Go.Proofs.YtapmagaejigpnaaGreatDoor.PI
open Go
set_option linter.unusedVariables false
set_option linter.unusedSimpArgs false
section
variable {U:Uni} {V:Env U} {P:Program} {X:Link V P}
theorem RepG.ofAny {w:World} {N:aA} {g:Gh U} {v:Value} {Do:Option Nat} {p:PV U} (h:Rep X w N g v p):RepG X w N g v Do p:=by
 cases p<;>first|exact h|cases h
theorem RepR.ofG {w:World} {N:aA} {g:Gh U} {v:Value} {δ:Nat→Option Nat} {p:PV U} (h:RepG X w N g v (δ 0) p):RepR X w N g v δ p:=by
 cases p with
 |tuple ps=>
  cases (show Rep X w N g v (.tuple ps) from h) with
  |tuple vs _ hl hh=>exact ⟨vs,rfl,hl,fun j p hp=> .ofAny (hh j p hp)⟩
 |_=>exact h
theorem Yu {fn:Func} {tmps:Array Value} {us:List Value} {w:World} (h:(fn.results.toList.mapM (jW tmps)).run P w= .ok us w):
  (results fn tmps).run P w= .ok (if h:us.toArray.size=1 then us.toArray[0] else .tuple us.toArray) w:=by
 rw [Yt,Array.mapM_eq_mapM_toList]
 simp [Sem.run_bind,h]
variable {w0:World} {N0:aA} {n m:Nat} {ν:Nat→Nat} {δ:Nat→Option Nat} {K:bQ U} {c:Ctx}
theorem nS {fn:Func} {tm:Array Value} {w:World} {σ:St U} {g:Gh U} {D:Nat→Option Nat} (hc:CtxOf c w0 N0 n m ν δ) (hdom: ∀j b,δ j=some b→j<m) (h:Sim X c tm w σ g D)
  {keep:Bool} {hand:List Bool} {out:Out U} {τ:St U} {fp gp:List Loc} (hr:(gP V keep hand fn.results.toList n).Rel K σ fp (.out out) τ gp):
  ∃v,(results fn tm).run P w= .ok v w∧dM X w0 N0 ν δ n m out (.returned v) w:=by
 unfold gP at hr
 obtain ⟨ps,us,fp1,hr1,hl1,hp1,hrun⟩:=Ys h _ hr
 obtain ⟨q1,σ1,D1,fp2,hr2,hF1,hl2,hq1⟩:=Ew hand ps h (fun j=>us.getD j undef) hp1 hr1
 obtain ⟨bs0,fp3,hr3,hk0,hb0'⟩:=ze _ hr2
 obtain ⟨bs1,fp4,hr4,hb1⟩:=T2 100 _ bs0 hb0' hr3
 obtain ⟨bs2,σ2,D2,fp5,hr5,hF2,hkeys,hb2⟩:=zd _ hF1.sim (fun x hx=>hF1.sim.boxes x.1 x.2 (hb1 x hx)) hr4
 have h2:=hF2.sim
 obtain ⟨qs,σ3,fp6,G,δ',hr6,hl6,hSp,_,hδ,hδi,hqs⟩:=Ez h2 hand q1 (fun j=>us.getD j undef) (.refl σ2) (fun j p hp=>hF2.rep (hq1 j p hp)) hr5
 cases hh:ik qs bs2 with
 |false=>rw [hh] at hr6;exact hr6.elim
 |true=>
 rw [hh] at hr6
 obtain ⟨e1,_,_⟩:=hr6
 injection e1 with e1
 subst e1
 obtain ⟨ν',hν⟩:=G2 hb2
 have hgd: ∀j,us.toArray.getD j undef=us.getD j undef:=fun j=>mC j (by simp)
 obtain ⟨hNB,hg⟩:=zf h2 keep (vs:=us.toArray) (by simp;omega) hb2 hh (fun j b hj=>by rw [hl6];exact hδ j b hj) hδi (fun j q hq=>by rw [hgd];exact hqs j q hq) hν
 have hnd:=(va hh).2.2.1
 obtain ⟨hback,hsub⟩:=Dj hc hdom h2 ⟨bs1.map (·.1),by rw [hkeys,List.map_append,hk0]⟩ hnd hν (fun j b hj=>by obtain ⟨_,i,_,hi⟩:=hδ j b hj;exact ⟨i,hi⟩) hg hNB
 suffices hR:RepR X w (NB N0 bs2.length ν' δ') (gB U bs2.length ν') (if h:us.toArray.size=1 then us.toArray[0] else .tuple us.toArray) δ' (jQ (PV.renL keep (ba (bs2.map (·.1))) qs)) by
  have hrr:=Yu hrun
  generalize (if h:us.toArray.size=1 then us.toArray[0] else .tuple us.toArray)=v at hR hrr
  have hbl:(bs2.map fun b=>b.2.ren keep (ba (bs2.map (·.1)))).length=bs2.length:=by simp
  have hret:dM X w0 N0 ν δ n m (.ret (jQ (PV.renL keep (ba (bs2.map (·.1))) qs)) (bs2.map fun b=>b.2.ren keep (ba (bs2.map (·.1))))) (.returned v) w:=by
   simp only [dM]
   refine ⟨ν',δ',hback, ?_⟩
   rw [hbl];exact hR
  exact ⟨v,hrr,hret⟩
 have hbl:(bs2.map fun b=>b.2.ren keep (ba (bs2.map (·.1)))).length=bs2.length:=by simp
 have hargs: ∀ (j:Nat) p,(PV.renL keep (ba (bs2.map (·.1))) qs)[j]? =some p→RepG X w (NB N0 bs2.length ν' δ') (gB U bs2.length ν') (us.toArray.getD j undef) (δ' j) p:=fun j p hp=>by
  have:=hg.args j p hp
  rw [hbl] at this
  exact this.lessN hsub
 have hlr:(PV.renL keep (ba (bs2.map (·.1))) qs).length=us.length:=by rw [ga];simp;omega
 generalize PV.renL keep (ba (bs2.map (·.1))) qs=rs at hargs hlr
 by_cases h1:us.toArray.size=1
 ·rw [dif_pos h1]
  have hu1:us.length=1:=by simpa using h1
  obtain ⟨p,rfl⟩: ∃p,rs=[p]:=by
   match rs,hlr with
   |[p],_=>exact ⟨p,rfl⟩
   |[],h=>simp at h;omega
   |_::_::_,h=>simp at h;omega
  have:=hargs 0 p rfl
  have hu:us.toArray.getD 0 undef=us.toArray[0]:=by simp [Array.getD,h1]
  rw [hu] at this
  exact .ofG this
 ·rw [dif_neg h1]
  have hone:jQ rs= .tuple rs:=by
   match rs,hlr with
   |[],_=>rfl
   |[p],h=>simp at h h1;omega
   |_::_::_,_=>rfl
  rw [hone]
  exact ⟨us.toArray,rfl,by simpa using hlr.symm,hargs⟩
theorem Ap {tm:Array Value} {w:World} {σ:St U} {g:Gh U} {D:Nat→Option Nat} (hc:CtxOf c w0 N0 n m ν δ) (hdom: ∀j b,δ j=some b→j<m) (h:Sim X c tm w σ g D)
  {v:PV U} {val:Value} (hv:Rep X w (c.N g D) g val v) {out:Out U} {τ:St U} {fp gp:List Loc} (hr:(Ao v n).Rel K σ fp (.out out) τ gp):
  dM X w0 N0 ν δ n m out (.panicked [{v:=val,recovered:=false}]) w:=by
 unfold Ao at hr
 obtain ⟨bs0,fp3,hr3,hk0,hb0'⟩:=ze _ hr
 obtain ⟨bs2,σ2,D2,fp5,hr5,hF2,hkeys,hb2⟩:=zd _ h (fun x hx=>h.boxes x.1 x.2 (hb0' x hx)) hr3
 obtain ⟨q,σ3,D3,fp6,hr6,hF3,hq,_⟩:=kI v hF2.sim (hF2.rep hv) hr5
 cases hh:ik [q] bs2 with
 |false=>simp only [hh] at hr6;exact hr6.elim
 |true=>
 simp only [hh] at hr6
 obtain ⟨e1,_,_⟩:=hr6
 injection e1 with e1
 subst e1
 have hb3: ∀x∈bs2,n5 X w (c.N g D3) g x:=fun x hx=>by
  obtain ⟨k,hk,hbx⟩:=hb2 x hx
  exact ⟨k,hk,hbx.mono rfl (fun _ _ _ _=>rfl) (fun b o _ hn=>by
   rcases hn with hn|hn|⟨i,hi⟩
   ·exact .inl hn
   ·exact .inr (.inl hn)
   ·exact .inr (.inr ⟨i,hF3.D i b hi⟩)) (Gh.le.refl g)⟩
 have hkk:bs2.map (·.1)=bZ (cG 0) n:=hkeys.trans hk0
 have hlen:bs2.length=n:=by have:=congrArg List.length hkk;simpa [vr] using this
 have hν: ∀ (k:Nat) id,(bs2.map (·.1))[k]? =some id→g.μ id=some (ν k):=by
  intro k id hid
  obtain ⟨x,hx,rfl⟩:=List.mem_map.1 (List.mem_of_getElem? hid)
  obtain ⟨kb,hk,_⟩:=hb3 x hx
  have hkn:k<n:=by have:=(List.getElem?_eq_some_iff.1 hid).1;simp at this;omega
  rw [hkk,G3 _ _ _ hkn] at hid
  injection hid with hid
  have hfix:c.fix x.1=some (ν k):=by
   rw [←hid,←hc.fix k hkn]
   simp [cG]
  rcases h.fix _ _ hk with h2|⟨h2,_⟩
  ·rw [hfix] at h2;rw [hk,←h2]
  ·rw [hfix] at h2;cases h2
 obtain ⟨hNB,hg⟩:=zf (G:=[]) (δ:=fun _=>none) hF3.sim false (vs:= #[val]) (by simp) hb3 hh (by simp) (by simp) (fun j q' hq'=>by
  cases j with
  |zero=>simp at hq';subst hq';exact .of hq
  |succ j=>simp at hq') hν
 obtain ⟨hback,hsub⟩:=Dj hc hdom hF3.sim ⟨[],by rw [hkk];simp⟩ (va hh).2.2.1 hν (by simp) hg hNB
 refine ⟨by simp [hlen],val,rfl,hback, ?_⟩
 have hbl:(bs2.map fun b=>b.2.ren false (ba (bs2.map (·.1)))).length=bs2.length:=by simp
 have:=hg.args 0 _ rfl
 rw [hbl] at this
 have:=this.lessN hsub
 rw [hlen] at this
 have hf:(q.ren false (ba (bs2.map (·.1)))).notFresh=true:=by
  rw [wg]
  cases q<;>first|rfl|cases hq
 exact this.rep hf
theorem YA (hm:P.follows .mixedOrders=true) (hI:iY X) {S:Side U} (hS:S.rcv=none) (hpin:S.pin=fun _=>false) {R:Type} {C:Oracle U R} (hC:C.Tells (b9 X)) {f:FuncId} {fn:Func} (hf:P.funcs[f]? =some fn)
  (hname:(fn.name== "runtime.NumGoroutine")=false) (hbody:fn.body.isNone=false) (hnt:fn.ntmps=S.nt) (hlow:S.nt≤1000000) {args:List (PV U)} {boxes:List (Box U)} (hargs:args.length≤S.nt)
  {ann:Nat→Option Ann} {fuel:Nat} {keep:Bool} {hand:List Bool} {κ:Out U→Option R} {x:R} (h:Bf V S C ann fuel keep hand fn args boxes κ=some x): ∃out,κ out=some x∧b9 X f args boxes out:=by
 obtain ⟨code,hcode⟩: ∃code,fn.body=some code:=by
  cases hb:fn.body with
  |none=>rw [hb] at hbody;cases hbody
  |some code=>exact ⟨code,rfl⟩
 unfold Bf fb at h
 rw [hcode] at h
 obtain ⟨e,τ,hbig,hk⟩:=wn (b9 X) V S ann hC fuel code h
 have key: ∀ {M:M U} {out:Out U} {τ0:St U} {gp:List Loc},M.Rel (b9 X) τ [] (.out out) τ0 gp→(∀ (w:World) (vs:Array Value) (N0:aA) (ν:Nat→Nat) (δ:Nat→Option Nat) (hg:Given X w vs N0 ν δ args boxes),
   Lands X (eW w N0 boxes.length args.length ν δ S.nt hlow hg.bnd X.gblk hg.glob) [] e τ (bodyPost P fn (dM X w N0 ν δ boxes.length args.length out)))→b9 X f args boxes out:=by
  intro M out τ0 gp _ hl
  refine ⟨⟨fn,hf,hname,hbody⟩,fun w vs N0 ν δ hg=> ?_⟩
  refine calls_of_wp hf hcode ?_
  have hs:=wF hg hargs hlow
  rw [hnt]
  exact lQ hm (lq hI hS fun d hd=>by rw [hpin] at hd;cases hd) rfl hbig _ w _ _ _ hs (hl w vs N0 ν δ hg)
 cases e with
 |exit id=>cases hk
 |normal=>
  obtain ⟨r,τ0,τ1,gp,hr,ht,hfin⟩:=fc hC _ hk (St.eqv.refl τ)
  cases r with
  |out o=>
   refine ⟨o,hfin,key hr fun w vs N0 ν δ hg a' w' g' D' hd hs=> ?_⟩
   obtain ⟨v,h1,h2⟩:=nS iV hg.dom hs hr
   exact ⟨hd,v,h1,h2⟩
  |_=>cases hfin
 |ret=>
  obtain ⟨r,τ0,τ1,gp,hr,ht,hfin⟩:=fc hC _ hk (St.eqv.refl τ)
  cases r with
  |out o=>
   refine ⟨o,hfin,key hr fun w vs N0 ν δ hg a' w' g' D' hd hs=> ?_⟩
   obtain ⟨v,h1,h2⟩:=nS iV hg.dom hs hr
   exact ⟨hd,v,h1,h2⟩
  |_=>cases hfin
 |panic v=>
  obtain ⟨r,τ0,τ1,gp,hr,ht,hfin⟩:=fc hC _ hk (St.eqv.refl τ)
  cases r with
  |out o=>
   refine ⟨o,hfin,key hr fun w vs N0 ν δ hg a' w' g' D' hd hs val hval=> ?_⟩
   exact ⟨hd,Ap iV hg.dom hs hval hr⟩
  |_=>cases hfin
end
end Go.Proofs.YtapmagaejigpnaaGreatDoor.PI
namespace Go.Proofs.YtapmagaejigpnaaGreatDoor.PI
open Go
section
variable {U:Uni} {R:Type} (V:Env U) (S:Side U) (C:Oracle U R) (ann:Nat→Option Ann) (fuel:Nat)
def Jb (o:Oper):Option Tmp:=
 match o.dst,o.op,o.guard with
 |some d,.call c,.none=>match c.callee with
  | .builtin .recover=>some d
  |_=> .none
 |_,_,_=> .none
def Jp (v:PV U):Code→St U→(Ex U→St U→Option R)→Option R
 | .seq (.region _ ops draw) b,σ,κ=>match ops.toList with
  |o::more=>match Jb o with
   |some d=>bif !draw&&(Nat.blt d S.nt&&more.all (a7 S.nt)) then nU V S C ops.toList more [] (σ.setR d v) fun
     | .normal,σ',_=>run V S C ann fuel b σ' κ
     |_,_,_=> .none
    else .none
   | .none=> .none
  |[]=> .none
 |_,_,_=> .none
def Bg (keep:Bool) (hand:List Bool) (fn:Func) (v:PV U) (args:List (PV U)) (boxes:List (Box U)) (κ:Out U→Option R):Option R:=
 Jp V S C ann fuel v (fb fn) (fy args boxes) (kF V C keep hand fn boxes.length κ)
def yO:List Oper→Option (Oper×Tmp)
 |[o,q]=>match o.dst,o.guard,q.dst,q.op,q.guard with
  |some m,.none,.none,.defer c,.none=>match c.callee with
   | .value (.tmp n)=>bif Nat.beq m n&&c.args.isEmpty then some (o,n) else .none
   |_=> .none
  |_,_,_,_,_=> .none
 |_=> .none
def PV.pinned:PV U→Bool
 | .ptr id _=>Nat.ble 1000000 id
 |_=>false
def lD:Code→St U→(Ex U→St U→Option R)→(FuncId→List (PV U)→Ex U→St U→Option R)→Option R
 | .seq a b,σ,κ0,κ1=>match a with
  | .region id ops draw=>match yO ops.toList with
   |some (o,n)=>bif !draw&&a7 S.nt o then (bh V S o).cps C σ [] fun
     | .done,σ',_=>match σ'.r n with
      | .func h [] caps=>bif caps.all PV.pinned then run V {S with pin:=fun _=>false} C ann fuel b σ' (κ1 h caps) else .none
      |_=> .none
     |_,_,_=> .none
    else .none
   | .none=>run V S C ann fuel (.region id ops draw) σ fun
    | .normal,σ'=>lD b σ' κ0 κ1
    |e,σ'=>κ0 e σ'
  |a=>run V S C ann fuel a σ fun
   | .normal,σ'=>lD b σ' κ0 κ1
   |e,σ'=>κ0 e σ'
 |_,_,_,_=> .none
def kD (Cd:PV U→Oracle U R) (keep:Bool) (hand:List Bool) (fn:Func) (nb:Nat) (κ:Out U→Option R) (h:FuncId) (caps:List (PV U)):Ex U→St U→Option R
 | .normal,σ=>(fM (PV.idsL caps) fun _=>gj [] .none (.func h [] caps) []).cps (Cd .nilIface) σ [] fun
  | .done,σ',_=>(gP V keep hand fn.results.toList nb).cps C σ' [] (fin κ)
  |_,_,_=> .none
 | .ret,σ=>(fM (PV.idsL caps) fun _=>gj [] .none (.func h [] caps) []).cps (Cd .nilIface) σ [] fun
  | .done,σ',_=>(gP V keep hand fn.results.toList nb).cps C σ' [] (fin κ)
  |_,_,_=> .none
 | .panic v,σ=>match v with
  | .iface t (.int k n)=>(fM (PV.idsL caps) fun _=>gj [] .none (.func h [] caps) []).cps (Cd (.iface t (.int k n))) σ [] fun
   | .done,σ',_=>(gP V keep hand fn.results.toList nb).cps C σ' [] (fin κ)
   |_,_,_=> .none
  |_=> .none
 | .exit _,_=> .none
def Fe:Code→List Bool→List (St U→Option R)→(Nat→Option Ann)→(Ex U→St U→Option R)→(FuncId→List (PV U)→Ex U→St U→Option R)→Ex U→St U→Option R
 | .seq a b,false::p,rs,an,κ0,κ1=>jy V S C ann fuel a p rs an fun
  | .normal,σ'=>lD V S C ann fuel b σ' κ0 κ1
  |e,σ'=>κ0 e σ'
 | .seq _ b,true::p,rs,an,κ0,κ1=>Fe b p rs an κ0 κ1
 |_,_,_,_,κ0,_=>κ0
def Be (Cd:PV U→Oracle U R) (keep:Bool) (hand:List Bool) (fn:Func) (args:List (PV U)) (boxes:List (Box U)) (κ:Out U→Option R):Option R:=
 lD V S C ann fuel (fb fn) (fy args boxes) (kF V C keep hand fn boxes.length κ) (kD V C Cd keep hand fn boxes.length κ)
end
end Go.Proofs.YtapmagaejigpnaaGreatDoor.PI
namespace Go.Proofs.YtapmagaejigpnaaGreatDoor.PI
open Go
set_option linter.unusedVariables false
set_option linter.unusedSimpArgs false
section
variable {U:Uni} {V:Env U} {P:Program} {X:Link V P}
inductive RcvOK:PV U→FrameMode→FrameMode→Prop
 |nil:RcvOK .nilIface .returning .returning
 |err (t:TypeId) (k:IntKind) (n:Int):RcvOK (.iface t (.int k n)) (.panicking [{v:= .iface t (.int k n),recovered:=false}]) (.panicking [{v:= .iface t (.int k n),recovered:=true}])
def iX (P:Program) (u u':FrameMode):FuncId→Array Value→World→(Ending→World→Prop)→Prop:=fun f vs w R=>CallsD P f vs u w fun e u2 w'=>u2=u'∧R e w'
theorem aa_ {ops:Array Oper} {cs:List Frame} {Q:Exit→Act→List Frame→World→Prop} (hQ: ¬LetsOut (fun e a' w'=>Q e a' cs w')): ∀ (l:List Nat) (a:Act) (w:World),wpOps P ops (fun e a' w'=>Q e a' cs w') l a w→wpOpsS P ops Q l a cs w:=by
 intro l
 induction l with
 |nil=>intro a w h;exact h
 |cons i l ih=>
  intro a w h
  simp only [wpOps,wpOpsS] at h ⊢
  cases ho:ops[i]? with
  |none=>rw [ho] at h;exact ih _ _ h
  |some o=>
   rw [ho] at h
   simp only at h ⊢
   split
   ·rename_i hw
    rw [if_pos hw] at h
    have h:=h.resolve_right fun h=>hQ h.2
    have h:=Oper.wp_mono ih h
    unfold Oper.wp at h
    split
    ·rename_i w' hrun
     rw [hrun] at h
     exact h.elim
    ·exact h
   ·rename_i hw
    rw [if_neg hw] at h
    exact ih _ _ h
theorem YB (hm:P.follows .mixedOrders=true) (hI:iY X) {S:Side U} (hS:S.rcv=none) (hpin:S.pin=fun _=>false) {R:Type} {C:Oracle U R} (hC:C.Tells (b9 X)) {f:FuncId} {fn:Func} (hf:P.funcs[f]? =some fn)
  (hname:(fn.name== "runtime.NumGoroutine")=false) (hbody:fn.body.isNone=false) (hnt:fn.ntmps=S.nt) (hlow:S.nt≤1000000) {v:PV U} {u u':FrameMode} (hv:RcvOK v u u') {args:List (PV U)} {boxes:List (Box U)} (hargs:args.length≤S.nt)
  {ann:Nat→Option Ann} {fuel:Nat} {keep:Bool} {hand:List Bool} {κ:Out U→Option R} {x:R} (h:Bg V S C ann fuel keep hand fn v args boxes κ=some x): ∃out,κ out=some x∧g4 X (iX P u u') f args boxes out:=by
 obtain ⟨code,hcode⟩: ∃code,fn.body=some code:=by
  cases hb:fn.body with
  |none=>rw [hb] at hbody;cases hbody
  |some code=>exact ⟨code,rfl⟩
 unfold Bg fb at h
 rw [hcode] at h
 simp only at h
 unfold Jp at h
 split at h
 case h_2=>cases h
 rename_i id ops draw b
 split at h
 case h_2=>cases h
 rename_i o more hops
 split at h
 case h_2=>cases h
 rename_i d hrec
 cases hc:(!draw&&(Nat.blt d S.nt&&more.all (a7 S.nt))) with
 |false=>rw [hc] at h;cases h
 |true=>
 rw [hc] at h
 simp only [cond_true] at h
 simp only [Bool.and_eq_true,Bool.not_eq_true'] at hc
 obtain ⟨hdraw,hd,hall⟩:=hc
 subst hdraw
 have hd:d<S.nt:=by simpa using hd
 unfold Jb at hrec
 obtain ⟨dst,op,ty,pos,after,gd⟩:=o
 simp only at hrec
 split at hrec
 case h_2=>cases hrec
 rename_i d0 cl
 split at hrec
 case h_2=>cases hrec
 rename_i hcl
 injection hrec with hrec
 subst hrec
 obtain ⟨e1,fps,τ0,τ1,hops1,ht1,hk1⟩:=Jo (b9 X) V S hC ops.toList more h (St.eqv.refl _)
 cases e1 with
 |exit id=>cases hk1
 |ret=>cases hk1
 |panic v=>cases hk1
 |normal=>
 simp only at hk1
 obtain ⟨e,τ,hbig,hk⟩:=wn (b9 X) V S ann hC fuel b hk1
 have hsz:ops.size=more.length+1:=by have:=congrArg List.length hops;simpa using this
 have key: ∀ {out:Out U},(∀ (w:World) (vs:Array Value) (N0:aA) (ν:Nat→Nat) (δ:Nat→Option Nat) (hg:Given X w vs N0 ν δ args boxes),
   Lands X (eW w N0 boxes.length args.length ν δ S.nt hlow hg.bnd X.gblk hg.glob) [] e τ (bodyPost P fn (dM X w N0 ν δ boxes.length args.length out)))→g4 X (iX P u u') f args boxes out:=by
  intro out hl
  refine ⟨⟨fn,hf,hname,hbody⟩,fun w vs N0 ν δ hg=> ?_⟩
  refine callsD_of_wpS hf hcode fun c₀ cs hu=> ?_
  have hs:=wF hg hargs hlow
  rw [hnt]
  have hl:=hl w vs N0 ν δ hg
  generalize hcx:eW w N0 boxes.length args.length ν δ S.nt hlow hg.bnd X.gblk hg.glob=c at hs hl
  have hcnt:c.nt=S.nt:=by rw [←hcx];rfl
  have hOS:kj X (b9 X) S c:=lq hI hS fun d hd=>by rw [hpin] at hd;cases hd
  obtain ⟨val,cs2,hrv,hrep⟩: ∃val cs2,(match recoverD (c₀::cs) with|some (v,cs')=>v=val∧cs'=cs2|none=>val= .nilIface∧cs2=c₀::cs)∧(∃c1:Frame,cs2={c₀ with mode:=u'}::cs)∧ ∀ (w:World) (N:aA) (g:Gh U),Rep X w N g val v:=by
   cases hv with
   |nil=>
    refine ⟨.nilIface,c₀::cs, ?_,⟨c₀, ?_⟩,fun _ _ _=> .nilIface⟩
    ·simp [recoverD,hu]
    ·rw [←hu]
   |err t k n=>
    refine ⟨.iface t (.int k n),_, ?_,⟨c₀,rfl⟩,fun _ _ _=> .iface _ _ _ (.int _ _)⟩
    simp [recoverD,hu]
  obtain ⟨⟨_,hcs2⟩,hrep⟩:=hrep
  refine wpS_seq (wpS_region ?_)
  rw [hsz,List.range_eq_range',List.range'_succ]
  have h0:ops[0]? =some ⟨some d0,.call cl,ty,pos,after,none⟩:=by rw [←Array.getElem?_toList,hops];rfl
  simp only [wpOpsS,h0]
  have hrun:(execOp (Act.eval ⟨vs++Array.replicate (S.nt-vs.size) undef,[]⟩) ⟨some d0,.call cl,ty,pos,after,none⟩).run P w= .ok .recover w:=by
   rw [Js hcl]
   simp [builtin]
  rw [if_pos (by simp [Region.wanted]),hrun]
  simp only
  have hnext:wpOpsS P ops (Exit.thenS (b.wpS P (bodyPostS P fn c₀ cs fun e u2 w'=>u2=u'∧dM X w N0 ν δ boxes.length args.length out e w')) (bodyPostS P fn c₀ cs fun e u2 w'=>u2=u'∧dM X w N0 ν δ boxes.length args.length out e w')) (List.range' (0+1) more.length)
    (Act.put ⟨vs++Array.replicate (S.nt-vs.size) undef,[]⟩ (some d0) val) cs2 w:=by
   have hs1:=hs.put (d:=d0) (by rw [hcnt];exact hd) (hrep w _ _)
   have hLO: ∀ {next:Act→List Frame→World→Prop},¬LetsOut (fun e a' w'=>Exit.thenS next (bodyPostS P fn c₀ cs fun e u2 w'=>u2=u'∧dM X w N0 ν δ boxes.length args.length out e w') e a' cs2 w'):=by
    rintro next ⟨a',w',u2,_,hq⟩
    exact hq
   refine aa_ hLO _ _ _ ?_
   refine MI hOS more 1 _ w _ _ _ fps (by rw [hops];rfl) (by rw [hcnt];exact hall) hs1 hops1 ?_
   intro a2 w2 g2 D2 hd2 hs2
   simp only [Exit.thenS]
   refine wpS_of_wp (lQ hm hOS hcnt hbig a2 w2 g2 D2 _ (hs2.eqv ht1) ?_)
   intro a3 w3 g3 D3 hd3 hs3
   have hd0:a3.defers=[]:=hd3.trans hd2
   have hb:=hl a3 w3 g3 D3 hd0 hs3
   rw [hcs2]
   cases e with
   |normal=>obtain ⟨q1,v1,q2,q3⟩:=hb;exact ⟨q1,u',rfl,v1,q2,rfl,q3⟩
   |ret=>obtain ⟨q1,v1,q2,q3⟩:=hb;exact ⟨q1,u',rfl,v1,q2,rfl,q3⟩
   |exit id=>exact hb.elim
   |panic pv=>intro val' hval';obtain ⟨q1,q3⟩:=hb val' hval';exact ⟨q1,u',rfl,rfl,q3⟩
  cases hrd:recoverD (c₀::cs) with
  |none=>rw [hrd] at hrv;obtain ⟨rfl,rfl⟩:=hrv;exact hnext
  |some p=>obtain ⟨v1,cs1⟩:=p;rw [hrd] at hrv;obtain ⟨rfl,rfl⟩:=hrv;exact hnext
 cases e with
 |exit id=>cases hk
 |normal=>
  obtain ⟨r,τ0,τ1,gp,hr,ht,hfin⟩:=fc hC _ hk (St.eqv.refl τ)
  cases r with
  |out o=>
   refine ⟨o,hfin,key fun w vs N0 ν δ hg a' w' g' D' hd hs=> ?_⟩
   obtain ⟨v,h1,h2⟩:=nS iV hg.dom hs hr
   exact ⟨hd,v,h1,h2⟩
  |_=>cases hfin
 |ret=>
  obtain ⟨r,τ0,τ1,gp,hr,ht,hfin⟩:=fc hC _ hk (St.eqv.refl τ)
  cases r with
  |out o=>
   refine ⟨o,hfin,key fun w vs N0 ν δ hg a' w' g' D' hd hs=> ?_⟩
   obtain ⟨v,h1,h2⟩:=nS iV hg.dom hs hr
   exact ⟨hd,v,h1,h2⟩
  |_=>cases hfin
 |panic v=>
  obtain ⟨r,τ0,τ1,gp,hr,ht,hfin⟩:=fc hC _ hk (St.eqv.refl τ)
  cases r with
  |out o=>
   refine ⟨o,hfin,key fun w vs N0 ν δ hg a' w' g' D' hd hs val hval=> ?_⟩
   exact ⟨hd,Ap iV hg.dom hs hval hr⟩
  |_=>cases hfin
end
end Go.Proofs.YtapmagaejigpnaaGreatDoor.PI
namespace Go.Proofs.YtapmagaejigpnaaGreatDoor.PI
open Go
set_option linter.unusedVariables false
set_option linter.unusedSimpArgs false
section
variable {U:Uni} {V:Env U} {P:Program} {X:Link V P}
def Ctx.refix (c:Ctx) (μ:Nat→Option Nat) (L:List Nat) (hnt:c.nt≤1000000) (hL: ∀id∈L,1000000≤id):Ctx:=
 {c with
  fix:=fun id=>if id∈L then μ id else c.fix id
  low:=fun id k h=>by
   split at h
   ·rename_i h1;exact ⟨hL id h1,Nat.le_trans hnt (hL id h1)⟩
   ·exact c.low id k h}
theorem Sim.refix {c:Ctx} {tm:Array Value} {w:World} {σ:St U} {g:Gh U} {D:Nat→Option Nat} (h:Sim X c tm w σ g D) {L:List Nat} {hnt:c.nt≤1000000} {hL: ∀id∈L,1000000≤id}:
  Sim X (c.refix g.μ L hnt hL) tm w σ g D where
 nt:=h.nt
 regs:=h.regs
 boxes:=h.boxes
 dom:=h.dom
 inj:=h.inj
 new:=h.new
 objs:=h.objs
 nobj:=h.nobj
 dinj:=h.dinj
 dnew:=h.dnew
 dbox:=h.dbox
 ext:=h.ext
 gl:=h.gl
 fix:=fun id k hk=>by
  simp only [Ctx.refix]
  by_cases hin:id∈L
  ·rw [if_pos hin];exact .inl hk
  ·rw [if_neg hin];exact h.fix id k hk
theorem CtxOf.refix {c:Ctx} {tm:Array Value} {w:World} {σ:St U} {g:Gh U} {D:Nat→Option Nat} (h:Sim X c tm w σ g D) {L:List Nat} {hnt:c.nt≤1000000} {hL: ∀id∈L,1000000≤id} (hLμ: ∀id∈L,∃b,g.μ id=some b)
  {w0:World} {N0:aA} {n m:Nat} {ν:Nat→Nat} {δ:Nat→Option Nat} (hc:CtxOf c w0 N0 n m ν δ):CtxOf (c.refix g.μ L hnt hL) w0 N0 n m ν δ where
 cw:=hc.cw
 cN:=hc.cN
 bl:=hc.bl
 fix i hi:=by
  simp only [Ctx.refix]
  by_cases hin:cG i∈L
  ·rw [if_pos hin]
   obtain ⟨b,hb⟩:=hLμ _ hin
   rcases h.fix _ _ hb with h1|⟨h1,_⟩
   ·rw [hb,←h1];exact hc.fix i hi
   ·rw [hc.fix i hi] at h1;cases h1
  ·rw [if_neg hin];exact hc.fix i hi
 other id k hk:=by
  simp only [Ctx.refix] at hk
  by_cases hin:id∈L
  ·rw [if_pos hin] at hk
   rcases h.fix _ _ hk with h1|⟨_,h1⟩
   ·exact hc.other id k h1
   ·rw [hc.cw] at h1;exact .inr h1
  ·rw [if_neg hin] at hk;exact hc.other id k hk
 bnd:=hc.bnd
def wR (c':Ctx) (caps:List (PV U)) (us:Array Value):Prop:=us.size=caps.length∧ ∀ (j:Nat) p,caps[j]? =some p→ ∃id off b,p= .ptr id off∧c'.fix id=some b∧us.getD j undef= .pointer (some ⟨b,off,none⟩)
def wT (X:Link V P) (S:Side U) (code:Code) (σ:St U) (h:FuncId) (caps:List (PV U)) (e:Ex U) (τ:St U):Prop:=
 ∀ (c:Ctx),PinOK S c→c.nt=S.nt→ ∀ (a:Act) (w:World) (g:Gh U) (D:Nat→Option Nat) (Q:Exit→Act→World→Prop),Sim X c a.tmps w σ g D→a.defers=[]→
  (∀ (us:Array Value) (c':Ctx),(∀w0 N0 n m ν δ,CtxOf c w0 N0 n m ν δ→CtxOf c' w0 N0 n m ν δ)→c'.nt=c.nt→wR c' caps us→Lands X c' [{target:= .fn (.func h) us,args:= #[]}] e τ Q)→code.wp P Q a w
theorem RD {l:List Oper} {o:Oper} {n:Tmp} (h:yO l=some (o,n)): ∃q cl,l=[o,q]∧o.dst=some n∧o.guard=none∧q.dst=none∧q.op= .defer cl∧q.guard=none∧cl.callee= .value (.tmp n)∧cl.args= #[]:=by
 unfold yO at h
 split at h
 case h_2=>cases h
 rename_i o' q
 split at h
 case h_2=>cases h
 rename_i m cl h1 h2 h3 h4 h5
 split at h
 case h_2=>cases h
 rename_i n' hcl
 cases hb:(Nat.beq m n'&&cl.args.isEmpty) with
 |false=>rw [hb] at h;cases h
 |true=>
 rw [hb] at h
 injection h with h
 injection h with e1 e2
 subst e1;subst e2
 simp only [Bool.and_eq_true] at hb
 have hmn:m=n':=by simpa using hb.1
 subst hmn
 exact ⟨q,cl,rfl,h1,h2,h3,h4,h5,hcl,by simpa using hb.2⟩
theorem Yz (hm:P.follows .mixedOrders=true) (hI:iY X) {S:Side U} (hS:S.rcv=none) (hlow:S.nt≤1000000) {R:Type} {C:Oracle U R} (hC:C.Tells (b9 X)) {ann:Nat→Option Ann} {fuel:Nat}:
  ∀ (code:Code) {σ:St U} {κ0:Ex U→St U→Option R} {κ1:FuncId→List (PV U)→Ex U→St U→Option R} {x:R},lD V S C ann fuel code σ κ0 κ1=some x→
   (∃e τ,e≠ .normal∧κ0 e τ=some x∧ ∀c,PinOK S c→c.nt=S.nt→sb X c none code σ e τ)∨
   (∃h caps e τ,κ1 h caps e τ=some x∧wT X S code σ h caps e τ):=by
 intro code
 induction code with
 |seq a b iha ihb=>
  intro σ κ0 κ1 x h
  have step:run V S C ann fuel a σ (fun| .normal,σ'=>lD V S C ann fuel b σ' κ0 κ1|e,σ'=>κ0 e σ')=some x→
    (∃e τ,e≠ .normal∧κ0 e τ=some x∧ ∀c,PinOK S c→c.nt=S.nt→sb X c none (.seq a b) σ e τ)∨
    (∃h caps e τ,κ1 h caps e τ=some x∧wT X S (.seq a b) σ h caps e τ):=by
   intro h
   obtain ⟨e,τ,hbig,hk⟩:=wn (b9 X) V S ann hC fuel a h
   have early:e≠ .normal→κ0 e τ=some x→_:=fun he hk=>(.inl ⟨e,τ,he,hk,fun c hP hnt=>lQ hm (lq hI hS hP) hnt (.seqE a b _ _ _ hbig he)⟩:
    (∃e τ,e≠ .normal∧κ0 e τ=some x∧ ∀c,PinOK S c→c.nt=S.nt→sb X c none (.seq a b) σ e τ)∨(∃h caps e τ,κ1 h caps e τ=some x∧wT X S (.seq a b) σ h caps e τ))
   cases e with
   |normal=>
    rcases ihb hk with ⟨e',τ',he',hk',hB⟩|⟨hh,caps,e',τ',hk',hB⟩
    ·exact .inl ⟨e',τ',he',hk',fun c hP hnt a' w g D Q hs hl=>wp_seq (lQ hm (lq hI hS hP) hnt hbig a' w g D _ hs fun a2 w2 g2 D2 hd2 hs2=>hB c hP hnt a2 w2 g2 D2 Q hs2 (by rw [hd2];exact hl))⟩
    ·exact .inr ⟨hh,caps,e',τ',hk',fun c hP hnt a' w g D Q hs hd hl=>wp_seq (lQ hm (lq hI hS hP) hnt hbig a' w g D _ hs fun a2 w2 g2 D2 hd2 hs2=>hB c hP hnt a2 w2 g2 D2 Q hs2 (hd2.trans hd) hl)⟩
   |exit id=>exact early (by simp) hk
   |ret=>exact early (by simp) hk
   |panic v=>exact early (by simp) hk
  clear iha
  unfold lD at h
  split at h
  case h_2=>exact step h
  rename_i id ops draw
  split at h
  case h_2=>exact step h
  rename_i o n hdfr
  obtain ⟨q,cl,hops,ho1,ho2,hq1,hq2,hq3,hcl,hargs⟩:=RD hdfr
  cases hc:(!draw&&a7 S.nt o) with
  |false=>rw [hc] at h;cases h
  |true=>
  rw [hc] at h
  simp only [cond_true] at h
  simp only [Bool.and_eq_true,Bool.not_eq_true'] at hc
  obtain ⟨hdraw,hdo⟩:=hc
  subst hdraw
  obtain ⟨r,τ0,τ,gp,hrel,ht,hk⟩:=fc hC _ h (St.eqv.refl σ)
  cases r with
  |raise v=>cases hk
  |out o=>cases hk
  |done=>
  simp only at hk
  split at hk
  case h_2=>cases hk
  rename_i hh caps hfun
  cases hp:caps.all PV.pinned with
  |false=>rw [hp] at hk;cases hk
  |true=>
  rw [hp] at hk
  simp only [cond_true] at hk
  obtain ⟨e,τ2,hbig,hk2⟩:=wn (b9 X) V {S with pin:=fun _=>false} ann hC fuel b hk
  refine .inr ⟨hh,caps,e,τ2,hk2,fun c hP hnt a w g D Q hs hdef hl=>wp_seq (wp_region ?_)⟩
  have hsz:ops.size=2:=by have:=congrArg List.length hops;simpa using this
  have h0:ops[0]? =some o:=by rw [←Array.getElem?_toList,hops];rfl
  have h1:ops[1]? =some q:=by rw [←Array.getElem?_toList,hops];rfl
  rw [hsz,show List.range 2=[0,1] from rfl]
  simp only [wpOps,h0,h1]
  rw [if_pos (by simp [Region.wanted,ho2])]
  refine .inl (lq hI hS hP o a w σ g D .done τ0 [] gp _ _ (by rw [hnt];exact hdo) hs hrel ⟨fun _ a2 w2 g2 D2 hd2 hs2=> ?_,fun v hv=>by cases hv⟩)
  rw [if_pos (by simp [Region.wanted,hq3])]
  refine .inl ?_
  have hs3:=hs2.eqv ht
  have hR:=hs3.regs n
  rw [hfun] at hR
  generalize hev:a2.tmps.getD n undef=ev at hR
  cases hR with
  |func _ _ _ vs us hvs hus hf1 hf2=>
  have hvs0:vs= #[]:=by
   have:vs.size=0:=by simpa using hvs
   exact Array.eq_empty_of_size_eq_zero this
  subst hvs0
  obtain ⟨qd,qo,qt,qp,qa,qg⟩:=q
  simp only at hq1 hq2 hq3
  subst hq1;subst hq2;subst hq3
  have hrun:(execOp a2.eval ⟨none,.defer cl,qt,qp,qa,none⟩).run P w2= .ok (.defer {target:= .fn (.func hh) us,args:= #[]}) w2:=by
   have hev':a2.eval (.tmp n)= .func (.func hh) #[] us:=hev
   simp [execOp,resolve,hcl,hargs,hev',Deferred.ofValue]
  unfold Oper.wp
  rw [hrun,Oper.upon_defer]
  have hids: ∀id∈PV.idsL caps,1000000≤id∧ ∃b,g2.μ id=some b:=by
   intro id hid
   obtain ⟨p,hpm,hpi⟩: ∃p∈caps,id∈p.ids:=by
    clear hl hk2 hbig hk hf1 hf2 hus hfun hp h step
    induction caps with
    |nil=>cases hid
    |cons p caps ih=>
     simp only [PV.idsL,List.mem_append] at hid
     rcases hid with hid|hid
     ·exact ⟨p,by simp,hid⟩
     ·obtain ⟨q,hq,hqi⟩:=ih hid;exact ⟨q,by simp [hq],hqi⟩
   have hpp:=List.all_eq_true.1 hp p hpm
   obtain ⟨j,hj⟩:=List.mem_iff_getElem?.1 hpm
   have hr:=hf2 j p hj
   cases p with
   |ptr id' off=>
    simp only [PV.ids,List.mem_singleton] at hpi
    subst hpi
    refine ⟨by simpa [PV.pinned] using hpp, ?_⟩
    generalize us.getD j undef=uv at hr
    cases hr with
    |ptr _ _ b hb=>exact ⟨b,hb⟩
   |_=>cases hpp
  have hcnt:c.nt≤1000000:=by rw [hnt];exact hlow
  refine lQ (S:={S with pin:=fun _=>false}) hm (lq hI hS fun d hd=>by cases hd) (c:=c.refix g2.μ (PV.idsL caps) hcnt fun id hid=>(hids id hid).1) hnt hbig _ w2 g2 D2 Q hs3.refix ?_
  have hld:=hl us (c.refix g2.μ (PV.idsL caps) hcnt fun id hid=>(hids id hid).1) (fun w0 N0 n m ν δ hc=>CtxOf.refix hs3 (fun id hid=>(hids id hid).2) hc) rfl ⟨hus,fun j p hj=> ?_⟩
  ·have hd3:((Act.put {a2 with defers:={target:= .fn (.func hh) us,args:= #[]}::a2.defers} none undef).defers)=[{target:= .fn (.func hh) us,args:= #[]}]:=by
    have:a2.defers=[]:=hd2.trans hdef
    simp [Act.put,this]
   rw [hd3];exact hld
  ·have hpp:=List.all_eq_true.1 hp p (List.mem_of_getElem? hj)
   have hr:=hf2 j p hj
   cases p with
   |ptr id off=>
    have hin:id∈PV.idsL caps:=dZ hj id (by simp [PV.ids])
    generalize us.getD j undef=uv at hr
    cases hr with
    |ptr _ _ b hb=>exact ⟨id,off,b,rfl,by simp only [Ctx.refix];rw [if_pos hin];exact hb,rfl⟩
   |_=>cases hpp
 |_=>intro σ κ0 κ1 x h;cases h
end
end Go.Proofs.YtapmagaejigpnaaGreatDoor.PI
namespace Go.Proofs.YtapmagaejigpnaaGreatDoor.PI
open Go
set_option linter.unusedVariables false
set_option linter.unusedSimpArgs false
section
variable {U:Uni} {V:Env U} {P:Program} {X:Link V P}
theorem zH {fn:Func} {w0:World} {N0:aA} {n m:Nat} {ν:Nat→Nat} {δ:Nat→Option Nat} {c':Ctx} (hc:CtxOf c' w0 N0 n m ν δ) (hdom: ∀j b,δ j=some b→j<m) {v:PV U} {u u':FrameMode} (hv:RcvOK v u u')
  {hh:FuncId} {caps:List (PV U)} {us:Array Value} (hct:wR c' caps us) {τ τ1:St U} {r:MR U} {τ0:St U} {gp gp':List Loc} {K:bQ U} {keep:Bool} {hand:List Bool} {out:Out U} {τ2:St U}
  (hrel:(fM (PV.idsL caps) fun _=>gj [] none (.func hh [] caps) []).Rel (g4 X (iX P u u')) τ [] r τ0 gp) (hr:r= .done) (ht:τ0.eqv τ1) (hret:(gP V keep hand fn.results.toList n).Rel K τ1 [] (.out out) τ2 gp')
  {a:Act} {w:World} {g:Gh U} {D:Nat→Option Nat} (hs:Sim X c' a.tmps w τ g D):
  Leaves P fn a.tmps (dM X w0 N0 ν δ n m out) [{target:= .fn (.func hh) us,args:= #[]}] u w:=by
 obtain ⟨bs,fp1,hrel1,hkeys,hbs⟩:=ze _ hrel
 have hR:Rep X w (c'.N g D) g (.func (.func hh) #[] us) (.func hh [] caps):=by
  refine .func hh [] caps #[] us rfl hct.1 (by simp) fun j p hp=> ?_
  obtain ⟨id,off,b,rfl,hfix,hus⟩:=hct.2 j p hp
  rw [hus]
  refine .ptr id off b ?_
  have hin:id∈PV.idsL caps:=dZ hp id (by simp [PV.ids])
  rw [←hkeys] at hin
  obtain ⟨x,hx,rfl⟩:=List.mem_map.1 hin
  obtain ⟨k,hk,_⟩:=hs.boxes x.1 x.2 (hbs x hx)
  rcases hs.fix _ _ hk with h1|⟨h1,_⟩
  ·rw [hfix] at h1;injection h1 with h1;rw [h1];exact hk
  ·rw [hfix] at h1;cases h1
 obtain ⟨f,a0s,bs',hfv,⟨fnh,hfh,hnameh,hbodyh⟩,hcall⟩:=Dp (X:=X) (c:=c') (a:=a) (dst:=none) (o:=⟨none,.move (.const undef),0, "",#[],none⟩) (CP:=iX P u u') (xs:= #[])
  (next:=fun a2 w2=>Leaves P fn a2.tmps (dM X w0 N0 ν δ n m out) [] .returning w2) (Q:=fun _ _ _=>False)
  (fun {f vs w R R'} h hm=>CallsD.mono h fun e u2 w2 ⟨h1,h2⟩=>⟨h1,hm e w2 h2⟩) hs hR rfl (by simp) rfl rfl hrel1
  ⟨fun _ a2 w2 g2 D2 _ hs2=>by
   obtain ⟨v,h1,h2⟩:=nS hc hdom (hs2.eqv ht) hret
   exact ⟨v,h1,h2⟩,fun v hv=>by rw [hr] at hv;cases hv⟩
 injection hfv with e1 e2 e3
 injection e1 with e1
 subst e1;subst e2;subst e3
 have hun:u≠ .run:=by cases hv<;>simp
 refine leaves_cons hun (f:=hh) (args:= #[]++us) (by simp only [invoke];exact Jt hfh hnameh hbodyh _ w) ?_
 have hcall2:CallsD P hh (#[]++us) u w fun e u2 w'=>u2=u'∧(match e,w' with
    | .returned v,w''=>Leaves P fn (a.put none v).tmps (dM X w0 N0 ν δ n m out) [] .returning w''
    | .panicked chain,w''=>False
    | .outgrown,_=>LetsOut (fun _ _ _=>False)):=by
  have:=hcall
  simp only [Array.append_empty] at this
  exact this.mono fun e u2 w2 ⟨h1,h2⟩=>⟨h1,by cases e<;>exact h2⟩
 refine hcall2.mono fun e u2 w2 ⟨h1,h2⟩=> ?_
 subst h1
 cases e with
 |returned rv=>
  simp only [Act.put] at h2
  have hset:settle u2= .returning:=by cases hv<;>rfl
  simp only [hset]
  exact h2
 |panicked chain=>exact h2.elim
 |outgrown=>obtain ⟨_,_,h⟩:=h2;exact h.elim
theorem Yy (hm:P.follows .mixedOrders=true) (hI:iY X) {S:Side U} (hS:S.rcv=none) {R:Type} {C:Oracle U R} (hC:C.Tells (b9 X)) {Cd:PV U→Oracle U R} (hCd: ∀v u u',RcvOK v u u'→(Cd v).Tells (g4 X (iX P u u')))
  {f:FuncId} {fn:Func} (hf:P.funcs[f]? =some fn)
  (hname:(fn.name== "runtime.NumGoroutine")=false) (hbody:fn.body.isNone=false) (hnt:fn.ntmps=S.nt) (hlow:S.nt≤1000000) {args:List (PV U)} {boxes:List (Box U)} (hargs:args.length≤S.nt) (hboxes:boxes.length≤1000000)
  {ann:Nat→Option Ann} {fuel:Nat} {keep:Bool} {hand:List Bool} {κ:Out U→Option R} {x:R} (h:Be V S C ann fuel Cd keep hand fn args boxes κ=some x): ∃out,κ out=some x∧b9 X f args boxes out:=by
 obtain ⟨code,hcode⟩: ∃code,fn.body=some code:=by
  cases hb:fn.body with
  |none=>rw [hb] at hbody;cases hbody
  |some code=>exact ⟨code,rfl⟩
 unfold Be fb at h
 rw [hcode] at h
 have hpin: ∀ {w:World} {vs:Array Value} {N0:aA} {ν:Nat→Nat} {δ:Nat→Option Nat} (hg:Given X w vs N0 ν δ args boxes),PinOK S (eW w N0 boxes.length args.length ν δ S.nt hlow hg.bnd X.gblk hg.glob):=by
  intro w vs N0 ν δ hg d _
  simp only [eW]
  rw [if_neg (by omega)]
 rcases Yz (X:=X) hm hI hS hlow hC code h with ⟨e,τ,he,hk,hB⟩|⟨hh,caps,e,τ,hk,hB⟩
 ·have key: ∀ {out:Out U},(∀ (w:World) (vs:Array Value) (N0:aA) (ν:Nat→Nat) (δ:Nat→Option Nat) (hg:Given X w vs N0 ν δ args boxes),
    Lands X (eW w N0 boxes.length args.length ν δ S.nt hlow hg.bnd X.gblk hg.glob) [] e τ (bodyPost P fn (dM X w N0 ν δ boxes.length args.length out)))→b9 X f args boxes out:=by
   intro out hl
   refine ⟨⟨fn,hf,hname,hbody⟩,fun w vs N0 ν δ hg=>calls_of_wp hf hcode ?_⟩
   have hs:=wF hg hargs hlow
   rw [hnt]
   exact hB _ (hpin hg) rfl _ w _ _ _ hs (hl w vs N0 ν δ hg)
  cases e with
  |exit id=>cases hk
  |normal=>exact absurd rfl he
  |ret=>
   obtain ⟨r,τ0,τ1,gp,hr,ht,hfin⟩:=fc hC _ hk (St.eqv.refl τ)
   cases r with
   |out o=>
    refine ⟨o,hfin,key fun w vs N0 ν δ hg a' w' g' D' hd hs=> ?_⟩
    obtain ⟨v,h1,h2⟩:=nS iV hg.dom hs hr
    exact ⟨hd,v,h1,h2⟩
   |_=>cases hfin
  |panic v=>
   obtain ⟨r,τ0,τ1,gp,hr,ht,hfin⟩:=fc hC _ hk (St.eqv.refl τ)
   cases r with
   |out o=>
    refine ⟨o,hfin,key fun w vs N0 ν δ hg a' w' g' D' hd hs val hval=> ?_⟩
    exact ⟨hd,Ap iV hg.dom hs hval hr⟩
   |_=>cases hfin
 ·have key: ∀ {out:Out U},(∀ (w:World) (vs:Array Value) (N0:aA) (ν:Nat→Nat) (δ:Nat→Option Nat) (hg:Given X w vs N0 ν δ args boxes) (us:Array Value) (c':Ctx),CtxOf c' w N0 boxes.length args.length ν δ→wR c' caps us→
    Lands X c' [{target:= .fn (.func hh) us,args:= #[]}] e τ (bodyPostD P fn (dM X w N0 ν δ boxes.length args.length out)))→b9 X f args boxes out:=by
   intro out hl
   refine ⟨⟨fn,hf,hname,hbody⟩,fun w vs N0 ν δ hg=>calls_of_wp_defers hf hcode ?_⟩
   have hs:=wF hg hargs hlow
   rw [hnt]
   exact hB _ (hpin hg) rfl _ w _ _ _ hs rfl fun us c' hcx _ hct=>hl w vs N0 ν δ hg us c' (hcx _ _ _ _ _ _ iV) hct
  have fin: ∀ {v:PV U} {u u':FrameMode},RcvOK v u u'→(fM (PV.idsL caps) fun _=>gj [] none (.func hh [] caps) []).cps (Cd v) τ [] (fun| .done,σ',_=>(gP V keep hand fn.results.toList boxes.length).cps C σ' [] (Go.Proofs.YtapmagaejigpnaaGreatDoor.PI.fin κ)|_,_,_=>none)=some x→
    ∃ (out:Out U) (r:MR U) (τ0 τ1 τ2:St U) (gp gp':List Loc),κ out=some x∧(fM (PV.idsL caps) fun _=>gj [] none (.func hh [] caps) []).Rel (g4 X (iX P u u')) τ [] r τ0 gp∧r= .done∧τ0.eqv τ1∧(gP V keep hand fn.results.toList boxes.length).Rel (b9 X) τ1 [] (.out out) τ2 gp':=by
   intro v u u' hv hk
   obtain ⟨r,τ0,τ1,gp,hr,ht,hk1⟩:=fc (hCd v u u' hv) _ hk (St.eqv.refl τ)
   cases r with
   |raise v=>cases hk1
   |out o=>cases hk1
   |done=>
    obtain ⟨r',τ2,τ3,gp',hr',ht',hk2⟩:=fc hC _ hk1 (St.eqv.refl τ1)
    cases r' with
    |out o=>exact ⟨o,.done,τ0,τ1,τ2,gp,gp',hk2,hr,rfl,ht,hr'⟩
    |_=>cases hk2
  cases e with
  |exit id=>cases hk
  |normal=>
   obtain ⟨out,r,τ0,τ1,τ2,gp,gp',h1,h2,h3,h4,h5⟩:=fin .nil hk
   refine ⟨out,h1,key fun w vs N0 ν δ hg us c' hcx hct a' w' g' D' hd hs=> ?_⟩
   simp only [bodyPostD,hd]
   exact zH hcx hg.dom .nil hct h2 h3 h4 h5 hs
  |ret=>
   obtain ⟨out,r,τ0,τ1,τ2,gp,gp',h1,h2,h3,h4,h5⟩:=fin .nil hk
   refine ⟨out,h1,key fun w vs N0 ν δ hg us c' hcx hct a' w' g' D' hd hs=> ?_⟩
   simp only [bodyPostD,hd]
   exact zH hcx hg.dom .nil hct h2 h3 h4 h5 hs
  |panic v=>
   simp only [kD] at hk
   split at hk
   case h_2=>cases hk
   rename_i t k n'
   obtain ⟨out,r,τ0,τ1,τ2,gp,gp',h1,h2,h3,h4,h5⟩:=fin (.err t k n') hk
   refine ⟨out,h1,key fun w vs N0 ν δ hg us c' hcx hct a' w' g' D' hd hs val hval=> ?_⟩
   simp only [bodyPostD,hd]
   cases hval with
   |iface _ u _ hu=>cases hu;exact zH hcx hg.dom (.err t k n') hct h2 h3 h4 h5 hs
end
end Go.Proofs.YtapmagaejigpnaaGreatDoor.PI
namespace Go.Proofs.YtapmagaejigpnaaGreatDoor
open Go PI
set_option linter.unusedVariables false
set_option maxRecDepth 100000
noncomputable section
noncomputable def qk:ET→TypeId
 | .C=>61
 | .T=>26
 | .B=>63
 | .I=>3
 | .F=>22
noncomputable def mA:ET→Nat
 | .C=>2
 | .T=>6
 | .B=>2
 | .I=>1
 | .F=>1
noncomputable def uS:ET→Nat
 | .C=>8
 | .T=>104
 | .B=>48
 | .I=>8
 | .F=>24
noncomputable def u1 (e:ET):Value:=((Tryz.prog.info? (qk e)).bind (·.zero)).getD undef
noncomputable def y9 (e:ET):Bool:=match Tryz.prog.info? (qk e) with
 |some i=>i.zero.isSome&&(Nat.beq i.size (mA e)&&Nat.beq i.bytes (uS e))&&Nat.beq (u1 e).cells.size (mA e)
 | .none=>false
theorem Ei (e:ET):y9 e=true:=by cases e<;>kernel_rfl
theorem Mq: ∀t r,rY t=some r→C5 Tryz.prog qk t r=true:=by
 intro t r h
 unfold rY at h
 split at h<;>first|(injection h with h;subst h;kernel_rfl)|cases h
theorem UZ: ∀t r e,rY t=some r→r.keys=some e→e= .C:=by
 intro t r e h hk
 unfold rY at h
 split at h<;>first|(injection h with h;subst h;cases hk;done)|(injection h with h;subst h;injection hk with hk;exact hk.symm)|cases h
theorem aaE: ∀e cs y,Mm e cs=some y→cs.length=mA e∧cs.all PV.isCell=true∧ ∀ (k:Nat) p,cs[k]? =some p→ ∃q,(cW e y)[k]? =some q∧p.less q:=by
 have hC: ∀ {p:PU} {l},ow p=some l→ ∃o,p= .sl (U:=UU) ET.C l o:=by
  intro p l h;unfold ow at h;split at h<;>first|(injection h with h;subst h;exact ⟨_,rfl⟩)|cases h
 have hT: ∀ {p:PU} {l},sf p=some l→ ∃o,p= .sl (U:=UU) ET.T l o:=by
  intro p l h;unfold sf at h;split at h<;>first|(injection h with h;subst h;exact ⟨_,rfl⟩)|cases h
 have hB: ∀ {p:PU} {l},xU p=some l→ ∃o,p= .sl (U:=UU) ET.B l o:=by
  intro p l h;unfold xU at h;split at h<;>first|(injection h with h;subst h;exact ⟨_,rfl⟩)|cases h
 intro e cs y h
 cases e
 ·have h:C1 cs=some y:=h
  unfold C1 at h
  split at h
  case h_2=>cases h
  injection h with h;subst h
  refine ⟨rfl,rfl,fun k p hp=> ?_⟩
  match k,hp with
  |0,hp=>exact ⟨_,rfl,.inl (Option.some.inj hp).symm⟩
  |1,hp=>exact ⟨_,rfl,.inl (Option.some.inj hp).symm⟩
  |k+2,hp=>simp at hp
 ·have h:C4 cs=some y:=h
  unfold C4 at h
  split at h
  case h_2=>cases h
  split at h
  case h_2=>cases h
  rename_i h1 h2 h3
  injection h with h;subst h
  obtain ⟨o1,rfl⟩:=hC h1;obtain ⟨o2,rfl⟩:=hT h2;obtain ⟨o3,rfl⟩:=hB h3
  refine ⟨rfl,rfl,fun k p hp=> ?_⟩
  match k,hp with
  |0,hp=>exact ⟨_,rfl,.inl (Option.some.inj hp).symm⟩
  |1,hp=>exact ⟨_,rfl,.inl (Option.some.inj hp).symm⟩
  |2,hp=>exact ⟨_,rfl,.inl (Option.some.inj hp).symm⟩
  |3,hp=>exact ⟨_,rfl,.inr ⟨_,_,_,(Option.some.inj hp).symm,rfl⟩⟩
  |4,hp=>exact ⟨_,rfl,.inr ⟨_,_,_,(Option.some.inj hp).symm,rfl⟩⟩
  |5,hp=>exact ⟨_,rfl,.inr ⟨_,_,_,(Option.some.inj hp).symm,rfl⟩⟩
  |k+6,hp=>simp at hp
 ·have h:C0 cs=some y:=h
  unfold C0 at h
  split at h
  case h_2=>cases h
  split at h
  case h_2=>cases h
  rename_i h1 h2
  injection h with h;subst h
  obtain ⟨o1,rfl⟩:=hC h1;obtain ⟨o2,rfl⟩:=hT h2
  refine ⟨rfl,rfl,fun k p hp=> ?_⟩
  match k,hp with
  |0,hp=>exact ⟨_,rfl,.inr ⟨_,_,_,(Option.some.inj hp).symm,rfl⟩⟩
  |1,hp=>exact ⟨_,rfl,.inr ⟨_,_,_,(Option.some.inj hp).symm,rfl⟩⟩
  |k+2,hp=>simp at hp
 ·have h:C3 cs=some y:=h
  unfold C3 at h
  split at h
  case h_2=>cases h
  injection h with h;subst h
  refine ⟨rfl,rfl,fun k p hp=> ?_⟩
  match k,hp with
  |0,hp=>exact ⟨_,rfl,.inl (Option.some.inj hp).symm⟩
  |k+1,hp=>simp at hp
 ·have h:C2 cs=some y:=h
  unfold C2 at h
  split at h
  case h_2=>cases h
  obtain ⟨o1,rfl⟩:=hC h
  refine ⟨rfl,rfl,fun k p hp=> ?_⟩
  match k,hp with
  |0,hp=>exact ⟨_,rfl,.inr ⟨_,_,_,(Option.some.inj hp).symm,rfl⟩⟩
  |k+1,hp=>simp at hp
theorem TG (e:ET): ∃i,Tryz.prog.info? (qk e)=some i∧i.zero=some (u1 e)∧i.size=mA e∧i.bytes=uS e:=by
 have h:=Ei e
 unfold y9 at h
 split at h
 ·rename_i i hi
  simp only [Bool.and_eq_true] at h
  obtain ⟨⟨h1,h2,h3⟩,h4⟩:=h
  refine ⟨i,hi, ?_,by simpa using h2,by simpa using h3⟩
  unfold u1
  rw [hi]
  obtain ⟨z,hz⟩:=Option.isSome_iff_exists.1 h1
  simp [hz]
 ·cases h
noncomputable def LL (o:Obj):Link VV Tryz.prog where
 gblk:=[(0,o)]
 etid:=qk
 esize:=mA
 ebytes:=uS
 ezero:=u1
 einfo:=TG
 zsize:=fun e=>by
  have h:=Ei e
  unfold y9 at h
  split at h
  ·simp only [Bool.and_eq_true] at h
   exact by simpa using h.2
  ·cases h
 epos:=fun e=>by cases e<;>decide
 broom:=fun e n h=>by
  have h':n≤1099511627776:=h
  cases e<;>simp only [uS,maxLen]<;>omega
 len:=fun e x=>by cases e<;>rfl
 small:=fun e=>by cases e<;>decide
 ecell':=fun e x=>by cases e<;>rfl
 toEl:=aaE
 ty:=fun t r h=>Mp (Mq t r h)
 keyT:=fun t r e h hk=>by
  have he:=UZ t r e h hk
  subst he
  obtain ⟨fs,h1,h2,_,h4,h5⟩:=(Mp (Mq 61 _ rfl)).isInts rfl
  exact ⟨⟨fs,h1,h2,h4,h5⟩,fun x y=>⟨_,by simp only [VV,cW,PV.eqvI];rfl⟩⟩
theorem Ad:Tryz.prog.follows .mixedOrders=true:=by kernel_rfl
theorem sw {A B:Out UU→Prop} (h: ∃out,A out∧B out): ∃out,B out∧A out:=by obtain ⟨o,a,b⟩:=h;exact ⟨o,b,a⟩
theorem Re {S:Type} {b:Bool} {x y:Option S} {v:S} (h:(bif b then x else y)=some v):x=some v∨y=some v:=by
 cases b
 ·exact .inr h
 ·exact .inl h
end
end Go.Proofs.YtapmagaejigpnaaGreatDoor
namespace Go.Proofs.YtapmagaejigpnaaGreatDoor
open Go PI
set_option linter.unusedVariables false
def U32 (s:Int):Prop:=0≤s∧s<4294967296
theorem U32.nat {s:Int} (h:U32 s): ∃n:Nat,n<4294967296∧s=n:=⟨s.toNat,by have:=h.1;have:=h.2;omega,by have:=h.1;omega⟩
theorem ko {n:Nat} (h:n<4294967296):(BitVec.ofInt 32 (n:Int)).toNat=n:=by
 simp [BitVec.toNat_ofInt]
 omega
theorem iW (n:Nat) (h:n<4294967296):IntKind.wrap .u32 (n:Int)=n:=by
 simp [IntKind.wrap,IntKind.bits,IntKind.signed];omega
theorem fA (n:Nat) (h:n<18446744073709551616):IntKind.wrap .u64 (n:Int)=n:=by
 simp [IntKind.wrap,IntKind.bits,IntKind.signed];omega
theorem c8 {n:Int} (h1: -9223372036854775808≤n) (h2:n<9223372036854775808):IntKind.wrap .i64 n=n:=by
 simp [IntKind.wrap,IntKind.bits,IntKind.signed];omega
theorem ov {a b n:Nat} (h:a<2^n):a&&&b<2^n:=Nat.lt_of_le_of_lt Nat.and_le_left h
theorem i8 {a b:Nat} (ha:a<4294967296) (hb:b<4294967296):aS .and .u32 (a:Int) (b:Int)=((a&&&b:Nat):Int):=by
 have h1:=ko ha;have h2:=ko hb
 simp only [aS]
 show IntKind.wrap .u32 (((BitVec.ofInt 32 (a:Int))&&&(BitVec.ofInt 32 (b:Int))).toNat:Int)=_
 rw [BitVec.toNat_and,h1,h2]
 exact iW _ (ov (n:=32) ha)
theorem sh {a b:Nat} (ha:a<4294967296) (hb:b<4294967296):aS .or .u32 (a:Int) (b:Int)=((a|||b:Nat):Int):=by
 have h1:=ko ha;have h2:=ko hb
 simp only [aS]
 show IntKind.wrap .u32 (((BitVec.ofInt 32 (a:Int))|||(BitVec.ofInt 32 (b:Int))).toNat:Int)=_
 rw [BitVec.toNat_or,h1,h2]
 exact iW _ (Nat.or_lt_two_pow (n:=32) ha hb)
def cM (a b:Nat):Nat:=a^^^(a&&&b)
theorem iE (a b i:Nat):(cM a b).testBit i=(a.testBit i&& !b.testBit i):=by
 simp only [cM,Nat.testBit_xor,Nat.testBit_and]
 cases a.testBit i<;>cases b.testBit i<;>rfl
theorem q_ {a b n:Nat} (h:a<2^n):cM a b<2^n:=Nat.xor_lt_two_pow h (ov h)
theorem xV {a b:Nat} (ha:a<4294967296) (hb:b<4294967296):aS .andNot .u32 (a:Int) (b:Int)=((cM a b:Nat):Int):=by
 have h1:=ko ha;have h2:=ko hb
 simp only [aS]
 show IntKind.wrap .u32 (((BitVec.ofInt 32 (a:Int))&&& ~~~(BitVec.ofInt 32 (b:Int))).toNat:Int)=_
 have e:((BitVec.ofInt 32 (a:Int))&&& ~~~(BitVec.ofInt 32 (b:Int))).toNat=cM a b:=by
  apply Nat.eq_of_testBit_eq
  intro i
  rw [iE,BitVec.toNat_and,Nat.testBit_and,h1]
  by_cases hi:i<32
  ·have:(~~~(BitVec.ofInt 32 (b:Int))).toNat.testBit i= !b.testBit i:=by
    rw [←BitVec.getLsbD,BitVec.getLsbD_not]
    rw [BitVec.getLsbD,h2];simp [hi]
   rw [this]
  ·have:a.testBit i=false:=Nat.testBit_lt_two_pow (Nat.lt_of_lt_of_le ha (by exact Nat.pow_le_pow_right (n:=2) (by decide) (show 32≤i by omega)))
   simp [this]
 rw [e]
 exact iW _ (q_ (n:=32) ha)
theorem aG {α:Type} (p:Prop) [Decidable p] (x y:α):ab (decide p) x y=if p then x else y:=by
 by_cases h:p
 ·rw [decide_eq_true h,if_pos h,ad]
 ·rw [decide_eq_false h,if_neg h,ac]
theorem b8 {α:Type} (c:Bool) (x y:α):ab c x y=if c=true then x else y:=by
 cases c
 ·exact ac x y
 ·exact ad x y
abbrev Fu (k:Nat):Prop:=4294967296≤k
theorem ah {R S:Type} {k:Nat} (h:Fu k) (f:(R→Option S)→Option S) (g:R→Option S):aa k f g=f g:=Rl (by have:4294967296≤k:=h;omega) f g
theorem aV {S:Type} {n m:Nat} (h:n+m≤1099511627776) (f:Unit→Option S):Option.bind (ax 1099511627776 n m) f=f ():=by
 have:n+m≤1099511627776:=h
 simp [ax,this]
theorem ay {α:Type} {l p r:List α} {x:α} (h:l=p++x::r) (hl:l.length<4611686018427387904):
  decide ((p.length:Int)<(l.length:Int))=true∧al l (p.length:Int)=some x∧IntKind.wrap .i64 ((p.length:Int)+1)=((p++[x]).length:Int)∧l=(p++[x])++r:=by
 subst h
 rw [List.length_append,List.length_cons] at hl
 refine ⟨decide_eq_true (by rw [List.length_append,List.length_cons];omega), ?_, ?_,by simp⟩
 ·simp [al]
 ·rw [List.length_append,List.length_cons,List.length_nil]
  simp [IntKind.wrap,IntKind.bits,IntKind.signed];omega
theorem az {α:Type} {l p:List α} (h:l=p++[]):decide ((p.length:Int)<(l.length:Int))=false:=by
 subst h
 exact decide_eq_false (by rw [List.append_nil];omega)
theorem ak {n m:Nat} (h:n<m): ∃q,m=q+1∧n≤q:=⟨m-1,by omega,by omega⟩
theorem gi {S:Type} (p:Prop) [Decidable p] (h:p) (f:Unit→Option S):Option.bind (bA p) f=f ():=by simp [bA,h]
theorem u_ {α:Type} (l:List α) (i:Nat):al l (i:Int)=l[i]? :=by simp [al]
end Go.Proofs.YtapmagaejigpnaaGreatDoor
namespace Go.Proofs.YtapmagaejigpnaaGreatDoor
open Go PI
set_option linter.unusedVariables false
set_option maxRecDepth 100000
noncomputable section
abbrev fB (S:Type):=Tm→Int→(Int→Option S)→Option S
def tj {S:Type} (hd:fB S) (k:Nat) (ret:Int→Option S) (t:Tm) (most i7:Int) (rec1:Int→Int→Option S) (rec2:Int→Int→Option S) (v5'' v8:Int):Option S:=
 Option.bind (al t.sys i7) fun x5=>
 ab (decide ((v8:Int)<(x5.kids.length:Int))) (
 ab (decide ((v5'':Int)≤most)) (
  Option.bind (al t.sys i7) fun x6=>
  Option.bind (al x6.kids v8) fun x7=>
  hd (ae x7) (IntKind.wrap .i64 (most-v5'')) fun r8=>
   rec2 (IntKind.wrap .i64 (v5''+r8)) (IntKind.wrap .i64 (v8+1))) (
   rec1 v5'' (IntKind.wrap .i64 (i7+1)))) (
  rec1 v5'' (IntKind.wrap .i64 (i7+1)))
noncomputable def ir {S:Type} (hd:fB S) (k:Nat) (ret:Int→Option S) (rec1:Int→Int→Option S) (t:Tm) (most i7:Int):Nat→Int→Int→Option S
 |0=>fun _ _=> .none
 |m+1=>fun v5'' v8=>tj hd k ret t most i7 rec1 (ir hd k ret rec1 t most i7 m) v5'' v8
def oR {S:Type} (hd:fB S) (k:Nat) (ret:Int→Option S) (t:Tm) (most:Int) (J2:Int→Int→Int→Option S) (rec1:Int→Int→Option S) (v5' i7:Int):Option S:=
 ab (decide ((i7:Int)<(t.sys.length:Int))) (
 ab (decide ((v5':Int)≤most)) (
  Option.bind (al t.sys i7) fun x3=>
  ab (decide (((x3.face.length:Int):Int)>most)) (
  ret (IntKind.wrap .i64 (most+1))) (
  Option.bind (al t.sys i7) fun x4=>
    J2 i7 (IntKind.wrap .i64 ((IntKind.wrap .i64 (v5'+1))+(x4.face.length:Int))) 0)) (
  ret v5')) (
 ret v5')
noncomputable def gI {S:Type} (hd:fB S) (k:Nat) (ret:Int→Option S) (t:Tm) (most:Int):Nat→Int→Int→Option S
 |0=>fun _ _=> .none
 |m+1=>fun v5' i7=>oR hd k ret t most (fun i7 v5'' v8=>ir hd k ret (gI hd k ret t most m) t most i7 k v5'' v8) (gI hd k ret t most m) v5' i7
def oQ {S:Type} (hd:fB S) (k:Nat) (ret:Int→Option S) (t:Tm) (most:Int) (J1:Int→Int→Option S) (rec0:Int→Int→Option S) (v5 i6:Int):Option S:=
 ab (decide ((i6:Int)<(t.kids.length:Int))) (
 ab (decide ((v5:Int)≤most)) (
  Option.bind (al t.kids i6) fun x1=>
  hd (ae x1) (IntKind.wrap .i64 (most-v5)) fun r2=>
   rec0 (IntKind.wrap .i64 (v5+r2)) (IntKind.wrap .i64 (i6+1))) (
   J1 v5 0)) (
  J1 v5 0)
noncomputable def kY {S:Type} (hd:fB S) (k:Nat) (ret:Int→Option S) (t:Tm) (most:Int):Nat→Int→Int→Option S
 |0=>fun _ _=> .none
 |m+1=>fun v5 i6=>oQ hd k ret t most (fun v5' i7=>gI hd k ret t most k v5' i7) (kY hd k ret t most m) v5 i6
def CB {S:Type} (hd:fB S) (k:Nat) (ret:Int→Option S) (J0:Int→Int→Option S) (t:Tm) (most:Int):Option S:=
 ab (decide (((t.r.length:Int):Int)>most)) (
 ret (IntKind.wrap .i64 (most+1))) (
 ab (decide (((t.name.size:Int):Int)>most)) (
  ret (IntKind.wrap .i64 (most+1))) (
   J0 (IntKind.wrap .i64 ((IntKind.wrap .i64 (1+(t.r.length:Int)))+(t.name.size:Int))) 0))
noncomputable def dG {S:Type}:Nat→Tm→Int→(Int→Option S)→Option S
 |0=>fun _ _ _=> .none
 |k+1=>fun t most ret=>CB (dG k) k ret (fun v5 i6=>kY (dG k) k ret t most k v5 i6) t most
def Lj {S:Type} (k:Nat) (ret:Bool→Option S) (a b:Tm) (sys:List (Br Tm)):Option S:=
 dG k (ae a) 150 fun r1=>
 ab (decide ((r1:Int)>150)) (
 ret true) (
 dG k (ae b) 150 fun r2=>
 ab (decide ((r2:Int)>150)) (
  ret true) (
  dG k (Tm.mk 0 0 ByteArray.empty [] [] sys) 150 fun r3=>
  ret (decide ((r3:Int)>150))))
noncomputable def uh {S:Type} (k:Nat) (a b:Tm) (sys:List (Br Tm)) (ret:Bool→Option S):Option S:=Lj k ret a b sys
def Ma {S:Type} (k:Nat) (ret:Int×Int→Option S) (kind kid:Int):Option S:=
 ab (kind==4) (
 ab (kid==1) (
  ret (1,0)) (
  ret (0,0))) (
 ab (kind==7) (
  ab (kid==1) (
  ret (1,0)) (
  ret (0,0))) (
  ab (kind==5) (
  ab (kid==0) (
   ret (1,0)) (
   ret (0,0))) (
  ab (kind==22) (
   ab (kid==0) (
   ret (1,0)) (
   ret (0,0))) (
   ab (kind==27) (
   ab (kid==0) (
    ret (1,0)) (
    ret (0,0))) (
   ab (kind==11) (
    ab (kid==0) (
    ret (0,1)) (
    ret (0,0))) (
    ab (kind==12) (
    ab (kid==0) (
     ret (0,1)) (
     ret (0,0))) (
    ab (kind==14) (
     ab (kid==0) (
     ret (0,1)) (
     ret (0,0))) (
     ret (0,0)))))))))
noncomputable def ji {S:Type} (k:Nat) (kind kid:Int) (ret:Int×Int→Option S):Option S:=Ma k ret kind kid
abbrev cR (S:Type):=Tm→Int→(Bool→Option S)→Option S
noncomputable def CX {S:Type} (hd:cR S) (k:Nat) (ret:Bool→Option S) (a_k:Tm) (p p' c0:Int):Option S:=
 hd (ae a_k) (IntKind.wrap .i64 (c0-1)) fun r1=>
 ret r1
noncomputable def p5 {S:Type} (hd:cR S) (k:Nat) (a_k:Tm) (p p' c0:Int) (ret:Bool→Option S):Option S:=CX hd k ret a_k p p' c0
def tC {S:Type} (hd:cR S) (k:Nat) (ret:Bool→Option S) (c0:Int) (t:Tm) (v42:Int) (x4:(Br Tm)) (more9:Int) (rec1:Int→Int→Option S) (rec2:Int→Option S) (v49:Int):Option S:=
 ab (decide ((v49:Int)<(x4.kids.length:Int))) (
 Option.bind (al x4.kids v49) fun x5=>
 aa k (p5 hd k (ae x5) 0 more9 c0) fun r6=>
 ab (!r6) (
  ret false) (
   rec2 (IntKind.wrap .i64 (v49+1)))) (
  rec1 (IntKind.wrap .i64 (v42+1)) more9)
noncomputable def jO {S:Type} (hd:cR S) (k:Nat) (ret:Bool→Option S) (rec1:Int→Int→Option S) (c0:Int) (t:Tm) (v42:Int) (x4:(Br Tm)) (more9:Int):Nat→Int→Option S
 |0=>fun _=> .none
 |m+1=>fun v49=>tC hd k ret c0 t v42 x4 more9 rec1 (jO hd k ret rec1 c0 t v42 x4 more9 m) v49
def pf {S:Type} (hd:cR S) (k:Nat) (ret:Bool→Option S) (c0:Int) (t:Tm) (J2:Int→(Br Tm)→Int→Int→Option S) (rec1:Int→Int→Option S) (v42 more9:Int):Option S:=
 ab (decide ((v42:Int)<(t.sys.length:Int))) (
 Option.bind (al t.sys v42) fun x4=>
  J2 v42 x4 more9 0) (
 ret true)
noncomputable def fW {S:Type} (hd:cR S) (k:Nat) (ret:Bool→Option S) (c0:Int) (t:Tm):Nat→Int→Int→Option S
 |0=>fun _ _=> .none
 |m+1=>fun v42 more9=>pf hd k ret c0 t (fun v42 x4 more9 v49=>jO hd k ret (fW hd k ret c0 t m) c0 t v42 x4 more9 k v49) (fW hd k ret c0 t m) v42 more9
def pe {S:Type} (hd:cR S) (k:Nat) (ret:Bool→Option S) (c0:Int) (t:Tm) (J1:Int→Int→Option S) (rec0:Int→Option S) (v17:Int):Option S:=
 ab (decide ((v17:Int)<(t.kids.length:Int))) (
 Option.bind (al t.kids v17) fun x1=>
 aa k (ji k t.kind v17) fun r2=>
 aa k (p5 hd k (ae x1) r2.1 r2.2 c0) fun r3=>
 ab (!r3) (
  ret false) (
   rec0 (IntKind.wrap .i64 (v17+1)))) (
 ab (t.kind==15) (
   J1 0 1) (
   J1 0 0))
noncomputable def nq {S:Type} (hd:cR S) (k:Nat) (ret:Bool→Option S) (c0:Int) (t:Tm):Nat→Int→Option S
 |0=>fun _=> .none
 |m+1=>fun v17=>pe hd k ret c0 t (fun v42 more9=>fW hd k ret c0 t k v42 more9) (nq hd k ret c0 t m) v17
noncomputable def CU {S:Type} (hd:cR S) (k:Nat) (ret:Bool→Option S) (J0:Int→Option S) (t:Tm) (c0:Int):Option S:=
 J0 0
noncomputable def yN {S:Type} (hd:cR S) (k:Nat) (t:Tm) (c0:Int) (ret:Bool→Option S):Option S:=CU hd k ret (fun v17=>nq hd k ret c0 t k v17) t c0
def Mg {S:Type} (hd:cR S) (k:Nat) (ret:Bool→Option S) (t:Tm) (left:Int):Option S:=
 ab (decide ((left:Int)>0)) (
 aa k (yN hd k (ae t) left) fun r1=>
 ret r1) (
 ret false)
noncomputable def gC {S:Type}:Nat→Tm→Int→(Bool→Option S)→Option S
 |0=>fun _ _ _=> .none
 |k+1=>fun t left ret=>Mg (gC k) k ret t left
abbrev cQ (S:Type):=Tm→Int→(Bool×Int→Option S)→Option S
def CZ {S:Type} (hd:cQ S) (k:Nat) (ret:Bool×Int→Option S) (t:Tm) (c0:Int):Option S:=
 ab (decide ((IntKind.wrap .i64 (c0-1):Int)≥0)) (
 hd (ae t) (IntKind.wrap .i64 (c0-1)) fun r1=>
 ret (r1.1,r1.2)) (
 ret (false,IntKind.wrap .i64 (c0-1)))
noncomputable def mn {S:Type} (hd:cQ S) (k:Nat) (t:Tm) (c0:Int) (ret:Bool×Int→Option S):Option S:=CZ hd k ret t c0
noncomputable def CY {S:Type} (hd:cQ S) (k:Nat) (ret:Bool×Int→Option S) (a_k:Tm) (p p' c1:Int):Option S:=
 aa k (mn hd k (ae a_k) c1) fun r1=>
 ret (r1.1,r1.2)
noncomputable def p7 {S:Type} (hd:cQ S) (k:Nat) (a_k:Tm) (p p' c1:Int) (ret:Bool×Int→Option S):Option S:=CY hd k ret a_k p p' c1
def tA {S:Type} (hd:cQ S) (k:Nat) (ret:Bool×Int→Option S) (t:Tm) (v42:Int) (x4:(Br Tm)) (more9:Int) (rec1:Int→Int→Int→Option S) (rec2:Int→Int→Option S) (e1_0'' v49:Int):Option S:=
 ab (decide ((v49:Int)<(x4.kids.length:Int))) (
 Option.bind (al x4.kids v49) fun x5=>
 aa k (p7 hd k (ae x5) 0 more9 e1_0'') fun r6=>
 ab (!r6.1) (
  ret (false,r6.2)) (
   rec2 r6.2 (IntKind.wrap .i64 (v49+1)))) (
  rec1 e1_0'' (IntKind.wrap .i64 (v42+1)) more9)
noncomputable def fU {S:Type} (hd:cQ S) (k:Nat) (ret:Bool×Int→Option S) (rec1:Int→Int→Int→Option S) (t:Tm) (v42:Int) (x4:(Br Tm)) (more9:Int):Nat→Int→Int→Option S
 |0=>fun _ _=> .none
 |m+1=>fun e1_0'' v49=>tA hd k ret t v42 x4 more9 rec1 (fU hd k ret rec1 t v42 x4 more9 m) e1_0'' v49
def pb {S:Type} (hd:cQ S) (k:Nat) (ret:Bool×Int→Option S) (t:Tm) (J2:Int→(Br Tm)→Int→Int→Int→Option S) (rec1:Int→Int→Int→Option S) (e1_0' v42 more9:Int):Option S:=
 ab (decide ((v42:Int)<(t.sys.length:Int))) (
 Option.bind (al t.sys v42) fun x4=>
  J2 v42 x4 more9 e1_0' 0) (
 ret (true,e1_0'))
noncomputable def eN {S:Type} (hd:cQ S) (k:Nat) (ret:Bool×Int→Option S) (t:Tm):Nat→Int→Int→Int→Option S
 |0=>fun _ _ _=> .none
 |m+1=>fun e1_0' v42 more9=>pb hd k ret t (fun v42 x4 more9 e1_0'' v49=>fU hd k ret (eN hd k ret t m) t v42 x4 more9 k e1_0'' v49) (eN hd k ret t m) e1_0' v42 more9
def pa {S:Type} (hd:cQ S) (k:Nat) (ret:Bool×Int→Option S) (t:Tm) (J1:Int→Int→Int→Option S) (rec0:Int→Int→Option S) (e1_0 v17:Int):Option S:=
 ab (decide ((v17:Int)<(t.kids.length:Int))) (
 Option.bind (al t.kids v17) fun x1=>
 aa k (ji k t.kind v17) fun r2=>
 aa k (p7 hd k (ae x1) r2.1 r2.2 e1_0) fun r3=>
 ab (!r3.1) (
  ret (false,r3.2)) (
   rec0 r3.2 (IntKind.wrap .i64 (v17+1)))) (
 ab (t.kind==15) (
   J1 e1_0 0 1) (
   J1 e1_0 0 0))
noncomputable def lb {S:Type} (hd:cQ S) (k:Nat) (ret:Bool×Int→Option S) (t:Tm):Nat→Int→Int→Option S
 |0=>fun _ _=> .none
 |m+1=>fun e1_0 v17=>pa hd k ret t (fun e1_0' v42 more9=>eN hd k ret t k e1_0' v42 more9) (lb hd k ret t m) e1_0 v17
noncomputable def CS {S:Type} (hd:cQ S) (k:Nat) (ret:Bool×Int→Option S) (J0:Int→Int→Option S) (t:Tm) (c1:Int):Option S:=
 J0 c1 0
noncomputable def ee {S:Type}:Nat→Tm→Int→(Bool×Int→Option S)→Option S
 |0=>fun _ _ _=> .none
 |k+1=>fun t c1 ret=>CS (ee k) k ret (fun e1_0 v17=>lb (ee k) k ret t k e1_0 v17) t c1
noncomputable def Mi {S:Type} (k:Nat) (ret:Bool→Option S) (t:Tm) (most:Int):Option S:=
 aa k (mn (ee k) k (ae t) most) fun r1=>
 ret r1.1
noncomputable def uI {S:Type} (k:Nat) (t:Tm) (most:Int) (ret:Bool→Option S):Option S:=Mi k ret t most
def Mh {S:Type} (k:Nat) (ret:Int→Option S) (t:Tm):Option S:=
 gC k (ae t) 200 fun r1=>
 ab (!r1) (
 ret 62) (
 aa k (uI k (ae t) 20000) fun r2=>
 ab (!r2) (
  ret 221) (
  ret 0))
noncomputable def p6 {S:Type} (k:Nat) (t:Tm) (ret:Int→Option S):Option S:=Mh k ret t
def Mc {S:Type} (k:Nat) (ret:Int→Option S) (kind:Int):Option S:=
 ab (kind==1) (
 ret 0) (
 ab (kind==2) (
  ret 0) (
  ab (kind==3) (
  ret 0) (
  ab (kind==19) (
   ret 0) (
   ab (kind==20) (
   ret 0) (
   ab (kind==24) (
    ret 0) (
    ab (kind==25) (
    ret 0) (
    ab (kind==21) (
     ret 0) (
     ab (kind==5) (
     ret 1) (
     ab (kind==9) (
      ret 1) (
      ab (kind==10) (
      ret 1) (
      ab (kind==23) (
       ret 1) (
       ab (kind==12) (
       ret 1) (
       ab (kind==16) (
        ret 1) (
        ab (kind==17) (
        ret 1) (
        ab (kind==18) (
         ret 1) (
         ab (kind==26) (
         ret 1) (
         ab (kind==4) (
          ret 2) (
          ab (kind==7) (
          ret 2) (
          ab (kind==6) (
           ret 2) (
           ab (kind==8) (
           ret 2) (
           ab (kind==14) (
            ret 2) (
            ab (kind==15) (
            ret 2) (
            ab (kind==28) (
             ret 2) (
             ab (kind==11) (
             ret 3) (
             ab (kind==13) (
              ret 3) (
              ab (kind==22) (
              ret 4) (
              ab (kind==27) (
               ret 5) (
               ret (-1)))))))))))))))))))))))))))))
noncomputable def uF {S:Type} (k:Nat) (kind:Int) (ret:Int→Option S):Option S:=Mc k ret kind
def Md {S:Type} (k:Nat) (ret:Int→Option S) (kind:Int):Option S:=
 ab (kind==15) (
 ret 1) (
 ab (kind==17) (
  ret 1) (
  ab (kind==18) (
  ret 1) (
  ab (kind==16) (
   ret 2) (
   ret 0))))
noncomputable def jk {S:Type} (k:Nat) (kind:Int) (ret:Int→Option S):Option S:=Md k ret kind
def x_ {S:Type} (k:Nat) (ret:Bool→Option S) (s:ByteArray) (v8:Int) (x1:UInt8) (rec0:Int→Option S) (letter5:Bool):Option S:=
 ab (!letter5) (
 ab (v8==0) (
  ret false) (
  ab (decide (((x1.toNat:Int):Int)<48)) (
  ret false) (
  ab (decide (((x1.toNat:Int):Int)>57)) (
   ret false) (
     rec0 (IntKind.wrap .i64 (v8+1)))))) (
  rec0 (IntKind.wrap .i64 (v8+1)))
noncomputable def vl {S:Type} (k:Nat) (ret:Bool→Option S) (rec0:Int→Option S) (s:ByteArray) (v8:Int) (x1:UInt8):Nat→Bool→Option S
 |0=>fun _=> .none
 |_+1=>fun letter5=>x_ k ret s v8 x1 rec0 letter5
def pg {S:Type} (k:Nat) (ret:Bool→Option S) (s:ByteArray) (J1:Int→UInt8→Bool→Option S) (rec0:Int→Option S) (v8:Int):Option S:=
 ab (decide ((v8:Int)<(s.size:Int))) (
 Option.bind (al s.data.toList v8) fun x1=>
 ab (decide (((x1.toNat:Int):Int)≥97)) (
  ab (decide (((x1.toNat:Int):Int)≤122)) (
    J1 v8 x1 true) (
  ab (decide (((x1.toNat:Int):Int)≥65)) (
   ab (decide (((x1.toNat:Int):Int)≤90)) (
      J1 v8 x1 true) (
      J1 v8 x1 ((x1.toNat:Int)==95))) (
     J1 v8 x1 ((x1.toNat:Int)==95)))) (
  ab (decide (((x1.toNat:Int):Int)≥65)) (
  ab (decide (((x1.toNat:Int):Int)≤90)) (
     J1 v8 x1 true) (
     J1 v8 x1 ((x1.toNat:Int)==95))) (
    J1 v8 x1 ((x1.toNat:Int)==95)))) (
 ret (!(s==ByteArray.empty)))
noncomputable def ld {S:Type} (k:Nat) (ret:Bool→Option S) (s:ByteArray):Nat→Int→Option S
 |0=>fun _=> .none
 |m+1=>fun v8=>pg k ret s (fun v8 x1 letter5=>vl k ret (ld k ret s m) s v8 x1 k letter5) (ld k ret s m) v8
noncomputable def CV {S:Type} (k:Nat) (ret:Bool→Option S) (J0:Int→Option S) (s:ByteArray):Option S:=
 J0 0
noncomputable def uH {S:Type} (k:Nat) (s:ByteArray) (ret:Bool→Option S):Option S:=CV k ret (fun v8=>ld k ret s k v8) s
noncomputable def Ls {S:Type} (k:Nat) (ret:Bool→Option S) (s:Int):Option S:=
 ret ((aS .andNot .u32 s 16777215)==0)
noncomputable def mb {S:Type} (k:Nat) (s:Int) (ret:Bool→Option S):Option S:=Ls k ret s
def KM {S:Type} (k:Nat) (ret:Bool→Option S) (c:Cl):Option S:=
 aa k (mb k c.pos) fun r1=>
 ab (r1) (
 aa k (mb k c.neg) fun r2=>
 ret r2) (
 ret false)
noncomputable def pq {S:Type} (k:Nat) (c:Cl) (ret:Bool→Option S):Option S:=KM k ret c
noncomputable def KL {S:Type} (k:Nat) (ret:Cl→Option S) (a b:Cl):Option S:=
 ret (Cl.mk (aS .or .u32 a.pos b.pos) (aS .or .u32 a.neg b.neg))
noncomputable def lX {S:Type} (k:Nat) (a b:Cl) (ret:Cl→Option S):Option S:=KL k ret a b
noncomputable def KF {S:Type} (k:Nat) (ret:Bool→Option S) (a b:Cl):Option S:=
 aa k (lX k a b) fun r1=>
 ret ((r1.pos==a.pos)&&((r1.neg==a.neg)&&true))
noncomputable def tM {S:Type} (k:Nat) (a b:Cl) (ret:Bool→Option S):Option S:=KF k ret a b
def KJ {S:Type} (k:Nat) (ret:Bool→Option S) (d c0:Cl):Option S:=
 ab (!((c0.pos==d.pos)&&((c0.neg==d.neg)&&true))) (
 aa k (tM k c0 d) fun r1=>
 ret r1) (
 ret false)
noncomputable def tO {S:Type} (k:Nat) (d c0:Cl) (ret:Bool→Option S):Option S:=KJ k ret d c0
def tx {S:Type} (k:Nat) (ret:Int→Option S) (c0:Cl) (s:List Cl) (rec0:Int→Option S) (v8:Int):Option S:=
 ab (decide ((v8:Int)<(s.length:Int))) (
 Option.bind (al s v8) fun x1=>
 aa k (tO k x1 c0) fun r2=>
 ab (r2) (
  ret v8) (
   rec0 (IntKind.wrap .i64 (v8+1)))) (
 ret (-1))
noncomputable def nn {S:Type} (k:Nat) (ret:Int→Option S) (c0:Cl) (s:List Cl):Nat→Int→Option S
 |0=>fun _=> .none
 |m+1=>fun v8=>tx k ret c0 s (nn k ret c0 s m) v8
noncomputable def CQ {S:Type} (k:Nat) (ret:Int→Option S) (J0:Int→Option S) (s:List Cl) (c0:Cl):Option S:=
 J0 0
noncomputable def yL {S:Type} (k:Nat) (s:List Cl) (c0:Cl) (ret:Int→Option S):Option S:=CQ k ret (fun v8=>nn k ret c0 s k v8) s c0
noncomputable def L9 {S:Type} (k:Nat) (ret:Bool→Option S) (s:List Cl) (c0:Cl):Option S:=
 aa k (yL k s c0) fun r1=>
 ret (decide ((r1:Int)≥0))
noncomputable def yJ {S:Type} (k:Nat) (s:List Cl) (c0:Cl) (ret:Bool→Option S):Option S:=L9 k ret s c0
noncomputable def KH {S:Type} (k:Nat) (ret:Bool→Option S) (c:Cl) (c0:List Cl):Option S:=
 aa k (yJ k c0 c) fun r1=>
 ret r1
noncomputable def tN {S:Type} (k:Nat) (c:Cl) (c0:List Cl) (ret:Bool→Option S):Option S:=KH k ret c c0
def sk {S:Type} (k:Nat) (ret:List Cl×Int→Option S) (b5_0:List Cl) (rec1:Int→(List Cl)→Option S) (v36:Int) (kept9:List Cl):Option S:=
 ab (decide ((v36:Int)<(b5_0.length:Int))) (
 Option.bind (al b5_0 v36) fun x4=>
 aa k (tN k x4 b5_0) fun r5=>
 ab (!r5) (
  Option.bind (ax 1099511627776 kept9.length [x4].length) fun x6=>
   rec1 (IntKind.wrap .i64 (v36+1)) (kept9++[x4])) (
   rec1 (IntKind.wrap .i64 (v36+1)) kept9)) (
 ab (decide (((kept9.length:Int):Int)>64)) (
  ret (([]:List Cl),3)) (
  ret (sortCl kept9,0)))
noncomputable def kM {S:Type} (k:Nat) (ret:List Cl×Int→Option S) (b5_0:List Cl):Nat→Int→(List Cl)→Option S
 |0=>fun _ _=> .none
 |m+1=>fun v36 kept9=>sk k ret b5_0 (kM k ret b5_0 m) v36 kept9
def oy {S:Type} (k:Nat) (ret:List Cl×Int→Option S) (l:List Cl) (J1:(List Cl)→Int→(List Cl)→Option S) (rec0:(List (Cl×Bool))→(List Cl)→Int→Option S) (b12_0:List (Cl×Bool)) (b5_0:List Cl) (v15:Int):Option S:=
 ab (decide ((v15:Int)<(l.length:Int))) (
 Option.bind (al l v15) fun x1=>
 aa k (pq k x1) fun r2=>
 ab (!r2) (
  ret (([]:List Cl),2)) (
  ab (!((di VV ET.C b12_0 x1).getD false)) (
  Option.bind (ax 1099511627776 b5_0.length [x1].length) fun x3=>
    rec0 (er VV ET.C b12_0 x1 true) (b5_0++[x1]) (IntKind.wrap .i64 (v15+1))) (
    rec0 b12_0 b5_0 (IntKind.wrap .i64 (v15+1))))) (
  J1 b5_0 0 ([]:List Cl))
noncomputable def mF {S:Type} (k:Nat) (ret:List Cl×Int→Option S) (l:List Cl):Nat→(List (Cl×Bool))→(List Cl)→Int→Option S
 |0=>fun _ _ _=> .none
 |m+1=>fun b12_0 b5_0 v15=>oy k ret l (fun b5_0 v36 kept9=>kM k ret b5_0 k v36 kept9) (mF k ret l m) b12_0 b5_0 v15
noncomputable def BM {S:Type} (k:Nat) (ret:List Cl×Int→Option S) (J0:(List (Cl×Bool))→(List Cl)→Int→Option S) (l:List Cl):Option S:=
 J0 ([]:List (Cl×Bool)) ([]:List Cl) 0
noncomputable def ff {S:Type} (k:Nat) (l:List Cl) (ret:List Cl×Int→Option S):Option S:=BM k ret (fun b12_0 b5_0 v15=>mF k ret l k b12_0 b5_0 v15) l
def tw {S:Type} (k:Nat) (ret:Bool→Option S) (s1 s2:List Cl) (rec0:Int→Option S) (v13:Int):Option S:=
 ab (decide ((v13:Int)<(s1.length:Int))) (
 Option.bind (al s1 v13) fun x1=>
 Option.bind (al s2 v13) fun x2=>
 ab (!((x1.pos==x2.pos)&&((x1.neg==x2.neg)&&true))) (
  ret false) (
   rec0 (IntKind.wrap .i64 (v13+1)))) (
 ret true)
noncomputable def nk {S:Type} (k:Nat) (ret:Bool→Option S) (s1 s2:List Cl):Nat→Int→Option S
 |0=>fun _=> .none
 |m+1=>fun v13=>tw k ret s1 s2 (nk k ret s1 s2 m) v13
def CO {S:Type} (k:Nat) (ret:Bool→Option S) (J0:Int→Option S) (s1 s2:List Cl):Option S:=
 ab (!((s1.length:Int)==(s2.length:Int))) (
 ret false) (
  J0 0)
noncomputable def uE {S:Type} (k:Nat) (s1 s2:List Cl) (ret:Bool→Option S):Option S:=CO k ret (fun v13=>nk k ret s1 s2 k v13) s1 s2
def Le {S:Type} (k:Nat) (ret:Bool→Option S) (f:List Cl):Option S:=
 aa k (ff k f) fun r1=>
 ab (r1.2==0) (
 aa k (uE k r1.1 f) fun r2=>
 ret r2) (
 ret false)
noncomputable def fI {S:Type} (k:Nat) (f:List Cl) (ret:Bool→Option S):Option S:=Le k ret f
def Lw {S:Type} (k:Nat) (ret:Bool→Option S) (i:Int):Option S:=
 ab (decide ((i:Int)≥0)) (
 ret (decide ((i:Int)<24))) (
 ret false)
noncomputable def kx {S:Type} (k:Nat) (i:Int) (ret:Bool→Option S):Option S:=Lw k ret i
def Lu {S:Type} (k:Nat) (ret:Int→Option S) (s i:Int):Option S:=
 aa k (kx k i) fun r1=>
 ab (!r1) (
 ret (aS .and .u32 s 16777215)) (
 Option.bind (bA (0≤(IntKind.wrap .u64 i))) fun x2=>
 ret (aS .andNot .u32 (aS .and .u32 s 16777215) (IntKind.wrap .u32 (1*2^min (Int.toNat (IntKind.wrap .u64 i)) 32))))
noncomputable def hU {S:Type} (k:Nat) (s i:Int) (ret:Int→Option S):Option S:=Lu k ret s i
def sF {S:Type} (k:Nat) (ret:Int→Option S) (f:List Cl) (rec0:Int→Int→Option S) (s3 v8:Int):Option S:=
 ab (decide ((v8:Int)<(f.length:Int))) (
 Option.bind (al f v8) fun x1=>
  rec0 (aS .or .u32 s3 (aS .or .u32 x1.pos x1.neg)) (IntKind.wrap .i64 (v8+1))) (
 aa k (hU k s3 (-1)) fun r2=>
 ret r2)
noncomputable def mM {S:Type} (k:Nat) (ret:Int→Option S) (f:List Cl):Nat→Int→Int→Option S
 |0=>fun _ _=> .none
 |m+1=>fun s3 v8=>sF k ret f (mM k ret f m) s3 v8
noncomputable def B2 {S:Type} (k:Nat) (ret:Int→Option S) (J0:Int→Int→Option S) (f:List Cl):Option S:=
 J0 0 0
noncomputable def l6 {S:Type} (k:Nat) (f:List Cl) (ret:Int→Option S):Option S:=B2 k ret (fun s3 v8=>mM k ret f k s3 v8) f
def Mj {S:Type} (k:Nat) (ret:Bool→Option S) (f:List Cl) (dims:Int):Option S:=
 ab (decide ((dims:Int)≥24)) (
 ret true) (
 aa k (l6 k f) fun r1=>
 Option.bind (bA (0≤(IntKind.wrap .u64 dims))) fun x2=>
 ret ((Int.fdiv r1 (2^min (Int.toNat (IntKind.wrap .u64 dims)) 32))==0))
noncomputable def jl {S:Type} (k:Nat) (f:List Cl) (dims:Int) (ret:Bool→Option S):Option S:=Mj k ret f dims
noncomputable def KG {S:Type} (k:Nat) (ret:Bool→Option S) (c:Cl):Option S:=
 ret (!((aS .and .u32 c.pos c.neg)==0))
noncomputable def po {S:Type} (k:Nat) (c:Cl) (ret:Bool→Option S):Option S:=KG k ret c
def tz {S:Type} (k:Nat) (ret:Int→Option S) (s:List Cl) (rec0:Int→Option S) (v8:Int):Option S:=
 ab (decide ((v8:Int)<(s.length:Int))) (
 Option.bind (al s v8) fun x1=>
 aa k (po k x1) fun r2=>
 ab (r2) (
  ret v8) (
   rec0 (IntKind.wrap .i64 (v8+1)))) (
 ret (-1))
noncomputable def np {S:Type} (k:Nat) (ret:Int→Option S) (s:List Cl):Nat→Int→Option S
 |0=>fun _=> .none
 |m+1=>fun v8=>tz k ret s (np k ret s m) v8
noncomputable def CR {S:Type} (k:Nat) (ret:Int→Option S) (J0:Int→Option S) (s:List Cl):Option S:=
 J0 0
noncomputable def yM {S:Type} (k:Nat) (s:List Cl) (ret:Int→Option S):Option S:=CR k ret (fun v8=>np k ret s k v8) s
noncomputable def L_ {S:Type} (k:Nat) (ret:Bool→Option S) (s:List Cl):Option S:=
 aa k (yM k s) fun r1=>
 ret (decide ((r1:Int)≥0))
noncomputable def yK {S:Type} (k:Nat) (s:List Cl) (ret:Bool→Option S):Option S:=L_ k ret s
def K3 {S:Type} (k:Nat) (ret:Bool→Option S) (f:List Cl):Option S:=
 aa k (fI k f) fun r1=>
 ab (r1) (
 aa k (yK k f) fun r2=>
 ret (!r2)) (
 ret false)
noncomputable def jc {S:Type} (k:Nat) (f:List Cl) (ret:Bool→Option S):Option S:=K3 k ret f
def tD {S:Type} (k:Nat) (ret:Bool→Option S) (t:Tm) (dims:Int) (rec1:Int→Option S) (v109:Int):Option S:=
 ab (decide ((v109:Int)<(t.sys.length:Int))) (
 Option.bind (al t.sys v109) fun x12=>
 aa k (jk k t.kind) fun r13=>
 ab (!((x12.kids.length:Int)==r13)) (
  ret false) (
  aa k (jc k x12.face) fun r14=>
  ab (!r14) (
  ret false) (
  aa k (jl k x12.face dims) fun r15=>
  ab (!r15) (
   ret false) (
     rec1 (IntKind.wrap .i64 (v109+1)))))) (
 ret ((t.r.length:Int)==0))
noncomputable def iy {S:Type} (k:Nat) (ret:Bool→Option S) (t:Tm) (dims:Int):Nat→Int→Option S
 |0=>fun _=> .none
 |m+1=>fun v109=>tD k ret t dims (iy k ret t dims m) v109
def ph {S:Type} (k:Nat) (ret:Bool→Option S) (t:Tm) (vars dims:Int) (J1:Int→Option S):Option S:=
 ab (t.kind==1) (
 ab ((t.r.length:Int)==0) (
  ab (decide ((t.n:Int)≥0)) (
  ab (decide ((vars:Int)<0)) (
   ret true) (
   ret (decide ((t.n:Int)<vars)))) (
  ret false)) (
  ret false)) (
 ab (t.kind==2) (
  ab ((t.r.length:Int)==0) (
  aa k (uH k t.name) fun r3=>
  ret r3) (
  ret false)) (
  ab (t.kind==13) (
  aa k (fI k t.r) fun r4=>
  ab (r4) (
   aa k (jl k t.r dims) fun r5=>
   ret r5) (
   ret false)) (
  ab (t.kind==21) (
   aa k (fI k t.r) fun r6=>
   ab (r6) (
   aa k (jl k t.r dims) fun r7=>
   ret r7) (
   ret false)) (
   ab (t.kind==26) (
   aa k (fI k t.r) fun r8=>
   ab (r8) (
    aa k (jl k t.r dims) fun r9=>
    ret r9) (
    ret false)) (
   ab (t.kind==14) (
    aa k (jc k t.r) fun r10=>
    ab (r10) (
    aa k (jl k t.r dims) fun r11=>
    ret r11) (
    ret false)) (
       J1 0))))))
noncomputable def vm {S:Type} (k:Nat) (ret:Bool→Option S) (t:Tm) (vars dims:Int):Nat→Option S
 |0=> .none
 |_+1=>ph k ret t vars dims (fun v109=>iy k ret t dims k v109)
def CW {S:Type} (k:Nat) (ret:Bool→Option S) (J0:Option S) (t:Tm) (vars dims:Int):Option S:=
 aa k (uF k t.kind) fun r1=>
 ab (!(r1==(t.kids.length:Int))) (
 ret false) (
 ab (!(t.kind==1)) (
  ab (!(t.n==0)) (
  ret false) (
  ab (!(t.kind==2)) (
   ab (!(t.name==ByteArray.empty)) (
   ret false) (
   aa k (jk k t.kind) fun r2=>
   ab (r2==0) (
    ab (decide (((t.sys.length:Int):Int)>0)) (
    ret false) (
        J0)) (
       J0))) (
   aa k (jk k t.kind) fun r16=>
   ab (r16==0) (
   ab (decide (((t.sys.length:Int):Int)>0)) (
    ret false) (
       J0)) (
      J0)))) (
  ab (!(t.kind==2)) (
  ab (!(t.name==ByteArray.empty)) (
   ret false) (
   aa k (jk k t.kind) fun r17=>
   ab (r17==0) (
   ab (decide (((t.sys.length:Int):Int)>0)) (
    ret false) (
       J0)) (
      J0))) (
  aa k (jk k t.kind) fun r18=>
  ab (r18==0) (
   ab (decide (((t.sys.length:Int):Int)>0)) (
   ret false) (
      J0)) (
     J0))))
noncomputable def p4 {S:Type} (k:Nat) (t:Tm) (vars dims:Int) (ret:Bool→Option S):Option S:=CW k ret (vm k ret t vars dims k) t vars dims
abbrev cP (S:Type):=Tm→Int→Int→Bool→(Bool→Option S)→Option S
def Mf {S:Type} (hd:cP S) (k:Nat) (ret:Bool→Option S) (a_k:Tm) (v d c0 c1:Int) (c2:Bool):Option S:=
 ab (decide ((c0:Int)<0)) (
 hd (ae a_k) (IntKind.wrap .i64 (c0+0)) (IntKind.wrap .i64 (c1+d)) c2 fun r1=>
 ret r1) (
 hd (ae a_k) (IntKind.wrap .i64 (c0+v)) (IntKind.wrap .i64 (c1+d)) c2 fun r2=>
 ret r2)
noncomputable def pZ {S:Type} (hd:cP S) (k:Nat) (a_k:Tm) (v d c0 c1:Int) (c2:Bool) (ret:Bool→Option S):Option S:=Mf hd k ret a_k v d c0 c1 c2
def tB {S:Type} (hd:cP S) (k:Nat) (ret:Bool→Option S) (c0 c1:Int) (c2:Bool) (t:Tm) (v42:Int) (x4:(Br Tm)) (more9:Int) (rec1:Int→Int→Option S) (rec2:Int→Option S) (v49:Int):Option S:=
 ab (decide ((v49:Int)<(x4.kids.length:Int))) (
 Option.bind (al x4.kids v49) fun x5=>
 aa k (pZ hd k (ae x5) 0 more9 c0 c1 c2) fun r6=>
 ab (!r6) (
  ret false) (
   rec2 (IntKind.wrap .i64 (v49+1)))) (
  rec1 (IntKind.wrap .i64 (v42+1)) more9)
noncomputable def jN {S:Type} (hd:cP S) (k:Nat) (ret:Bool→Option S) (rec1:Int→Int→Option S) (c0 c1:Int) (c2:Bool) (t:Tm) (v42:Int) (x4:(Br Tm)) (more9:Int):Nat→Int→Option S
 |0=>fun _=> .none
 |m+1=>fun v49=>tB hd k ret c0 c1 c2 t v42 x4 more9 rec1 (jN hd k ret rec1 c0 c1 c2 t v42 x4 more9 m) v49
def pd {S:Type} (hd:cP S) (k:Nat) (ret:Bool→Option S) (c0 c1:Int) (c2:Bool) (t:Tm) (J2:Int→(Br Tm)→Int→Int→Option S) (rec1:Int→Int→Option S) (v42 more9:Int):Option S:=
 ab (decide ((v42:Int)<(t.sys.length:Int))) (
 Option.bind (al t.sys v42) fun x4=>
  J2 v42 x4 more9 0) (
 ret true)
noncomputable def fV {S:Type} (hd:cP S) (k:Nat) (ret:Bool→Option S) (c0 c1:Int) (c2:Bool) (t:Tm):Nat→Int→Int→Option S
 |0=>fun _ _=> .none
 |m+1=>fun v42 more9=>pd hd k ret c0 c1 c2 t (fun v42 x4 more9 v49=>jN hd k ret (fV hd k ret c0 c1 c2 t m) c0 c1 c2 t v42 x4 more9 k v49) (fV hd k ret c0 c1 c2 t m) v42 more9
def pc {S:Type} (hd:cP S) (k:Nat) (ret:Bool→Option S) (c0 c1:Int) (c2:Bool) (t:Tm) (J1:Int→Int→Option S) (rec0:Int→Option S) (v17:Int):Option S:=
 ab (decide ((v17:Int)<(t.kids.length:Int))) (
 Option.bind (al t.kids v17) fun x1=>
 aa k (ji k t.kind v17) fun r2=>
 aa k (pZ hd k (ae x1) r2.1 r2.2 c0 c1 c2) fun r3=>
 ab (!r3) (
  ret false) (
   rec0 (IntKind.wrap .i64 (v17+1)))) (
 ab (t.kind==15) (
   J1 0 1) (
   J1 0 0))
noncomputable def lc {S:Type} (hd:cP S) (k:Nat) (ret:Bool→Option S) (c0 c1:Int) (c2:Bool) (t:Tm):Nat→Int→Option S
 |0=>fun _=> .none
 |m+1=>fun v17=>pc hd k ret c0 c1 c2 t (fun v42 more9=>fV hd k ret c0 c1 c2 t k v42 more9) (lc hd k ret c0 c1 c2 t m) v17
noncomputable def CT {S:Type} (hd:cP S) (k:Nat) (ret:Bool→Option S) (J0:Int→Option S) (t:Tm) (c0 c1:Int) (c2:Bool):Option S:=
 J0 0
noncomputable def uG {S:Type} (hd:cP S) (k:Nat) (t:Tm) (c0 c1:Int) (c2:Bool) (ret:Bool→Option S):Option S:=CT hd k ret (fun v17=>lc hd k ret c0 c1 c2 t k v17) t c0 c1 c2
def Me {S:Type} (hd:cP S) (k:Nat) (ret:Bool→Option S) (t:Tm) (vars dims:Int) (bound:Bool):Option S:=
 ab (bound) (
 ab (decide ((dims:Int)>24)) (
  ret false) (
  aa k (p4 k (ae t) vars dims) fun r1=>
  ab (!r1) (
  ret false) (
  aa k (uG hd k (ae t) vars dims bound) fun r2=>
  ret r2))) (
 aa k (p4 k (ae t) vars dims) fun r3=>
 ab (!r3) (
  ret false) (
  aa k (uG hd k (ae t) vars dims bound) fun r4=>
  ret r4))
noncomputable def eJ {S:Type}:Nat→Tm→Int→Int→Bool→(Bool→Option S)→Option S
 |0=>fun _ _ _ _ _=> .none
 |k+1=>fun t vars dims bound ret=>Me (eJ k) k ret t vars dims bound
def Mb {S:Type} (k:Nat) (ret:Int→Option S) (t:Tm):Option S:=
 aa k (p6 k (ae t)) fun r1=>
 ab (!(r1==0)) (
 ret r1) (
 eJ k (ae t) (-1) 24 false fun r2=>
 ab (!r2) (
  ret 100) (
  ret 0))
noncomputable def jj {S:Type} (k:Nat) (t:Tm) (ret:Int→Option S):Option S:=Mb k ret t
def KE {S:Type} (k:Nat) (ret:Int→Option S) (a_e c0:Int):Option S:=
 ab (c0==0) (
 ret a_e) (
 ret c0)
noncomputable def fH {S:Type} (k:Nat) (a_e c0:Int) (ret:Int→Option S):Option S:=KE k ret a_e c0
def si {S:Type} (k:Nat) (ret:Int→Option S) (l:List Tm) (rec0:Int→Int→Option S) (b7_0 v10:Int):Option S:=
 ab (decide ((v10:Int)<(l.length:Int))) (
 Option.bind (al l v10) fun x1=>
 aa k (jj k (ae x1)) fun r2=>
 aa k (fH k r2 b7_0) fun r3=>
  rec0 r3 (IntKind.wrap .i64 (v10+1))) (
 ret b7_0)
noncomputable def mE {S:Type} (k:Nat) (ret:Int→Option S) (l:List Tm):Nat→Int→Int→Option S
 |0=>fun _ _=> .none
 |m+1=>fun b7_0 v10=>si k ret l (mE k ret l m) b7_0 v10
noncomputable def BF {S:Type} (k:Nat) (ret:Int→Option S) (J0:Int→Int→Option S) (l:List Tm):Option S:=
 J0 0 0
noncomputable def pn {S:Type} (k:Nat) (l:List Tm) (ret:Int→Option S):Option S:=BF k ret (fun b7_0 v10=>mE k ret l k b7_0 v10) l
noncomputable def gg {S:Type} (k:Nat) (ret:Bool→Option S) (c0:Int):Option S:=
 ret (c0==0)
noncomputable def df {S:Type} (k:Nat) (c0:Int) (ret:Bool→Option S):Option S:=gg k ret c0
def sL {S:Type} (k:Nat) (ret:Int→Option S) (l:List (List Cl)) (rec0:Int→Option S) (v7:Int):Option S:=
 ab (decide ((v7:Int)<(l.length:Int))) (
 Option.bind (al l v7) fun x1=>
 aa k (fI k x1) fun r2=>
 ab (!r2) (
  ret 2) (
   rec0 (IntKind.wrap .i64 (v7+1)))) (
 ret 0)
noncomputable def mR {S:Type} (k:Nat) (ret:Int→Option S) (l:List (List Cl)):Nat→Int→Option S
 |0=>fun _=> .none
 |m+1=>fun v7=>sL k ret l (mR k ret l m) v7
noncomputable def B9 {S:Type} (k:Nat) (ret:Int→Option S) (J0:Int→Option S) (l:List (List Cl)):Option S:=
 J0 0
noncomputable def l9 {S:Type} (k:Nat) (l:List (List Cl)) (ret:Int→Option S):Option S:=B9 k ret (fun v7=>mR k ret l k v7) l
noncomputable def B3 {S:Type} (k:Nat) (ret:List Cl→Option S):Option S:=
 ret ([]:List Cl)
noncomputable def pC {S:Type} (k:Nat) (ret:List Cl→Option S):Option S:=B3 k ret
noncomputable def Lv {S:Type} (k:Nat) (ret:Int→Option S) (i:Int):Option S:=
 Option.bind (bA (0≤(IntKind.wrap .u64 (if 24<i then 24 else i)))) fun x1=>
 ret (IntKind.wrap .u32 (IntKind.wrap .u64 ((IntKind.wrap .u64 (1*2^min (Int.toNat (IntKind.wrap .u64 (if 24<i then 24 else i))) 64))-1)))
noncomputable def mc {S:Type} (k:Nat) (i:Int) (ret:Int→Option S):Option S:=Lv k ret i
def wG {S:Type} (k:Nat) (ret:Int×Int→Option S) (s a_from a_by:Int):Option S:=
 ab (decide ((a_from:Int)<0)) (
 ret (0,2)) (
 ab (decide ((a_by:Int)<0)) (
  ret (0,2)) (
  aa k (mc k a_from) fun r1=>
  aa k (mc k a_from) fun r2=>
  ab ((IntKind.wrap .u64 (aS .andNot .u32 (aS .and .u32 s 16777215) r2))==0) (
  ret (aS .and .u32 (aS .and .u32 s 16777215) r1,0)) (
  ab (decide ((a_by:Int)≥24)) (
   ret (0,10)) (
   Option.bind (bA (0≤(IntKind.wrap .u64 a_by))) fun x3=>
   ab (decide ((IntKind.wrap .u64 ((IntKind.wrap .u64 (aS .andNot .u32 (aS .and .u32 s 16777215) r2))*2^min (Int.toNat (IntKind.wrap .u64 a_by)) 64):Int)>16777215)) (
   ret (0,10)) (
   Option.bind (bA (0≤(IntKind.wrap .u64 a_by))) fun x4=>
   ret (aS .or .u32 (aS .and .u32 (aS .and .u32 s 16777215) r1) (IntKind.wrap .u32 (IntKind.wrap .u64 ((IntKind.wrap .u64 (aS .andNot .u32 (aS .and .u32 s 16777215) r2))*2^min (Int.toNat (IntKind.wrap .u64 a_by)) 64))),0))))))
noncomputable def jf {S:Type} (k:Nat) (s a_from a_by:Int) (ret:Int×Int→Option S):Option S:=wG k ret s a_from a_by
def KK {S:Type} (k:Nat) (ret:Cl×Int→Option S) (c:Cl) (a_from a_by:Int):Option S:=
 aa k (pq k c) fun r1=>
 ab (!r1) (
 ret ((Cl.mk 0 0),2)) (
 aa k (jf k c.pos a_from a_by) fun r2=>
 ab (!(r2.2==0)) (
  ret ((Cl.mk 0 0),r2.2)) (
  aa k (jf k c.neg a_from a_by) fun r3=>
  ab (!(r3.2==0)) (
  ret ((Cl.mk 0 0),r3.2)) (
  ret ((Cl.mk r2.1 r3.1),0))))
noncomputable def tP {S:Type} (k:Nat) (c:Cl) (a_from a_by:Int) (ret:Cl×Int→Option S):Option S:=KK k ret c a_from a_by
noncomputable def K_ {S:Type} (k:Nat) (ret:List Cl×Int→Option S) (a_have:List Cl) (c:Cl) (c0 c1:Int):Option S:=
 aa k (tP k c c0 c1) fun r1=>
 Option.bind (ax 1099511627776 a_have.length [r1.1].length) fun x2=>
 ret (a_have++[r1.1],r1.2)
noncomputable def yy {S:Type} (k:Nat) (a_have:List Cl) (c:Cl) (c0 c1:Int) (ret:List Cl×Int→Option S):Option S:=K_ k ret a_have c c0 c1
def sI {S:Type} (k:Nat) (ret:List Cl×Int→Option S) (c0 c1:Int) (l:List Cl) (rec0:(List Cl)→Int→Option S) (v1:List Cl) (v15:Int):Option S:=
 ab (decide ((v15:Int)<(l.length:Int))) (
 Option.bind (al l v15) fun x1=>
 aa k (yy k v1 x1 c0 c1) fun r2=>
 ab (!(r2.2==0)) (
  ret (([]:List Cl),r2.2)) (
   rec0 r2.1 (IntKind.wrap .i64 (v15+1)))) (
 ret (v1,0))
noncomputable def mP {S:Type} (k:Nat) (ret:List Cl×Int→Option S) (c0 c1:Int) (l:List Cl):Nat→(List Cl)→Int→Option S
 |0=>fun _ _=> .none
 |m+1=>fun v1 v15=>sI k ret c0 c1 l (mP k ret c0 c1 l m) v1 v15
noncomputable def B6 {S:Type} (k:Nat) (ret:List Cl×Int→Option S) (J0:(List Cl)→Int→Option S) (l a_from:List Cl) (c0 c1:Int):Option S:=
 J0 a_from 0
noncomputable def ue {S:Type} (k:Nat) (l a_from:List Cl) (c0 c1:Int) (ret:List Cl×Int→Option S):Option S:=B6 k ret (fun v1 v15=>mP k ret c0 c1 l k v1 v15) l a_from c0 c1
def K9 {S:Type} (k:Nat) (ret:List Cl×Int→Option S) (f:List Cl) (a_from a_by:Int):Option S:=
 aa k (l9 k [f]) fun r1=>
 ab (!(r1==0)) (
 ret (([]:List Cl),r1)) (
 aa k (pC k) fun r2=>
 aa k (ue k f r2 a_from a_by) fun r3=>
 ab (!(r3.2==0)) (
  ret (([]:List Cl),r3.2)) (
  aa k (ff k r3.1) fun r4=>
  ret (r4.1,r4.2)))
noncomputable def jd {S:Type} (k:Nat) (f:List Cl) (a_from a_by:Int) (ret:List Cl×Int→Option S):Option S:=K9 k ret f a_from a_by
def BJ {S:Type} (k:Nat) (ret:List Cl×Int→Option S) (f:List Cl) (c0:Int):Option S:=
 aa k (df k c0) fun r1=>
 ab (!r1) (
 ret (([]:List Cl),c0)) (
 aa k (jd k f 0 1) fun r2=>
 aa k (fH k r2.2 c0) fun r3=>
 ret (r2.1,r3))
noncomputable def g_ {S:Type} (k:Nat) (f:List Cl) (c0:Int) (ret:List Cl×Int→Option S):Option S:=BJ k ret f c0
def sE {S:Type} (k:Nat) (ret:Int→Option S) (l:List (List Cl)) (rec0:Int→Option S) (v7:Int):Option S:=
 ab (decide ((v7:Int)<(l.length:Int))) (
 Option.bind (al l v7) fun x1=>
 aa k (jc k x1) fun r2=>
 ab (!r2) (
  ret 2) (
   rec0 (IntKind.wrap .i64 (v7+1)))) (
 ret 0)
noncomputable def mL {S:Type} (k:Nat) (ret:Int→Option S) (l:List (List Cl)):Nat→Int→Option S
 |0=>fun _=> .none
 |m+1=>fun v7=>sE k ret l (mL k ret l m) v7
noncomputable def B1 {S:Type} (k:Nat) (ret:Int→Option S) (J0:Int→Option S) (l:List (List Cl)):Option S:=
 J0 0
noncomputable def t8 {S:Type} (k:Nat) (l:List (List Cl)) (ret:Int→Option S):Option S:=B1 k ret (fun v7=>mL k ret l k v7) l
noncomputable def K6 {S:Type} (k:Nat) (ret:List Cl×Int→Option S) (f g:List Cl):Option S:=
 Option.bind (ax 1099511627776 ([]:List Cl).length f.length) fun x1=>
 Option.bind (ax 1099511627776 (([]:List Cl)++f).length g.length) fun x2=>
 aa k (ff k ((([]:List Cl)++f)++g)) fun r3=>
 ret (r3.1,r3.2)
noncomputable def pB {S:Type} (k:Nat) (f g:List Cl) (ret:List Cl×Int→Option S):Option S:=K6 k ret f g
def KY {S:Type} (k:Nat) (ret:List Cl×Int→Option S) (f g:List Cl):Option S:=
 aa k (t8 k [f,g]) fun r1=>
 ab (!(r1==0)) (
 ret (([]:List Cl),r1)) (
 aa k (pB k f g) fun r2=>
 ret (r2.1,r2.2))
noncomputable def tV {S:Type} (k:Nat) (f g:List Cl) (ret:List Cl×Int→Option S):Option S:=KY k ret f g
def BI {S:Type} (k:Nat) (ret:List Cl×Int→Option S) (f g:List Cl) (c0:Int):Option S:=
 aa k (df k c0) fun r1=>
 ab (!r1) (
 ret (([]:List Cl),c0)) (
 aa k (tV k f g) fun r2=>
 aa k (fH k r2.2 c0) fun r3=>
 ret (r2.1,r3))
noncomputable def jb {S:Type} (k:Nat) (f g:List Cl) (c0:Int) (ret:List Cl×Int→Option S):Option S:=BI k ret f g c0
def Lp {S:Type} (k:Nat) (ret:Pan Int (List Cl)→Option S) (l_0 l_1:Int) (f:List Cl) (a_from:Int):Option S:=
 ab (l_1==0) (
 Option.bind (ax 1099511627776 0 f.length) fun x1=>
 ret (.ok f)) (
 ab (decide ((a_from:Int)≥24)) (
  Option.bind (ax 1099511627776 0 f.length) fun x2=>
  ret (.ok f)) (
  aa k (jd k f a_from l_1) fun r3=>
  ab (!(r3.2==0)) (
  ret (.pan r3.2)) (
  ret (.ok r3.1))))
noncomputable def pF {S:Type} (k:Nat) (l_0 l_1:Int) (f:List Cl) (a_from:Int) (ret:Pan Int (List Cl)→Option S):Option S:=Lp k ret l_0 l_1 f a_from
abbrev eD (S:Type):=Int→Int→Tm→Int→Int→(Pan Int Tm→Option S)→Option S
def sO {S:Type} (hd:eD S) (k:Nat) (ret:Pan Int Tm→Option S) (r12:List Cl) (l_0 l_1:Int) (t:Tm) (b9_1:Int) (r2:List Cl) (b9_4:List Tm) (b9_5:List (Br Tm)) (x10:(Br Tm)) (more14 v d v90:Int) (rec2:(List (Br Tm))→Int→Int→Option S) (rec3:(List Tm)→Int→Option S) (b17_1:List Tm) (v103:Int):Option S:=
 ab (decide ((v103:Int)<(x10.kids.length:Int))) (
 Option.bind (al x10.kids v103) fun x14=>
 hd l_0 l_1 (ae x14) v (IntKind.wrap .i64 (d+more14)) fun r16=>Pan.elim r16 (fun r16=>
  Option.bind (ax 1099511627776 b17_1.length [(ae r16)].length) fun x18=>
   rec3 (b17_1++[(ae r16)]) (IntKind.wrap .i64 (v103+1))) (fun e17=>
  ret (.pan e17))) (
 Option.bind (ax 1099511627776 b9_5.length [(Br.mk r12 b17_1)].length) fun x19=>
  rec2 (b9_5++[(Br.mk r12 b17_1)]) more14 (IntKind.wrap .i64 (v90+1)))
noncomputable def jF {S:Type} (hd:eD S) (k:Nat) (ret:Pan Int Tm→Option S) (rec2:(List (Br Tm))→Int→Int→Option S) (r12:List Cl) (l_0 l_1:Int) (t:Tm) (b9_1:Int) (r2:List Cl) (b9_4:List Tm) (b9_5:List (Br Tm)) (x10:(Br Tm)) (more14 v d v90:Int):Nat→(List Tm)→Int→Option S
 |0=>fun _ _=> .none
 |m+1=>fun b17_1 v103=>sO hd k ret r12 l_0 l_1 t b9_1 r2 b9_4 b9_5 x10 more14 v d v90 rec2 (jF hd k ret rec2 r12 l_0 l_1 t b9_1 r2 b9_4 b9_5 x10 more14 v d v90 m) b17_1 v103
def oD {S:Type} (hd:eD S) (k:Nat) (ret:Pan Int Tm→Option S) (l_0 l_1:Int) (t:Tm) (b9_1:Int) (r2:List Cl) (b9_4:List Tm) (v d:Int) (J3:(List Cl)→(List (Br Tm))→(Br Tm)→Int→Int→(List Tm)→Int→Option S) (rec2:(List (Br Tm))→Int→Int→Option S) (b9_5:List (Br Tm)) (more14 v90:Int):Option S:=
 ab (decide ((v90:Int)<(t.sys.length:Int))) (
 Option.bind (al t.sys v90) fun x10=>
 aa k (pF k l_0 l_1 x10.face d) fun r12=>Pan.elim r12 (fun r12=>
   J3 r12 b9_5 x10 more14 v90 ([]:List Tm) 0) (fun e13=>
  ret (.pan e13))) (
 ret (.ok (Tm.mk t.kind b9_1 t.name r2 b9_4 b9_5)))
noncomputable def eo {S:Type} (hd:eD S) (k:Nat) (ret:Pan Int Tm→Option S) (l_0 l_1:Int) (t:Tm) (b9_1:Int) (r2:List Cl) (b9_4:List Tm) (v d:Int):Nat→(List (Br Tm))→Int→Int→Option S
 |0=>fun _ _ _=> .none
 |m+1=>fun b9_5 more14 v90=>oD hd k ret l_0 l_1 t b9_1 r2 b9_4 v d (fun r12 b9_5 x10 more14 v90 b17_1 v103=>jF hd k ret (eo hd k ret l_0 l_1 t b9_1 r2 b9_4 v d m) r12 l_0 l_1 t b9_1 r2 b9_4 b9_5 x10 more14 v d v90 k b17_1 v103) (eo hd k ret l_0 l_1 t b9_1 r2 b9_4 v d m) b9_5 more14 v90
def oC {S:Type} (hd:eD S) (k:Nat) (ret:Pan Int Tm→Option S) (l_0 l_1:Int) (t:Tm) (b9_1:Int) (r2:List Cl) (v d:Int) (J2:(List Tm)→(List (Br Tm))→Int→Int→Option S) (rec1:(List Tm)→Int→Option S) (b9_4:List Tm) (v57:Int):Option S:=
 ab (decide ((v57:Int)<(t.kids.length:Int))) (
 Option.bind (al t.kids v57) fun x4=>
 aa k (ji k t.kind v57) fun r5=>
 hd l_0 l_1 (ae x4) (IntKind.wrap .i64 (v+r5.1)) (IntKind.wrap .i64 (d+r5.2)) fun r7=>Pan.elim r7 (fun r7=>
  Option.bind (ax 1099511627776 b9_4.length [(ae r7)].length) fun x9=>
   rec1 (b9_4++[(ae r7)]) (IntKind.wrap .i64 (v57+1))) (fun e8=>
  ret (.pan e8))) (
 ab (t.kind==15) (
   J2 b9_4 ([]:List (Br Tm)) 1 0) (
   J2 b9_4 ([]:List (Br Tm)) 0 0))
noncomputable def il {S:Type} (hd:eD S) (k:Nat) (ret:Pan Int Tm→Option S) (l_0 l_1:Int) (t:Tm) (b9_1:Int) (r2:List Cl) (v d:Int):Nat→(List Tm)→Int→Option S
 |0=>fun _ _=> .none
 |m+1=>fun b9_4 v57=>oC hd k ret l_0 l_1 t b9_1 r2 v d (fun b9_4 b9_5 more14 v90=>eo hd k ret l_0 l_1 t b9_1 r2 b9_4 v d k b9_5 more14 v90) (il hd k ret l_0 l_1 t b9_1 r2 v d m) b9_4 v57
noncomputable def xX {S:Type} (hd:eD S) (k:Nat) (ret:Pan Int Tm→Option S) (l_0 l_1:Int) (t:Tm) (r2:List Cl) (v d:Int) (J1:Int→(List Tm)→Int→Option S) (b9_1:Int):Option S:=
 J1 b9_1 ([]:List Tm) 0
noncomputable def qA {S:Type} (hd:eD S) (k:Nat) (ret:Pan Int Tm→Option S) (l_0 l_1:Int) (t:Tm) (r2:List Cl) (v d:Int):Nat→Int→Option S
 |0=>fun _=> .none
 |_+1=>fun b9_1=>xX hd k ret l_0 l_1 t r2 v d (fun b9_1 b9_4 v57=>il hd k ret l_0 l_1 t b9_1 r2 v d k b9_4 v57) b9_1
def Cb {S:Type} (hd:eD S) (k:Nat) (ret:Pan Int Tm→Option S) (J0:(List Cl)→Int→Option S) (l_0 l_1:Int) (t:Tm) (v d:Int):Option S:=
 aa k (pF k l_0 l_1 t.r d) fun r2=>Pan.elim r2 (fun r2=>
 ab (t.kind==1) (
  ab (decide ((t.n:Int)≥v)) (
  ab (decide ((t.n:Int)>(IntKind.wrap .i64 (1000000000-l_0)))) (
   ret (.pan 100)) (
     J0 r2 (IntKind.wrap .i64 (t.n+l_0)))) (
    J0 r2 t.n)) (
   J0 r2 t.n)) (fun e3=>
 ret (.pan e3))
noncomputable def dg {S:Type}:Nat→Int→Int→Tm→Int→Int→(Pan Int Tm→Option S)→Option S
 |0=>fun _ _ _ _ _ _=> .none
 |k+1=>fun l_0 l_1 t v d ret=>Cb (dg k) k ret (fun r2 b9_1=>qA (dg k) k ret l_0 l_1 t r2 v d k b9_1) l_0 l_1 t v d
noncomputable def Lo {S:Type} (k:Nat) (ret:Pan Int Tm→Option S) (c0:Int) (c1:Tm) (c2:Int):Option S:=
 dg k 0 c0 (ae c1) 0 (if 24<c2 then 24 else c2) fun r2=>Pan.elim r2 (fun r2=>
 ret (.ok (ae r2))) (fun e3=>
 ret (.pan e3))
noncomputable def ul {S:Type} (k:Nat) (c0:Int) (c1:Tm) (c2:Int) (ret:Pan Int Tm→Option S):Option S:=Lo k ret c0 c1 c2
def sM {S:Type} (k:Nat) (ret:Tm×Int→Option S) (c0:Int) (c1:Tm) (c2:Int) (numbers:List Int) (rec0:Int→Option S) (v19:Int):Option S:=
 ab (decide ((v19:Int)<(numbers.length:Int))) (
 Option.bind (al numbers v19) fun x2=>
 ab (decide ((x2:Int)<0)) (
  ret ((Tm.mk 0 0 ByteArray.empty [] [] []),2)) (
   rec0 (IntKind.wrap .i64 (v19+1)))) (
 aa k (ul k c0 (ae c1) c2) fun r4=>Pan.elim r4 (fun r4=>
  ret ((ae r4),0)) (fun e5=>
  ret ((Tm.mk 0 0 ByteArray.empty [] [] []),e5)))
noncomputable def kP {S:Type} (k:Nat) (ret:Tm×Int→Option S) (c0:Int) (c1:Tm) (c2:Int) (numbers:List Int):Nat→Int→Option S
 |0=>fun _=> .none
 |m+1=>fun v19=>sM k ret c0 c1 c2 numbers (kP k ret c0 c1 c2 numbers m) v19
def B_ {S:Type} (k:Nat) (ret:Tm×Int→Option S) (J0:Int→Option S) (t:Tm) (numbers:List Int) (c0:Int) (c1:Tm) (c2:Int):Option S:=
 aa k (jj k (ae t)) fun r1=>
 ab (!(r1==0)) (
 ret ((Tm.mk 0 0 ByteArray.empty [] [] []),r1)) (
  J0 0)
noncomputable def yD {S:Type} (k:Nat) (t:Tm) (numbers:List Int) (c0:Int) (c1:Tm) (c2:Int) (ret:Tm×Int→Option S):Option S:=B_ k ret (fun v19=>kP k ret c0 c1 c2 numbers k v19) t numbers c0 c1 c2
noncomputable def Ln {S:Type} (k:Nat) (ret:Tm×Int→Option S) (t:Tm) (a_from a_by:Int):Option S:=
 aa k (yD k (ae t) [a_from,a_by] a_by (ae t) a_from) fun r1=>
 ret ((ae r1.1),r1.2)
noncomputable def uk {S:Type} (k:Nat) (t:Tm) (a_from a_by:Int) (ret:Tm×Int→Option S):Option S:=Ln k ret t a_from a_by
def Lt {S:Type} (k:Nat) (ret:Int→Option S) (s i:Int):Option S:=
 aa k (kx k i) fun r1=>
 ab (!r1) (
 ret (aS .and .u32 s 16777215)) (
 Option.bind (bA (0≤(IntKind.wrap .u64 i))) fun x2=>
 ret (aS .or .u32 (aS .and .u32 s 16777215) (IntKind.wrap .u32 (1*2^min (Int.toNat (IntKind.wrap .u64 i)) 32))))
noncomputable def gr {S:Type} (k:Nat) (s i:Int) (ret:Int→Option S):Option S:=Lt k ret s i
noncomputable def aas {S:Type} (k:Nat) (ret:Int→Option S) (a_x:Int):Option S:=
 Option.bind (al (ByteArray.mk #[0,1,1,2,1,2,2,3,1,2,2,3,2,3,3,4,1,2,2,3,2,3,3,4,2,3,3,4,3,4,4,5,1,2,2,3,2,3,3,4,2,3,3,4,3,4,4,5,2,3,3,4,3,4,4,5,3,4,4,5,4,5,5,6,1,2,2,3,2,3,3,4,2,3,3,4,3,4,4,5,2,3,3,4,3,4,4,5,3,4,4,5,4,5,5,6,2,3,3,4,3,4,4,5,3,4,4,5,4,5,5,6,3,4,4,5,4,5,5,6,4,5,5,6,5,6,6,7,1,2,2,3,2,3,3,4,2,3,3,4,3,4,4,5,2,3,3,4,3,4,4,5,3,4,4,5,4,5,5,6,2,3,3,4,3,4,4,5,3,4,4,5,4,5,5,6,3,4,4,5,4,5,5,6,4,5,5,6,5,6,6,7,2,3,3,4,3,4,4,5,3,4,4,5,4,5,5,6,3,4,4,5,4,5,5,6,4,5,5,6,5,6,6,7,3,4,4,5,4,5,5,6,4,5,5,6,5,6,6,7,4,5,5,6,5,6,6,7,5,6,6,7,6,7,7,8]).data.toList (Int.fdiv a_x (2^min (Int.toNat 24) 32))) fun x1=>
 Option.bind (al (ByteArray.mk #[0,1,1,2,1,2,2,3,1,2,2,3,2,3,3,4,1,2,2,3,2,3,3,4,2,3,3,4,3,4,4,5,1,2,2,3,2,3,3,4,2,3,3,4,3,4,4,5,2,3,3,4,3,4,4,5,3,4,4,5,4,5,5,6,1,2,2,3,2,3,3,4,2,3,3,4,3,4,4,5,2,3,3,4,3,4,4,5,3,4,4,5,4,5,5,6,2,3,3,4,3,4,4,5,3,4,4,5,4,5,5,6,3,4,4,5,4,5,5,6,4,5,5,6,5,6,6,7,1,2,2,3,2,3,3,4,2,3,3,4,3,4,4,5,2,3,3,4,3,4,4,5,3,4,4,5,4,5,5,6,2,3,3,4,3,4,4,5,3,4,4,5,4,5,5,6,3,4,4,5,4,5,5,6,4,5,5,6,5,6,6,7,2,3,3,4,3,4,4,5,3,4,4,5,4,5,5,6,3,4,4,5,4,5,5,6,4,5,5,6,5,6,6,7,3,4,4,5,4,5,5,6,4,5,5,6,5,6,6,7,4,5,5,6,5,6,6,7,5,6,6,7,6,7,7,8]).data.toList (aS .and .u32 (Int.fdiv a_x (2^min (Int.toNat 16) 32)) 255)) fun x2=>
 Option.bind (al (ByteArray.mk #[0,1,1,2,1,2,2,3,1,2,2,3,2,3,3,4,1,2,2,3,2,3,3,4,2,3,3,4,3,4,4,5,1,2,2,3,2,3,3,4,2,3,3,4,3,4,4,5,2,3,3,4,3,4,4,5,3,4,4,5,4,5,5,6,1,2,2,3,2,3,3,4,2,3,3,4,3,4,4,5,2,3,3,4,3,4,4,5,3,4,4,5,4,5,5,6,2,3,3,4,3,4,4,5,3,4,4,5,4,5,5,6,3,4,4,5,4,5,5,6,4,5,5,6,5,6,6,7,1,2,2,3,2,3,3,4,2,3,3,4,3,4,4,5,2,3,3,4,3,4,4,5,3,4,4,5,4,5,5,6,2,3,3,4,3,4,4,5,3,4,4,5,4,5,5,6,3,4,4,5,4,5,5,6,4,5,5,6,5,6,6,7,2,3,3,4,3,4,4,5,3,4,4,5,4,5,5,6,3,4,4,5,4,5,5,6,4,5,5,6,5,6,6,7,3,4,4,5,4,5,5,6,4,5,5,6,5,6,6,7,4,5,5,6,5,6,6,7,5,6,6,7,6,7,7,8]).data.toList (aS .and .u32 (Int.fdiv a_x (2^min (Int.toNat 8) 32)) 255)) fun x3=>
 Option.bind (al (ByteArray.mk #[0,1,1,2,1,2,2,3,1,2,2,3,2,3,3,4,1,2,2,3,2,3,3,4,2,3,3,4,3,4,4,5,1,2,2,3,2,3,3,4,2,3,3,4,3,4,4,5,2,3,3,4,3,4,4,5,3,4,4,5,4,5,5,6,1,2,2,3,2,3,3,4,2,3,3,4,3,4,4,5,2,3,3,4,3,4,4,5,3,4,4,5,4,5,5,6,2,3,3,4,3,4,4,5,3,4,4,5,4,5,5,6,3,4,4,5,4,5,5,6,4,5,5,6,5,6,6,7,1,2,2,3,2,3,3,4,2,3,3,4,3,4,4,5,2,3,3,4,3,4,4,5,3,4,4,5,4,5,5,6,2,3,3,4,3,4,4,5,3,4,4,5,4,5,5,6,3,4,4,5,4,5,5,6,4,5,5,6,5,6,6,7,2,3,3,4,3,4,4,5,3,4,4,5,4,5,5,6,3,4,4,5,4,5,5,6,4,5,5,6,5,6,6,7,3,4,4,5,4,5,5,6,4,5,5,6,5,6,6,7,4,5,5,6,5,6,6,7,5,6,6,7,6,7,7,8]).data.toList (aS .and .u32 a_x 255)) fun x4=>
 ret (IntKind.wrap .i64 (IntKind.wrap .u8 ((IntKind.wrap .u8 ((IntKind.wrap .u8 ((x1.toNat:Int)+(x2.toNat:Int)))+(x3.toNat:Int)))+(x4.toNat:Int))))
noncomputable def DB {S:Type} (k:Nat) (a_x:Int) (ret:Int→Option S):Option S:=aas k ret a_x
noncomputable def Cc {S:Type} (k:Nat) (ret:Int→Option S) (s:Int):Option S:=
 aa k (DB k (aS .and .u32 s 16777215)) fun r1=>
 ret r1
noncomputable def je {S:Type} (k:Nat) (s:Int) (ret:Int→Option S):Option S:=Cc k ret s
noncomputable def KO {S:Type} (k:Nat) (ret:Bool→Option S) (i:Int):Option S:=
 aa k (gr k 0 i) fun r1=>
 aa k (je k r1) fun r2=>
 ret (r2==1)
noncomputable def tQ {S:Type} (k:Nat) (i:Int) (ret:Bool→Option S):Option S:=KO k ret i
def KX {S:Type} (k:Nat) (ret:Int→Option S) (t:Tm) (i:Int) (a_r:List Cl):Option S:=
 aa k (jj k (ae t)) fun r1=>
 ab (!(r1==0)) (
 ret r1) (
 aa k (tQ k i) fun r2=>
 ab (!r2) (
  ret 2) (
  aa k (fI k a_r) fun r3=>
  ab (!r3) (
  ret 2) (
  ret 0)))
noncomputable def yx {S:Type} (k:Nat) (t:Tm) (i:Int) (a_r:List Cl) (ret:Int→Option S):Option S:=KX k ret t i a_r
noncomputable def KT {S:Type} (k:Nat) (ret:Unit→Option S) (c0:Int) (c1:List Cl):Option S:=
 ret ()
noncomputable def yp {S:Type} (k:Nat) (c0:Int) (c1:List Cl) (ret:Unit→Option S):Option S:=KT k ret c0 c1
noncomputable def KU {S:Type} (k:Nat) (ret:Unit→Option S) (c0:Int) (c1:List Cl):Option S:=
 ret ()
noncomputable def yq {S:Type} (k:Nat) (c0:Int) (c1:List Cl) (ret:Unit→Option S):Option S:=KU k ret c0 c1
noncomputable def KQ {S:Type} (k:Nat) (ret:Int×List Cl→Option S) (i:Int) (a_r:List Cl):Option S:=
 aa k (yp k i a_r) fun r1=>
 aa k (yq k i a_r) fun r2=>
 ret (i,a_r)
noncomputable def yo {S:Type} (k:Nat) (i:Int) (a_r:List Cl) (ret:Int×List Cl→Option S):Option S:=KQ k ret i a_r
def Lr {S:Type} (k:Nat) (ret:Bool→Option S) (s i:Int):Option S:=
 aa k (kx k i) fun r1=>
 ab (r1) (
 Option.bind (bA (0≤(IntKind.wrap .u64 i))) fun x2=>
 ret ((aS .and .u32 (Int.fdiv s (2^min (Int.toNat (IntKind.wrap .u64 i)) 32)) 1)==1)) (
 ret false)
noncomputable def fJ {S:Type} (k:Nat) (s i:Int) (ret:Bool→Option S):Option S:=Lr k ret s i
noncomputable def BO {S:Type} (k:Nat) (ret:List Cl→Option S) (f:List Cl):Option S:=
 Option.bind (ax 1099511627776 0 f.length) fun x1=>
 ret f
noncomputable def pu {S:Type} (k:Nat) (f:List Cl) (ret:List Cl→Option S):Option S:=BO k ret f
noncomputable def K5 {S:Type} (k:Nat) (ret:Bool→Option S) (i:Int):Option S:=
 aa k (gr k 0 i) fun r1=>
 aa k (je k r1) fun r2=>
 ret (r2==1)
noncomputable def tY {S:Type} (k:Nat) (i:Int) (ret:Bool→Option S):Option S:=K5 k ret i
noncomputable def K4 {S:Type} (k:Nat) (ret:Cl×Bool→Option S) (c:Cl):Option S:=
 aa k (po k c) fun r1=>
 ret (c,!r1)
noncomputable def pA {S:Type} (k:Nat) (c:Cl) (ret:Cl×Bool→Option S):Option S:=K4 k ret c
def sA {S:Type} (k:Nat) (ret:List Cl→Option S) (l:List Cl) (rec0:Int→(List Cl)→Option S) (v12:Int) (out5:List Cl):Option S:=
 ab (decide ((v12:Int)<(l.length:Int))) (
 Option.bind (al l v12) fun x1=>
 aa k (pA k x1) fun r2=>
 ab (r2.2) (
  Option.bind (ax 1099511627776 out5.length [r2.1].length) fun x3=>
   rec0 (IntKind.wrap .i64 (v12+1)) (out5++[r2.1])) (
   rec0 (IntKind.wrap .i64 (v12+1)) out5)) (
 ret out5)
noncomputable def mJ {S:Type} (k:Nat) (ret:List Cl→Option S) (l:List Cl):Nat→Int→(List Cl)→Option S
 |0=>fun _ _=> .none
 |m+1=>fun v12 out5=>sA k ret l (mJ k ret l m) v12 out5
noncomputable def BZ {S:Type} (k:Nat) (ret:List Cl→Option S) (J0:Int→(List Cl)→Option S) (l:List Cl):Option S:=
 J0 0 ([]:List Cl)
noncomputable def t6 {S:Type} (k:Nat) (l:List Cl) (ret:List Cl→Option S):Option S:=BZ k ret (fun v12 out5=>mJ k ret l k v12 out5) l
def KZ {S:Type} (k:Nat) (ret:List Cl×Int→Option S) (f:List Cl):Option S:=
 aa k (fI k f) fun r1=>
 ab (!r1) (
 ret (([]:List Cl),2)) (
 aa k (t6 k f) fun r2=>
 aa k (ff k r2) fun r3=>
 ret (r3.1,r3.2))
noncomputable def pz {S:Type} (k:Nat) (f:List Cl) (ret:List Cl×Int→Option S):Option S:=KZ k ret f
noncomputable def K7 {S:Type} (k:Nat) (ret:Cl×Bool→Option S) (b c0:Cl):Option S:=
 aa k (lX k c0 b) fun r1=>
 aa k (pA k r1) fun r2=>
 ret (r2.1,r2.2)
noncomputable def t7 {S:Type} (k:Nat) (b c0:Cl) (ret:Cl×Bool→Option S):Option S:=K7 k ret b c0
def sz {S:Type} (k:Nat) (ret:List Cl→Option S) (c0:Cl) (l:List Cl) (rec0:Int→(List Cl)→Option S) (v12:Int) (out5:List Cl):Option S:=
 ab (decide ((v12:Int)<(l.length:Int))) (
 Option.bind (al l v12) fun x1=>
 aa k (t7 k x1 c0) fun r2=>
 ab (r2.2) (
  Option.bind (ax 1099511627776 out5.length [r2.1].length) fun x3=>
   rec0 (IntKind.wrap .i64 (v12+1)) (out5++[r2.1])) (
   rec0 (IntKind.wrap .i64 (v12+1)) out5)) (
 ret out5)
noncomputable def mI {S:Type} (k:Nat) (ret:List Cl→Option S) (c0:Cl) (l:List Cl):Nat→Int→(List Cl)→Option S
 |0=>fun _ _=> .none
 |m+1=>fun v12 out5=>sz k ret c0 l (mI k ret c0 l m) v12 out5
noncomputable def BY {S:Type} (k:Nat) (ret:List Cl→Option S) (J0:Int→(List Cl)→Option S) (l:List Cl) (c0:Cl):Option S:=
 J0 0 ([]:List Cl)
noncomputable def tZ {S:Type} (k:Nat) (l:List Cl) (c0:Cl) (ret:List Cl→Option S):Option S:=BY k ret (fun v12 out5=>mI k ret c0 l k v12 out5) l c0
def sD {S:Type} (k:Nat) (ret:List Cl×Int→Option S) (g f:List Cl) (rec0:Int→(List Cl)→Option S) (v11:Int) (out6:List Cl):Option S:=
 ab (decide ((v11:Int)<(f.length:Int))) (
 Option.bind (al f v11) fun x1=>
 aa k (tZ k g x1) fun r2=>
 Option.bind (ax 1099511627776 out6.length r2.length) fun x3=>
  rec0 (IntKind.wrap .i64 (v11+1)) (out6++r2)) (
 aa k (ff k out6) fun r4=>
 ret (r4.1,r4.2))
noncomputable def mK {S:Type} (k:Nat) (ret:List Cl×Int→Option S) (g f:List Cl):Nat→Int→(List Cl)→Option S
 |0=>fun _ _=> .none
 |m+1=>fun v11 out6=>sD k ret g f (mK k ret g f m) v11 out6
noncomputable def B0 {S:Type} (k:Nat) (ret:List Cl×Int→Option S) (J0:Int→(List Cl)→Option S) (f g:List Cl):Option S:=
 J0 0 ([]:List Cl)
noncomputable def lZ {S:Type} (k:Nat) (f g:List Cl) (ret:List Cl×Int→Option S):Option S:=B0 k ret (fun v11 out6=>mK k ret g f k v11 out6) f g
noncomputable def Lb {S:Type} (k:Nat) (ret:List Cl→Option S):Option S:=
 ret [(Cl.mk 0 0)]
noncomputable def yz {S:Type} (k:Nat) (ret:List Cl→Option S):Option S:=Lb k ret
def sK {S:Type} (k:Nat) (ret:List Cl×Int→Option S) (r5:List Int) (rec1:Int→(List Cl)→Option S) (v28:Int) (out4':List Cl):Option S:=
 ab (decide ((v28:Int)<(r5.length:Int))) (
 Option.bind (al r5 v28) fun x6=>
 aa k (gr k 0 x6) fun r7=>
 Option.bind (ax 1099511627776 out4'.length [(Cl.mk r7 0)].length) fun x8=>
  rec1 (IntKind.wrap .i64 (v28+1)) (out4'++[(Cl.mk r7 0)])) (
 aa k (ff k out4') fun r9=>
 ret (r9.1,r9.2))
noncomputable def kO {S:Type} (k:Nat) (ret:List Cl×Int→Option S) (r5:List Int):Nat→Int→(List Cl)→Option S
 |0=>fun _ _=> .none
 |m+1=>fun v28 out4'=>sK k ret r5 (kO k ret r5 m) v28 out4'
def oB {S:Type} (k:Nat) (ret:List Cl×Int→Option S) (c:Cl) (r1:List Int) (J1:(List Int)→Int→(List Cl)→Option S) (rec0:Int→(List Cl)→Option S) (v13:Int) (out4:List Cl):Option S:=
 ab (decide ((v13:Int)<(r1.length:Int))) (
 Option.bind (al r1 v13) fun x2=>
 aa k (gr k 0 x2) fun r3=>
 Option.bind (ax 1099511627776 out4.length [(Cl.mk 0 r3)].length) fun x4=>
  rec0 (IntKind.wrap .i64 (v13+1)) (out4++[(Cl.mk 0 r3)])) (
 ri c.neg fun r5=>
  J1 r5 0 out4)
noncomputable def mQ {S:Type} (k:Nat) (ret:List Cl×Int→Option S) (c:Cl) (r1:List Int):Nat→Int→(List Cl)→Option S
 |0=>fun _ _=> .none
 |m+1=>fun v13 out4=>oB k ret c r1 (fun r5 v28 out4'=>kO k ret r5 k v28 out4') (mQ k ret c r1 m) v13 out4
noncomputable def B8 {S:Type} (k:Nat) (ret:List Cl×Int→Option S) (J0:(List Int)→Int→(List Cl)→Option S) (c:Cl):Option S:=
 ri c.pos fun r1=>
 J0 r1 0 ([]:List Cl)
noncomputable def ug {S:Type} (k:Nat) (c:Cl) (ret:List Cl×Int→Option S):Option S:=B8 k ret (fun r1 v13 out4=>mQ k ret c r1 k v13 out4) c
def sJ {S:Type} (k:Nat) (ret:List Cl×Int→Option S) (x1:Cl) (g f:List Cl) (v13:Int) (rec0:Int→(List Cl)→Option S) (rec1:Int→(List Cl)→Option S) (v19:Int) (out6':List Cl):Option S:=
 ab (decide ((v19:Int)<(g.length:Int))) (
 Option.bind (al g v19) fun x2=>
 aa k (lX k x1 x2) fun r3=>
 Option.bind (ax 1099511627776 out6'.length [r3].length) fun x4=>
  rec1 (IntKind.wrap .i64 (v19+1)) (out6'++[r3])) (
  rec0 (IntKind.wrap .i64 (v13+1)) out6')
noncomputable def kN {S:Type} (k:Nat) (ret:List Cl×Int→Option S) (rec0:Int→(List Cl)→Option S) (x1:Cl) (g f:List Cl) (v13:Int):Nat→Int→(List Cl)→Option S
 |0=>fun _ _=> .none
 |m+1=>fun v19 out6'=>sJ k ret x1 g f v13 rec0 (kN k ret rec0 x1 g f v13 m) v19 out6'
def oA {S:Type} (k:Nat) (ret:List Cl×Int→Option S) (g f:List Cl) (J1:Cl→Int→Int→(List Cl)→Option S) (rec0:Int→(List Cl)→Option S) (v13:Int) (out6:List Cl):Option S:=
 ab (decide ((v13:Int)<(f.length:Int))) (
 Option.bind (al f v13) fun x1=>
  J1 x1 v13 0 out6) (
 aa k (ff k out6) fun r5=>
 ret (r5.1,r5.2))
noncomputable def jE {S:Type} (k:Nat) (ret:List Cl×Int→Option S) (g f:List Cl):Nat→Int→(List Cl)→Option S
 |0=>fun _ _=> .none
 |m+1=>fun v13 out6=>oA k ret g f (fun x1 v13 v19 out6'=>kN k ret (jE k ret g f m) x1 g f v13 k v19 out6') (jE k ret g f m) v13 out6
noncomputable def B7 {S:Type} (k:Nat) (ret:List Cl×Int→Option S) (J0:Int→(List Cl)→Option S) (f g:List Cl):Option S:=
 J0 0 ([]:List Cl)
noncomputable def hJ {S:Type} (k:Nat) (f g:List Cl) (ret:List Cl×Int→Option S):Option S:=B7 k ret (fun v13 out6=>jE k ret g f k v13 out6) f g
def Lh {S:Type} (k:Nat) (ret:List Cl×Int→Option S) (a_have:List Cl) (c:Cl):Option S:=
 aa k (ug k c) fun r1=>
 ab (!(r1.2==0)) (
 ret (([]:List Cl),r1.2)) (
 aa k (hJ k a_have r1.1) fun r2=>
 ret (r2.1,r2.2))
noncomputable def uf {S:Type} (k:Nat) (a_have:List Cl) (c:Cl) (ret:List Cl×Int→Option S):Option S:=Lh k ret a_have c
def sH {S:Type} (k:Nat) (ret:List Cl×Int→Option S) (l:List Cl) (rec0:(List Cl)→Int→Option S) (v1:List Cl) (v15:Int):Option S:=
 ab (decide ((v15:Int)<(l.length:Int))) (
 Option.bind (al l v15) fun x1=>
 aa k (uf k v1 x1) fun r2=>
 ab (!(r2.2==0)) (
  ret (([]:List Cl),r2.2)) (
   rec0 r2.1 (IntKind.wrap .i64 (v15+1)))) (
 ret (v1,0))
noncomputable def mO {S:Type} (k:Nat) (ret:List Cl×Int→Option S) (l:List Cl):Nat→(List Cl)→Int→Option S
 |0=>fun _ _=> .none
 |m+1=>fun v1 v15=>sH k ret l (mO k ret l m) v1 v15
noncomputable def B5 {S:Type} (k:Nat) (ret:List Cl×Int→Option S) (J0:(List Cl)→Int→Option S) (l a_from:List Cl):Option S:=
 J0 a_from 0
noncomputable def yB {S:Type} (k:Nat) (l a_from:List Cl) (ret:List Cl×Int→Option S):Option S:=B5 k ret (fun v1 v15=>mO k ret l k v1 v15) l a_from
noncomputable def Lg {S:Type} (k:Nat) (ret:List Cl×Int→Option S) (f:List Cl):Option S:=
 aa k (yz k) fun r1=>
 aa k (yB k f r1) fun r2=>
 ret (r2.1,r2.2)
noncomputable def l7 {S:Type} (k:Nat) (f:List Cl) (ret:List Cl×Int→Option S):Option S:=Lg k ret f
def La {S:Type} (k:Nat) (ret:List Cl×Int→Option S) (f:List Cl):Option S:=
 aa k (l9 k [f]) fun r1=>
 ab (!(r1==0)) (
 ret (([]:List Cl),r1)) (
 aa k (l7 k f) fun r2=>
 ret (r2.1,r2.2))
noncomputable def ua {S:Type} (k:Nat) (f:List Cl) (ret:List Cl×Int→Option S):Option S:=La k ret f
def K0 {S:Type} (k:Nat) (ret:List Cl×Int→Option S) (f:List Cl):Option S:=
 aa k (ua k f) fun r1=>
 ab (!(r1.2==0)) (
 ret (([]:List Cl),r1.2)) (
 aa k (pz k r1.1) fun r2=>
 ret (r2.1,r2.2))
noncomputable def tW {S:Type} (k:Nat) (f:List Cl) (ret:List Cl×Int→Option S):Option S:=K0 k ret f
def sy {S:Type} (k:Nat) (ret:List Cl×Int→Option S) (i:Int) (a_r f:List Cl) (v29:Int) (v8:List Cl) (rec0:Int→(List Cl)→Option S) (g11:List Cl) (v13:Int):Option S:=
 ab (v13==0) (
 aa k (pB k v8 g11) fun r10=>
 ab (!(r10.2==0)) (
  ret (([]:List Cl),r10.2)) (
   rec0 (IntKind.wrap .i64 (v29+1)) r10.1)) (
 ab (!(v13==0)) (
  ret (([]:List Cl),v13)) (
   rec0 (IntKind.wrap .i64 (v29+1)) v8))
noncomputable def mH {S:Type} (k:Nat) (ret:List Cl×Int→Option S) (rec0:Int→(List Cl)→Option S) (i:Int) (a_r f:List Cl) (v29:Int) (v8:List Cl):Nat→(List Cl)→Int→Option S
 |0=>fun _ _=> .none
 |_+1=>fun g11 v13=>sy k ret i a_r f v29 v8 rec0 g11 v13
def oz {S:Type} (k:Nat) (ret:List Cl×Int→Option S) (i:Int) (a_r f:List Cl) (J1:Int→(List Cl)→(List Cl)→Int→Option S) (rec0:Int→(List Cl)→Option S) (v29:Int) (v8:List Cl):Option S:=
 ab (decide ((v29:Int)<(f.length:Int))) (
 Option.bind (al f v29) fun x4=>
 aa k (hU k x4.pos i) fun r5=>
 aa k (hU k x4.neg i) fun r6=>
 aa k (fJ k x4.pos i) fun r7=>
 ab (r7) (
  aa k (pz k a_r) fun r8=>
  ab (r8.2==0) (
  aa k (lZ k [(Cl.mk r5 r6)] r8.1) fun r9=>
    J1 v29 v8 r9.1 r9.2) (
    J1 v29 v8 [(Cl.mk r5 r6)] r8.2)) (
  aa k (fJ k x4.neg i) fun r11=>
  ab (r11) (
  aa k (tW k a_r) fun r12=>
  ab (r12.2==0) (
   aa k (lZ k [(Cl.mk r5 r6)] r12.1) fun r13=>
     J1 v29 v8 r13.1 r13.2) (
     J1 v29 v8 [(Cl.mk r5 r6)] r12.2)) (
    J1 v29 v8 [(Cl.mk r5 r6)] 0))) (
 ret (v8,0))
noncomputable def jD {S:Type} (k:Nat) (ret:List Cl×Int→Option S) (i:Int) (a_r f:List Cl):Nat→Int→(List Cl)→Option S
 |0=>fun _ _=> .none
 |m+1=>fun v29 v8=>oz k ret i a_r f (fun v29 v8 g11 v13=>mH k ret (jD k ret i a_r f m) i a_r f v29 v8 k g11 v13) (jD k ret i a_r f m) v29 v8
def BX {S:Type} (k:Nat) (ret:List Cl×Int→Option S) (J0:Int→(List Cl)→Option S) (f:List Cl) (i:Int) (a_r:List Cl):Option S:=
 aa k (jc k f) fun r1=>
 ab (!r1) (
 ret (([]:List Cl),2)) (
 aa k (tY k i) fun r2=>
 ab (!r2) (
  ret (([]:List Cl),2)) (
  aa k (fI k a_r) fun r3=>
  ab (!r3) (
  ret (([]:List Cl),2)) (
    J0 0 [])))
noncomputable def tX {S:Type} (k:Nat) (f:List Cl) (i:Int) (a_r:List Cl) (ret:List Cl×Int→Option S):Option S:=BX k ret (fun v29 v8=>jD k ret i a_r f k v29 v8) f i a_r
def KS {S:Type} (k:Nat) (ret:List Cl×Int→Option S) (f:List Cl) (depth c0:Int) (c1:List Cl):Option S:=
 aa k (l6 k f) fun r1=>
 aa k (fJ k r1 (IntKind.wrap .i64 (c0+depth))) fun r2=>
 ab (!r2) (
 aa k (pu k f) fun r3=>
 ret (r3,0)) (
 aa k (jd k c1 0 depth) fun r4=>
 ab (!(r4.2==0)) (
  ret (([]:List Cl),r4.2)) (
  aa k (tX k f (IntKind.wrap .i64 (c0+depth)) r4.1) fun r5=>
  ret (r5.1,r5.2)))
noncomputable def pw {S:Type} (k:Nat) (f:List Cl) (depth c0:Int) (c1:List Cl) (ret:List Cl×Int→Option S):Option S:=KS k ret f depth c0 c1
def K8 {S:Type} (k:Nat) (ret:List Cl×Int→Option S) (i:Int):Option S:=
 aa k (gr k 0 i) fun r1=>
 aa k (je k r1) fun r2=>
 ab (r2==0) (
 ret (([]:List Cl),2)) (
 aa k (gr k 0 i) fun r3=>
 ret ([(Cl.mk r3 0)],0))
noncomputable def t_ {S:Type} (k:Nat) (i:Int) (ret:List Cl×Int→Option S):Option S:=K8 k ret i
noncomputable def Lf {S:Type} (k:Nat) (ret:List Cl×Int→Option S) (f g:List Cl):Option S:=
 Option.bind (ax 1099511627776 ([]:List Cl).length f.length) fun x1=>
 Option.bind (ax 1099511627776 (([]:List Cl)++f).length g.length) fun x2=>
 aa k (ff k ((([]:List Cl)++f)++g)) fun r3=>
 ret (r3.1,r3.2)
noncomputable def kw {S:Type} (k:Nat) (f g:List Cl) (ret:List Cl×Int→Option S):Option S:=Lf k ret f g
def Ld {S:Type} (k:Nat) (ret:List Cl×Int→Option S) (a_have:List Cl) (c:Cl) (c0:Int) (c1:List Cl):Option S:=
 aa k (hU k c.pos c0) fun r1=>
 aa k (hU k c.neg c0) fun r2=>
 aa k (fJ k c.pos c0) fun r3=>
 ab (r3) (
 aa k (hJ k [(Cl.mk r1 r2)] c1) fun r4=>
 ab (!(r4.2==0)) (
  ret (([]:List Cl),r4.2)) (
  aa k (fJ k c.neg c0) fun r5=>
  ab (r5) (
  aa k (l7 k c1) fun r6=>
  ab (!(r6.2==0)) (
   ret (([]:List Cl),r6.2)) (
   aa k (hJ k r4.1 r6.1) fun r7=>
   ab (!(r7.2==0)) (
   ret (([]:List Cl),r7.2)) (
   aa k (kw k a_have r7.1) fun r8=>
   ret (r8.1,r8.2)))) (
  aa k (kw k a_have r4.1) fun r9=>
  ret (r9.1,r9.2)))) (
 aa k (fJ k c.neg c0) fun r10=>
 ab (r10) (
  aa k (l7 k c1) fun r11=>
  ab (!(r11.2==0)) (
  ret (([]:List Cl),r11.2)) (
  aa k (hJ k [(Cl.mk r1 r2)] r11.1) fun r12=>
  ab (!(r12.2==0)) (
   ret (([]:List Cl),r12.2)) (
   aa k (kw k a_have r12.1) fun r13=>
   ret (r13.1,r13.2)))) (
  aa k (kw k a_have [(Cl.mk r1 r2)]) fun r14=>
  ret (r14.1,r14.2)))
noncomputable def uc {S:Type} (k:Nat) (a_have:List Cl) (c:Cl) (c0:Int) (c1:List Cl) (ret:List Cl×Int→Option S):Option S:=Ld k ret a_have c c0 c1
def sG {S:Type} (k:Nat) (ret:List Cl×Int→Option S) (c0:Int) (c1 l:List Cl) (rec0:(List Cl)→Int→Option S) (v1:List Cl) (v15:Int):Option S:=
 ab (decide ((v15:Int)<(l.length:Int))) (
 Option.bind (al l v15) fun x1=>
 aa k (uc k v1 x1 c0 c1) fun r2=>
 ab (!(r2.2==0)) (
  ret (([]:List Cl),r2.2)) (
   rec0 r2.1 (IntKind.wrap .i64 (v15+1)))) (
 ret (v1,0))
noncomputable def mN {S:Type} (k:Nat) (ret:List Cl×Int→Option S) (c0:Int) (c1 l:List Cl):Nat→(List Cl)→Int→Option S
 |0=>fun _ _=> .none
 |m+1=>fun v1 v15=>sG k ret c0 c1 l (mN k ret c0 c1 l m) v1 v15
noncomputable def B4 {S:Type} (k:Nat) (ret:List Cl×Int→Option S) (J0:(List Cl)→Int→Option S) (l a_from:List Cl) (c0:Int) (c1:List Cl):Option S:=
 J0 a_from 0
noncomputable def yA {S:Type} (k:Nat) (l a_from:List Cl) (c0:Int) (c1:List Cl) (ret:List Cl×Int→Option S):Option S:=B4 k ret (fun v1 v15=>mN k ret c0 c1 l k v1 v15) l a_from c0 c1
def Lc {S:Type} (k:Nat) (ret:List Cl×Int→Option S) (f:List Cl) (i:Int) (a_r:List Cl):Option S:=
 aa k (l9 k [f,a_r]) fun r1=>
 ab (!(r1==0)) (
 ret (([]:List Cl),r1)) (
 aa k (t_ k i) fun r2=>
 ab (!(r2.2==0)) (
  ret (([]:List Cl),r2.2)) (
  aa k (pC k) fun r3=>
  aa k (yA k f r3 i a_r) fun r4=>
  ret (r4.1,r4.2)))
noncomputable def ub {S:Type} (k:Nat) (f:List Cl) (i:Int) (a_r:List Cl) (ret:List Cl×Int→Option S):Option S:=Lc k ret f i a_r
def KR {S:Type} (k:Nat) (ret:List Cl×Int→Option S) (f:List Cl) (depth c0:Int) (c1:List Cl):Option S:=
 aa k (l6 k f) fun r1=>
 aa k (fJ k r1 (IntKind.wrap .i64 (c0+depth))) fun r2=>
 ab (!r2) (
 aa k (pu k f) fun r3=>
 ret (r3,0)) (
 aa k (jd k c1 0 depth) fun r4=>
 ab (!(r4.2==0)) (
  ret (([]:List Cl),r4.2)) (
  aa k (ub k f (IntKind.wrap .i64 (c0+depth)) r4.1) fun r5=>
  ret (r5.1,r5.2)))
noncomputable def tR {S:Type} (k:Nat) (f:List Cl) (depth c0:Int) (c1:List Cl) (ret:List Cl×Int→Option S):Option S:=KR k ret f depth c0 c1
def KV {S:Type} (k:Nat) (ret:List Cl×Int→Option S) (t:Tm) (depth c0:Int) (c1:List Cl):Option S:=
 ab (t.kind==14) (
 aa k (pw k t.r depth c0 c1) fun r1=>
 ret (r1.1,r1.2)) (
 aa k (tR k t.r depth c0 c1) fun r2=>
 ret (r2.1,r2.2))
noncomputable def tT {S:Type} (k:Nat) (t:Tm) (depth c0:Int) (c1:List Cl) (ret:List Cl×Int→Option S):Option S:=KV k ret t depth c0 c1
noncomputable def BT {S:Type} (k:Nat) (ret:Int→Option S) (i:Int) (c0:Tm):Option S:=
 aa k (ji k c0.kind i) fun r1=>
 ret r1.2
noncomputable def px {S:Type} (k:Nat) (i:Int) (c0:Tm) (ret:Int→Option S):Option S:=BT k ret i c0
noncomputable def BU {S:Type} (k:Nat) (ret:Int→Option S) (p c0:Int):Option S:=
 ret c0
noncomputable def py {S:Type} (k:Nat) (p c0:Int) (ret:Int→Option S):Option S:=BU k ret p c0
abbrev cx (S:Type):=Tm→Int→Int→(List Cl)→(Tm×Int→Option S)→Option S
def sq {S:Type} (hd:cx S) (k:Nat) (ret:List Tm×Int→Option S) (c0:Int) (c1:List Cl) (c4:Int) (l:List Tm) (depth:Int) (rec0:(List Tm)→Int→Option S) (out10:List Tm) (v17:Int):Option S:=
 ab (decide ((v17:Int)<(l.length:Int))) (
 Option.bind (al l v17) fun x1=>
 aa k (py k v17 c4) fun r2=>
 hd (ae x1) (IntKind.wrap .i64 (depth+r2)) c0 c1 fun r3=>
 ab (!(r3.2==0)) (
  ret (([]:List Tm),r3.2)) (
  Option.bind (ax 1099511627776 out10.length [(ae r3.1)].length) fun x4=>
   rec0 (out10++[(ae r3.1)]) (IntKind.wrap .i64 (v17+1)))) (
 ret (out10,0))
noncomputable def jB {S:Type} (hd:cx S) (k:Nat) (ret:List Tm×Int→Option S) (c0:Int) (c1:List Cl) (c4:Int) (l:List Tm) (depth:Int):Nat→(List Tm)→Int→Option S
 |0=>fun _ _=> .none
 |m+1=>fun out10 v17=>sq hd k ret c0 c1 c4 l depth (jB hd k ret c0 c1 c4 l depth m) out10 v17
noncomputable def BR {S:Type} (hd:cx S) (k:Nat) (ret:List Tm×Int→Option S) (J0:(List Tm)→Int→Option S) (l:List Tm) (depth c0:Int) (c1:List Cl) (c4:Int):Option S:=
 J0 ([]:List Tm) 0
noncomputable def yv {S:Type} (hd:cx S) (k:Nat) (l:List Tm) (depth c0:Int) (c1:List Cl) (c4:Int) (ret:List Tm×Int→Option S):Option S:=BR hd k ret (fun out10 v17=>jB hd k ret c0 c1 c4 l depth k out10 v17) l depth c0 c1 c4
def sr {S:Type} (hd:cx S) (k:Nat) (ret:List Tm×Int→Option S) (c0:Int) (c1:List Cl) (c4:Tm) (l:List Tm) (depth:Int) (rec0:(List Tm)→Int→Option S) (out10:List Tm) (v17:Int):Option S:=
 ab (decide ((v17:Int)<(l.length:Int))) (
 Option.bind (al l v17) fun x1=>
 aa k (px k v17 (ae c4)) fun r2=>
 hd (ae x1) (IntKind.wrap .i64 (depth+r2)) c0 c1 fun r3=>
 ab (!(r3.2==0)) (
  ret (([]:List Tm),r3.2)) (
  Option.bind (ax 1099511627776 out10.length [(ae r3.1)].length) fun x4=>
   rec0 (out10++[(ae r3.1)]) (IntKind.wrap .i64 (v17+1)))) (
 ret (out10,0))
noncomputable def jC {S:Type} (hd:cx S) (k:Nat) (ret:List Tm×Int→Option S) (c0:Int) (c1:List Cl) (c4:Tm) (l:List Tm) (depth:Int):Nat→(List Tm)→Int→Option S
 |0=>fun _ _=> .none
 |m+1=>fun out10 v17=>sr hd k ret c0 c1 c4 l depth (jC hd k ret c0 c1 c4 l depth m) out10 v17
noncomputable def BS {S:Type} (hd:cx S) (k:Nat) (ret:List Tm×Int→Option S) (J0:(List Tm)→Int→Option S) (l:List Tm) (depth c0:Int) (c1:List Cl) (c4:Tm):Option S:=
 J0 ([]:List Tm) 0
noncomputable def yw {S:Type} (hd:cx S) (k:Nat) (l:List Tm) (depth c0:Int) (c1:List Cl) (c4:Tm) (ret:List Tm×Int→Option S):Option S:=BS hd k ret (fun out10 v17=>jC hd k ret c0 c1 c4 l depth k out10 v17) l depth c0 c1 c4
def su {S:Type} (hd:cx S) (k:Nat) (ret:Tm×Int→Option S) (c0:Int) (c1:List Cl) (t:Tm) (r1:List Cl×Int) (r2:List Tm×Int) (depth:Int) (rec0:Int→(List (Br Tm))→Int→Option S) (b10_0:Int) (b8_5:List (Br Tm)) (v55:Int):Option S:=
 ab (decide ((v55:Int)<(t.sys.length:Int))) (
 Option.bind (al t.sys v55) fun x3=>
 aa k (pw k x3.face depth c0 c1) fun r4=>
 ab (!(r4.2==0)) (
  ret ((Tm.mk 0 0 ByteArray.empty [] [] []),r4.2)) (
  ab ((r4.1.length:Int)==0) (
    rec0 b10_0 b8_5 (IntKind.wrap .i64 (v55+1))) (
  aa k (yv hd k x3.kids depth c0 c1 b10_0) fun r5=>
  ab (!(r5.2==0)) (
   ret ((Tm.mk 0 0 ByteArray.empty [] [] []),r5.2)) (
   Option.bind (ax 1099511627776 b8_5.length [(Br.mk r4.1 r5.1)].length) fun x6=>
     rec0 b10_0 (b8_5++[(Br.mk r4.1 r5.1)]) (IntKind.wrap .i64 (v55+1)))))) (
 ret ((Tm.mk t.kind t.n t.name r1.1 r2.1 b8_5),0))
noncomputable def eL {S:Type} (hd:cx S) (k:Nat) (ret:Tm×Int→Option S) (c0:Int) (c1:List Cl) (t:Tm) (r1:List Cl×Int) (r2:List Tm×Int) (depth:Int):Nat→Int→(List (Br Tm))→Int→Option S
 |0=>fun _ _ _=> .none
 |m+1=>fun b10_0 b8_5 v55=>su hd k ret c0 c1 t r1 r2 depth (eL hd k ret c0 c1 t r1 r2 depth m) b10_0 b8_5 v55
def BV {S:Type} (hd:cx S) (k:Nat) (ret:Tm×Int→Option S) (J0:(List Cl×Int)→(List Tm×Int)→Int→(List (Br Tm))→Int→Option S) (t:Tm) (depth c0:Int) (c1:List Cl):Option S:=
 aa k (tT k (ae t) depth c0 c1) fun r1=>
 ab (!(r1.2==0)) (
 ret ((Tm.mk 0 0 ByteArray.empty [] [] []),r1.2)) (
 aa k (yw hd k t.kids depth c0 c1 (ae t)) fun r2=>
 ab (!(r2.2==0)) (
  ret ((Tm.mk 0 0 ByteArray.empty [] [] []),r2.2)) (
  ab (t.kind==15) (
    J0 r1 r2 1 ([]:List (Br Tm)) 0) (
    J0 r1 r2 0 ([]:List (Br Tm)) 0)))
noncomputable def dx {S:Type}:Nat→Tm→Int→Int→(List Cl)→(Tm×Int→Option S)→Option S
 |0=>fun _ _ _ _ _=> .none
 |k+1=>fun t depth c0 c1 ret=>BV (dx k) k ret (fun r1 r2 b10_0 b8_5 v55=>eL (dx k) k ret c0 c1 t r1 r2 depth k b10_0 b8_5 v55) t depth c0 c1
noncomputable def KP {S:Type} (k:Nat) (ret:Int→Option S) (i:Int):Option S:=
 ret i
noncomputable def yn {S:Type} (k:Nat) (i:Int) (ret:Int→Option S):Option S:=KP k ret i
def Lq {S:Type} (k:Nat) (ret:Int→Option S) (s i:Int):Option S:=
 aa k (kx k i) fun r1=>
 ab (!r1) (
 ret (aS .and .u32 s 16777215)) (
 aa k (mc k i) fun r2=>
 Option.bind (bA (0≤(IntKind.wrap .u64 (IntKind.wrap .i64 (i+1))))) fun x3=>
 Option.bind (bA (0≤(IntKind.wrap .u64 i))) fun x4=>
 ret (aS .or .u32 (aS .and .u32 (aS .and .u32 s 16777215) r2) (IntKind.wrap .u32 ((Int.fdiv (aS .and .u32 s 16777215) (2^min (Int.toNat (IntKind.wrap .u64 (IntKind.wrap .i64 (i+1)))) 32))*2^min (Int.toNat (IntKind.wrap .u64 i)) 32))))
noncomputable def ma {S:Type} (k:Nat) (s i:Int) (ret:Int→Option S):Option S:=Lq k ret s i
def sm {S:Type} (k:Nat) (ret:List Cl×Int→Option S) (c0 depth:Int) (f:List Cl) (rec0:Int→(List Cl)→Option S) (v12:Int) (out7:List Cl):Option S:=
 ab (decide ((v12:Int)<(f.length:Int))) (
 Option.bind (al f v12) fun x1=>
 aa k (ma k x1.pos (IntKind.wrap .i64 (c0+depth))) fun r2=>
 aa k (ma k x1.neg (IntKind.wrap .i64 (c0+depth))) fun r3=>
 Option.bind (ax 1099511627776 out7.length [(Cl.mk r2 r3)].length) fun x4=>
  rec0 (IntKind.wrap .i64 (v12+1)) (out7++[(Cl.mk r2 r3)])) (
 aa k (ff k out7) fun r5=>
 ret (r5.1,r5.2))
noncomputable def mG {S:Type} (k:Nat) (ret:List Cl×Int→Option S) (c0 depth:Int) (f:List Cl):Nat→Int→(List Cl)→Option S
 |0=>fun _ _=> .none
 |m+1=>fun v12 out7=>sm k ret c0 depth f (mG k ret c0 depth f m) v12 out7
noncomputable def BN {S:Type} (k:Nat) (ret:List Cl×Int→Option S) (J0:Int→(List Cl)→Option S) (f:List Cl) (depth c0:Int):Option S:=
 J0 0 ([]:List Cl)
noncomputable def lY {S:Type} (k:Nat) (f:List Cl) (depth c0:Int) (ret:List Cl×Int→Option S):Option S:=BN k ret (fun v12 out7=>mG k ret c0 depth f k v12 out7) f depth c0
def KW {S:Type} (k:Nat) (ret:List Cl×Int→Option S) (t:Tm) (depth c0:Int):Option S:=
 ab (t.kind==14) (
 aa k (lY k t.r depth c0) fun r1=>
 ret (r1.1,r1.2)) (
 aa k (lY k t.r depth c0) fun r2=>
 ret (r2.1,r2.2))
noncomputable def tU {S:Type} (k:Nat) (t:Tm) (depth c0:Int) (ret:List Cl×Int→Option S):Option S:=KW k ret t depth c0
abbrev cz (S:Type):=Tm→Int→Int→(Tm×Int→Option S)→Option S
def sn {S:Type} (hd:cz S) (k:Nat) (ret:List Tm×Int→Option S) (c0 c1:Int) (l:List Tm) (depth:Int) (rec0:(List Tm)→Int→Option S) (out10:List Tm) (v17:Int):Option S:=
 ab (decide ((v17:Int)<(l.length:Int))) (
 Option.bind (al l v17) fun x1=>
 aa k (py k v17 c1) fun r2=>
 hd (ae x1) (IntKind.wrap .i64 (depth+r2)) c0 fun r3=>
 ab (!(r3.2==0)) (
  ret (([]:List Tm),r3.2)) (
  Option.bind (ax 1099511627776 out10.length [(ae r3.1)].length) fun x4=>
   rec0 (out10++[(ae r3.1)]) (IntKind.wrap .i64 (v17+1)))) (
 ret (out10,0))
noncomputable def jz {S:Type} (hd:cz S) (k:Nat) (ret:List Tm×Int→Option S) (c0 c1:Int) (l:List Tm) (depth:Int):Nat→(List Tm)→Int→Option S
 |0=>fun _ _=> .none
 |m+1=>fun out10 v17=>sn hd k ret c0 c1 l depth (jz hd k ret c0 c1 l depth m) out10 v17
noncomputable def BP {S:Type} (hd:cz S) (k:Nat) (ret:List Tm×Int→Option S) (J0:(List Tm)→Int→Option S) (l:List Tm) (depth c0 c1:Int):Option S:=
 J0 ([]:List Tm) 0
noncomputable def yr {S:Type} (hd:cz S) (k:Nat) (l:List Tm) (depth c0 c1:Int) (ret:List Tm×Int→Option S):Option S:=BP hd k ret (fun out10 v17=>jz hd k ret c0 c1 l depth k out10 v17) l depth c0 c1
def so {S:Type} (hd:cz S) (k:Nat) (ret:List Tm×Int→Option S) (c0:Int) (c1:Tm) (l:List Tm) (depth:Int) (rec0:(List Tm)→Int→Option S) (out10:List Tm) (v17:Int):Option S:=
 ab (decide ((v17:Int)<(l.length:Int))) (
 Option.bind (al l v17) fun x1=>
 aa k (px k v17 (ae c1)) fun r2=>
 hd (ae x1) (IntKind.wrap .i64 (depth+r2)) c0 fun r3=>
 ab (!(r3.2==0)) (
  ret (([]:List Tm),r3.2)) (
  Option.bind (ax 1099511627776 out10.length [(ae r3.1)].length) fun x4=>
   rec0 (out10++[(ae r3.1)]) (IntKind.wrap .i64 (v17+1)))) (
 ret (out10,0))
noncomputable def jA {S:Type} (hd:cz S) (k:Nat) (ret:List Tm×Int→Option S) (c0:Int) (c1:Tm) (l:List Tm) (depth:Int):Nat→(List Tm)→Int→Option S
 |0=>fun _ _=> .none
 |m+1=>fun out10 v17=>so hd k ret c0 c1 l depth (jA hd k ret c0 c1 l depth m) out10 v17
noncomputable def BQ {S:Type} (hd:cz S) (k:Nat) (ret:List Tm×Int→Option S) (J0:(List Tm)→Int→Option S) (l:List Tm) (depth c0:Int) (c1:Tm):Option S:=
 J0 ([]:List Tm) 0
noncomputable def yu {S:Type} (hd:cz S) (k:Nat) (l:List Tm) (depth c0:Int) (c1:Tm) (ret:List Tm×Int→Option S):Option S:=BQ hd k ret (fun out10 v17=>jA hd k ret c0 c1 l depth k out10 v17) l depth c0 c1
def sx {S:Type} (hd:cz S) (k:Nat) (ret:Tm×Int→Option S) (c0:Int) (t:Tm) (r1:List Cl×Int) (r2:List Tm×Int) (depth:Int) (rec0:Int→(List (Br Tm))→Int→Option S) (b10_0:Int) (b8_5:List (Br Tm)) (v55:Int):Option S:=
 ab (decide ((v55:Int)<(t.sys.length:Int))) (
 Option.bind (al t.sys v55) fun x3=>
 aa k (lY k x3.face depth c0) fun r4=>
 ab (!(r4.2==0)) (
  ret ((Tm.mk 0 0 ByteArray.empty [] [] []),r4.2)) (
  ab ((r4.1.length:Int)==0) (
    rec0 b10_0 b8_5 (IntKind.wrap .i64 (v55+1))) (
  aa k (yr hd k x3.kids depth c0 b10_0) fun r5=>
  ab (!(r5.2==0)) (
   ret ((Tm.mk 0 0 ByteArray.empty [] [] []),r5.2)) (
   Option.bind (ax 1099511627776 b8_5.length [(Br.mk r4.1 r5.1)].length) fun x6=>
     rec0 b10_0 (b8_5++[(Br.mk r4.1 r5.1)]) (IntKind.wrap .i64 (v55+1)))))) (
 ret ((Tm.mk t.kind t.n t.name r1.1 r2.1 b8_5),0))
noncomputable def eM {S:Type} (hd:cz S) (k:Nat) (ret:Tm×Int→Option S) (c0:Int) (t:Tm) (r1:List Cl×Int) (r2:List Tm×Int) (depth:Int):Nat→Int→(List (Br Tm))→Int→Option S
 |0=>fun _ _ _=> .none
 |m+1=>fun b10_0 b8_5 v55=>sx hd k ret c0 t r1 r2 depth (eM hd k ret c0 t r1 r2 depth m) b10_0 b8_5 v55
def BW {S:Type} (hd:cz S) (k:Nat) (ret:Tm×Int→Option S) (J0:(List Cl×Int)→(List Tm×Int)→Int→(List (Br Tm))→Int→Option S) (t:Tm) (depth c0:Int):Option S:=
 aa k (tU k (ae t) depth c0) fun r1=>
 ab (!(r1.2==0)) (
 ret ((Tm.mk 0 0 ByteArray.empty [] [] []),r1.2)) (
 aa k (yu hd k t.kids depth c0 (ae t)) fun r2=>
 ab (!(r2.2==0)) (
  ret ((Tm.mk 0 0 ByteArray.empty [] [] []),r2.2)) (
  ab (t.kind==15) (
    J0 r1 r2 1 ([]:List (Br Tm)) 0) (
    J0 r1 r2 0 ([]:List (Br Tm)) 0)))
noncomputable def dt {S:Type}:Nat→Tm→Int→Int→(Tm×Int→Option S)→Option S
 |0=>fun _ _ _ _=> .none
 |k+1=>fun t depth c0 ret=>BW (dt k) k ret (fun r1 r2 b10_0 b8_5 v55=>eM (dt k) k ret c0 t r1 r2 depth k b10_0 b8_5 v55) t depth c0
def KN {S:Type} (k:Nat) (ret:Tm×Int→Option S) (t:Tm) (i:Int) (a_r:List Cl):Option S:=
 aa k (yx k (ae t) i a_r) fun r1=>
 ab (!(r1==0)) (
 ret ((Tm.mk 0 0 ByteArray.empty [] [] []),r1)) (
 aa k (jd k a_r i 1) fun r2=>
 ab (!(r2.2==0)) (
  ret ((Tm.mk 0 0 ByteArray.empty [] [] []),r2.2)) (
  aa k (yo k i r2.1) fun r3=>
  dx k (ae t) 0 r3.1 r3.2 fun r4=>
  ab (!(r4.2==0)) (
  ret ((Tm.mk 0 0 ByteArray.empty [] [] []),r4.2)) (
  aa k (yn k i) fun r5=>
  dt k (ae r4.1) 0 r5 fun r6=>
  ret ((ae r6.1),r6.2))))
noncomputable def pr {S:Type} (k:Nat) (t:Tm) (i:Int) (a_r:List Cl) (ret:Tm×Int→Option S):Option S:=KN k ret t i a_r
def BG {S:Type} (k:Nat) (ret:Tm×Int→Option S) (line:Tm) (a_r:List Cl) (c0:Int):Option S:=
 aa k (df k c0) fun r1=>
 ab (!r1) (
 ret ((Tm.mk 0 0 ByteArray.empty [] [] []),c0)) (
 aa k (uk k (ae line) 1 2) fun r2=>
 aa k (fH k r2.2 c0) fun r3=>
 aa k (df k r3) fun r4=>
 ab (!r4) (
  ret ((Tm.mk 0 0 ByteArray.empty [] [] []),r3)) (
  aa k (pr k (ae r2.1) 0 a_r) fun r5=>
  aa k (fH k r5.2 r3) fun r6=>
  ret ((ae r5.1),r6)))
noncomputable def g9 {S:Type} (k:Nat) (line:Tm) (a_r:List Cl) (c0:Int) (ret:Tm×Int→Option S):Option S:=BG k ret line a_r c0
noncomputable def Lm {S:Type} (k:Nat) (ret:Pan Int Tm→Option S) (c0 c1:Int) (c2:Tm):Option S:=
 dg k c1 0 (ae c2) 0 0 fun r2=>Pan.elim r2 (fun r2=>
 dg k 0 c0 (ae r2) 0 0 fun r5=>Pan.elim r5 (fun r5=>
  ret (.ok (ae r5))) (fun e6=>
  ret (.pan e6))) (fun e3=>
 ret (.pan e3))
noncomputable def uj {S:Type} (k:Nat) (c0 c1:Int) (c2:Tm) (ret:Pan Int Tm→Option S):Option S:=Lm k ret c0 c1 c2
def sN {S:Type} (k:Nat) (ret:Tm×Int→Option S) (c0 c1:Int) (c2:Tm) (numbers:List Int) (rec0:Int→Option S) (v19:Int):Option S:=
 ab (decide ((v19:Int)<(numbers.length:Int))) (
 Option.bind (al numbers v19) fun x2=>
 ab (decide ((x2:Int)<0)) (
  ret ((Tm.mk 0 0 ByteArray.empty [] [] []),2)) (
   rec0 (IntKind.wrap .i64 (v19+1)))) (
 aa k (uj k c0 c1 (ae c2)) fun r4=>Pan.elim r4 (fun r4=>
  ret ((ae r4),0)) (fun e5=>
  ret ((Tm.mk 0 0 ByteArray.empty [] [] []),e5)))
noncomputable def kQ {S:Type} (k:Nat) (ret:Tm×Int→Option S) (c0 c1:Int) (c2:Tm) (numbers:List Int):Nat→Int→Option S
 |0=>fun _=> .none
 |m+1=>fun v19=>sN k ret c0 c1 c2 numbers (kQ k ret c0 c1 c2 numbers m) v19
def Ca {S:Type} (k:Nat) (ret:Tm×Int→Option S) (J0:Int→Option S) (t:Tm) (numbers:List Int) (c0 c1:Int) (c2:Tm):Option S:=
 aa k (jj k (ae t)) fun r1=>
 ab (!(r1==0)) (
 ret ((Tm.mk 0 0 ByteArray.empty [] [] []),r1)) (
  J0 0)
noncomputable def yE {S:Type} (k:Nat) (t:Tm) (numbers:List Int) (c0 c1:Int) (c2:Tm) (ret:Tm×Int→Option S):Option S:=Ca k ret (fun v19=>kQ k ret c0 c1 c2 numbers k v19) t numbers c0 c1 c2
noncomputable def Ll {S:Type} (k:Nat) (ret:Tm×Int→Option S) (t:Tm) (vars dims:Int):Option S:=
 aa k (yE k (ae t) [vars,dims,IntKind.wrap .i64 (1000000-vars)] dims vars (ae t)) fun r1=>
 ret ((ae r1.1),r1.2)
noncomputable def ui {S:Type} (k:Nat) (t:Tm) (vars dims:Int) (ret:Tm×Int→Option S):Option S:=Ll k ret t vars dims
def BL {S:Type} (k:Nat) (ret:Tm×Int→Option S) (t:Tm) (vars dims c0:Int):Option S:=
 aa k (df k c0) fun r1=>
 ab (!r1) (
 ret ((Tm.mk 0 0 ByteArray.empty [] [] []),c0)) (
 aa k (ui k (ae t) vars dims) fun r2=>
 aa k (fH k r2.2 c0) fun r3=>
 ret ((ae r2.1),r3))
noncomputable def d_ {S:Type} (k:Nat) (t:Tm) (vars dims c0:Int) (ret:Tm×Int→Option S):Option S:=BL k ret t vars dims c0
noncomputable def lJ {S:Type} (k:Nat) (ret:Int×Int×ByteArray×List Tm→Option S) (kind:Int) (kids:List Tm):Option S:=
 ret (kind,0,ByteArray.empty,kids)
noncomputable def bX {S:Type} (k:Nat) (kind:Int) (kids:List Tm) (ret:Int×Int×ByteArray×List Tm→Option S):Option S:=lJ k ret kind kids
def BH {S:Type} (k:Nat) (ret:Tm×Int×Int→Option S) (t:Tm) (c0:Int):Option S:=
 aa k (df k c0) fun r1=>
 ab (r1) (
 aa k (jj k (ae t)) fun r2=>
 aa k (fH k r2 c0) fun r3=>
 aa k (df k r3) fun r4=>
 ab (!r4) (
  ret ((Tm.mk 0 0 ByteArray.empty [] [] []),r3,r3)) (
  ret ((ae t),0,r3))) (
 aa k (df k c0) fun r5=>
 ab (!r5) (
  ret ((Tm.mk 0 0 ByteArray.empty [] [] []),c0,c0)) (
  ret ((ae t),0,c0)))
noncomputable def fe {S:Type} (k:Nat) (t:Tm) (c0:Int) (ret:Tm×Int×Int→Option S):Option S:=BH k ret t c0
def KD {S:Type} (k:Nat) (ret:Tm×Int→Option S) (line:Tm) (phi:List Cl) (a:Tm) (a_end:Cl) (a_r:List Cl):Option S:=
 aa k (pn k [(ae line),(ae a)]) fun r1=>
 aa k (jc k phi) fun r2=>
 ab (!r2) (
 aa k (fH k 2 r1) fun r3=>
 aa k (g_ k phi r3) fun r4=>
 aa k (jb k r4.1 [a_end] r4.2) fun r5=>
 aa k (g9 k (ae line) a_r r5.2) fun r6=>
 aa k (d_ k (ae a) 0 1 r6.2) fun r7=>
 aa k (bX k 14 [(ae r6.1),(ae r7.1)]) fun r8=>
 aa k (fe k (Tm.mk r8.1 r8.2.1 r8.2.2.1 r5.1 r8.2.2.2 []) r7.2) fun r9=>
 ret ((ae r9.1),r9.2.1)) (
 aa k (g_ k phi r1) fun r10=>
 aa k (jb k r10.1 [a_end] r10.2) fun r11=>
 aa k (g9 k (ae line) a_r r11.2) fun r12=>
 aa k (d_ k (ae a) 0 1 r12.2) fun r13=>
 aa k (bX k 14 [(ae r12.1),(ae r13.1)]) fun r14=>
 aa k (fe k (Tm.mk r14.1 r14.2.1 r14.2.2.1 r11.1 r14.2.2.2 []) r13.2) fun r15=>
 ret ((ae r15.1),r15.2.1))
noncomputable def pm {S:Type} (k:Nat) (line:Tm) (phi:List Cl) (a:Tm) (a_end:Cl) (a_r:List Cl) (ret:Tm×Int→Option S):Option S:=KD k ret line phi a a_end a_r
noncomputable def KC {S:Type} (k:Nat) (ret:Tm×Int→Option S) (line:Tm) (phi:List Cl) (a:Tm):Option S:=
 aa k (pm k (ae line) phi (ae a) (Cl.mk 0 1) [(Cl.mk 3 0)]) fun r1=>
 ret ((ae r1.1),r1.2)
noncomputable def pk {S:Type} (k:Nat) (line:Tm) (phi:List Cl) (a:Tm) (ret:Tm×Int→Option S):Option S:=KC k ret line phi a
noncomputable def aaq {S:Type} (k:Nat) (ret:Int×Int×ByteArray×List Tm×List (Br Tm)→Option S) (sys:List (Br Tm)):Option S:=
 aa k (bX k 3 ([]:List Tm)) fun r1=>
 aa k (bX k 3 ([]:List Tm)) fun r2=>
 ret (15,0,ByteArray.empty,[(Tm.mk r1.1 r1.2.1 r1.2.2.1 [] r1.2.2.2 []),(Tm.mk r2.1 r2.2.1 r2.2.2.1 [] r2.2.2.2 [])],sys)
noncomputable def DA {S:Type} (k:Nat) (sys:List (Br Tm)) (ret:Int×Int×ByteArray×List Tm×List (Br Tm)→Option S):Option S:=aaq k ret sys
def Dh {S:Type} (k:Nat) (ret:Tm×Int→Option S) (a:Tm) (r5:Int×Int×ByteArray×List Tm) (sys:List (Br Tm)) (rec0:Int→(List (Br Tm))→Int→Option S) (b19000_0:Int) (b9_5:List (Br Tm)) (v29:Int):Option S:=
 ab (decide ((v29:Int)<(sys.length:Int))) (
 Option.bind (al sys v29) fun x6=>
 aa k (df k b19000_0) fun r7=>
 ab (!r7) (
  aa k (d_ k (ae a) 0 2 b19000_0) fun r8=>
  Option.bind (ax 1099511627776 b9_5.length [(Br.mk [(Cl.mk 0 1)] [(ae r8.1)])].length) fun x9=>
  aa k (fe k (Tm.mk r5.1 r5.2.1 r5.2.2.1 [] r5.2.2.2 (b9_5++[(Br.mk [(Cl.mk 0 1)] [(ae r8.1)])])) r8.2) fun r10=>
  ret ((ae r10.1),r10.2.1)) (
  aa k (g_ k x6.face b19000_0) fun r11=>
  Option.bind (al x6.kids 0) fun x12=>
  aa k (g9 k (ae x12) [(Cl.mk 3 0)] r11.2) fun r13=>
  Option.bind (ax 1099511627776 b9_5.length [(Br.mk r11.1 [(ae r13.1)])].length) fun x14=>
   rec0 r13.2 (b9_5++[(Br.mk r11.1 [(ae r13.1)])]) (IntKind.wrap .i64 (v29+1)))) (
 aa k (d_ k (ae a) 0 2 b19000_0) fun r15=>
 Option.bind (ax 1099511627776 b9_5.length [(Br.mk [(Cl.mk 0 1)] [(ae r15.1)])].length) fun x16=>
 aa k (fe k (Tm.mk r5.1 r5.2.1 r5.2.2.1 [] r5.2.2.2 (b9_5++[(Br.mk [(Cl.mk 0 1)] [(ae r15.1)])])) r15.2) fun r17=>
 ret ((ae r17.1),r17.2.1))
noncomputable def zC {S:Type} (k:Nat) (ret:Tm×Int→Option S) (a:Tm) (r5:Int×Int×ByteArray×List Tm) (sys:List (Br Tm)):Nat→Int→(List (Br Tm))→Int→Option S
 |0=>fun _ _ _=> .none
 |m+1=>fun b19000_0 b9_5 v29=>Dh k ret a r5 sys (zC k ret a r5 sys m) b19000_0 b9_5 v29
noncomputable def KB {S:Type} (k:Nat) (ret:Tm×Int→Option S) (J0:(Int×Int×ByteArray×List Tm)→Int→(List (Br Tm))→Int→Option S) (t a:Tm) (sys:List (Br Tm)):Option S:=
 aa k (DA k sys) fun r1=>
 aa k (pn k [(ae t),(ae a),(Tm.mk r1.1 r1.2.1 r1.2.2.1 [] r1.2.2.2.1 r1.2.2.2.2)]) fun r2=>
 aa k (d_ k (ae t) 0 1 r2) fun r3=>
 aa k (d_ k (ae a) 0 1 r3.2) fun r4=>
 aa k (bX k 15 [(ae r3.1),(ae r4.1)]) fun r5=>
 J0 r5 r4.2 ([]:List (Br Tm)) 0
noncomputable def Dy {S:Type} (k:Nat) (t a:Tm) (sys:List (Br Tm)) (ret:Tm×Int→Option S):Option S:=KB k ret (fun r5 b19000_0 b9_5 v29=>zC k ret a r5 sys k b19000_0 b9_5 v29) t a sys
def lP {S:Type} (k:Nat) (ret:Bool→Option S) (a b:List Cl) (rec0:Int→Option S) (i5:Int):Option S:=
 ab (decide ((i5:Int)<(a.length:Int))) (
 Option.bind (al a i5) fun x1=>
 Option.bind (al b i5) fun x2=>
 ab (!((x1.pos==x2.pos)&&((x1.neg==x2.neg)&&true))) (
  ret false) (
   rec0 (IntKind.wrap .i64 (i5+1)))) (
 ret true)
noncomputable def iq {S:Type} (k:Nat) (ret:Bool→Option S) (a b:List Cl):Nat→Int→Option S
 |0=>fun _=> .none
 |m+1=>fun i5=>lP k ret a b (iq k ret a b m) i5
def wH {S:Type} (k:Nat) (ret:Bool→Option S) (J0:Int→Option S) (a b:List Cl):Option S:=
 ab (!((a.length:Int)==(b.length:Int))) (
 ret false) (
  J0 0)
noncomputable def gy {S:Type} (k:Nat) (a b:List Cl) (ret:Bool→Option S):Option S:=wH k ret (fun i5=>iq k ret a b k i5) a b
noncomputable def aap {S:Type} (k:Nat) (ret:Int×Int×ByteArray→Option S) (a_n:Int):Option S:=
 ret (1,a_n,ByteArray.empty)
noncomputable def ku {S:Type} (k:Nat) (a_n:Int) (ret:Int×Int×ByteArray→Option S):Option S:=aap k ret a_n
noncomputable def aao {S:Type} (k:Nat) (ret:Int×Int×ByteArray×List Cl×List Tm→Option S) (a_r:List Cl):Option S:=
 aa k (ku k 0) fun r1=>
 aa k (bX k 10 [(Tm.mk r1.1 r1.2.1 r1.2.2 [] [] [])]) fun r2=>
 aa k (ku k 1) fun r3=>
 aa k (ku k 0) fun r4=>
 aa k (bX k 9 [(Tm.mk r4.1 r4.2.1 r4.2.2 [] [] [])]) fun r5=>
 ret (13,0,ByteArray.empty,a_r,[(Tm.mk r2.1 r2.2.1 r2.2.2.1 [] r2.2.2.2 []),(Tm.mk r3.1 r3.2.1 r3.2.2 [] [] []),(Tm.mk r5.1 r5.2.1 r5.2.2.1 [] r5.2.2.2 [])])
noncomputable def ym {S:Type} (k:Nat) (a_r:List Cl) (ret:Int×Int×ByteArray×List Cl×List Tm→Option S):Option S:=aao k ret a_r
noncomputable def aan {S:Type} (k:Nat) (ret:Int×Int×ByteArray×List Tm→Option S):Option S:=
 aa k (ku k 0) fun r1=>
 aa k (ku k 0) fun r2=>
 aa k (bX k 12 [(Tm.mk r2.1 r2.2.1 r2.2.2 [] [] [])]) fun r3=>
 aa k (bX k 8 [(Tm.mk r1.1 r1.2.1 r1.2.2 [] [] []),(Tm.mk r3.1 r3.2.1 r3.2.2.1 [] r3.2.2.2 [])]) fun r4=>
 aa k (ym k [(Cl.mk 1 0)]) fun r5=>
 aa k (ym k [(Cl.mk 3 0)]) fun r6=>
 aa k (bX k 12 [(Tm.mk r6.1 r6.2.1 r6.2.2.1 r6.2.2.2.1 r6.2.2.2.2 [])]) fun r7=>
 aa k (bX k 8 [(Tm.mk r5.1 r5.2.1 r5.2.2.1 r5.2.2.2.1 r5.2.2.2.2 []),(Tm.mk r7.1 r7.2.1 r7.2.2.1 [] r7.2.2.2 [])]) fun r8=>
 aa k (bX k 12 [(Tm.mk r8.1 r8.2.1 r8.2.2.1 [] r8.2.2.2 [])]) fun r9=>
 aa k (bX k 5 [(Tm.mk r9.1 r9.2.1 r9.2.2.1 [] r9.2.2.2 [])]) fun r10=>
 aa k (ku k 0) fun r11=>
 aa k (bX k 5 [(Tm.mk r11.1 r11.2.1 r11.2.2 [] [] [])]) fun r12=>
 aa k (bX k 8 [(Tm.mk r4.1 r4.2.1 r4.2.2.1 [] r4.2.2.2 []),(Tm.mk r10.1 r10.2.1 r10.2.2.1 [] r10.2.2.2 [])]) fun r13=>
 aa k (bX k 5 [(Tm.mk r13.1 r13.2.1 r13.2.2.1 [] r13.2.2.2 [])]) fun r14=>
 aa k (bX k 8 [(Tm.mk r12.1 r12.2.1 r12.2.2.1 [] r12.2.2.2 []),(Tm.mk r14.1 r14.2.1 r14.2.2.1 [] r14.2.2.2 [])]) fun r15=>
 ret (r15.1,r15.2.1,r15.2.2.1,r15.2.2.2)
noncomputable def Dz {S:Type} (k:Nat) (ret:Int×Int×ByteArray×List Tm→Option S):Option S:=aan k ret
def aat {S:Type} (k:Nat) (ret:Int→Option S) (t:Tm) (vars dims:Int):Option S:=
 ab (decide ((vars:Int)<0)) (
 ret 2) (
 ab (decide ((dims:Int)<0)) (
  ret 2) (
  ab (decide ((dims:Int)>24)) (
  ret 2) (
  aa k (p6 k (ae t)) fun r1=>
  ab (!(r1==0)) (
   ret r1) (
   eJ k (ae t) vars dims true fun r2=>
   ab (!r2) (
   ret 100) (
   ret 0)))))
noncomputable def DC {S:Type} (k:Nat) (t:Tm) (vars dims:Int) (ret:Int→Option S):Option S:=aat k ret t vars dims
def aar {S:Type} (k:Nat) (ret:Bool→Option S):Option S:=
 aa k (pk k (Tm.mk 3 0 ByteArray.empty [] [] []) ([]:List Cl) (Tm.mk 20 0 ByteArray.empty [] [] [])) fun r1=>
 aa k (Dy k (Tm.mk 19 0 ByteArray.empty [] [] []) (Tm.mk 20 0 ByteArray.empty [] [] []) ([]:List (Br Tm))) fun r2=>
 ab (r1.2==0) (
 ab (r1.1.kind==14) (
  aa k (gy k r1.1.r [(Cl.mk 0 1)]) fun r3=>
  ab (r3) (
  ab ((r1.1.kids.length:Int)==2) (
   Option.bind (al r1.1.kids 0) fun x4=>
   ab (x4.kind==3) (
   ab (r2.2==0) (
    ab (r2.1.kind==15) (
    ab ((r2.1.sys.length:Int)==1) (
     Option.bind (al r2.1.sys 0) fun x5=>
     aa k (gy k x5.face [(Cl.mk 0 1)]) fun r6=>
     ab (r6) (
     aa k (Dz k) fun r7=>
     aa k (DC k (Tm.mk r7.1 r7.2.1 r7.2.2.1 [] r7.2.2.2 []) 0 0) fun r8=>
     ret (r8==0)) (
     ret false)) (
     ret false)) (
    ret false)) (
    ret false)) (
   ret false)) (
   ret false)) (
  ret false)) (
  ret false)) (
 ret false)
noncomputable def l_ {S:Type} (k:Nat) (ret:Bool→Option S):Option S:=aar k ret
abbrev fC (S:Type):=Tm→(Int→Option S)→Option S
def tk {S:Type} (hd:fC S) (k:Nat) (ret:Int→Option S) (t:Tm) (i6:Int) (rec1:Int→Int→Option S) (rec2:Int→Int→Option S) (most3'' v7:Int):Option S:=
 Option.bind (al t.sys i6) fun x3=>
 ab (decide ((v7:Int)<(x3.kids.length:Int))) (
 Option.bind (al t.sys i6) fun x4=>
 Option.bind (al x4.kids v7) fun x5=>
 hd (ae x5) fun r6=>
 ab (decide ((r6:Int)>most3'')) (
   rec2 r6 (IntKind.wrap .i64 (v7+1))) (
   rec2 most3'' (IntKind.wrap .i64 (v7+1)))) (
  rec1 most3'' (IntKind.wrap .i64 (i6+1)))
noncomputable def it {S:Type} (hd:fC S) (k:Nat) (ret:Int→Option S) (rec1:Int→Int→Option S) (t:Tm) (i6:Int):Nat→Int→Int→Option S
 |0=>fun _ _=> .none
 |m+1=>fun most3'' v7=>tk hd k ret t i6 rec1 (it hd k ret rec1 t i6 m) most3'' v7
def oT {S:Type} (hd:fC S) (k:Nat) (ret:Int→Option S) (t:Tm) (J2:Int→Int→Int→Option S) (rec1:Int→Int→Option S) (most3' i6:Int):Option S:=
 ab (decide ((i6:Int)<(t.sys.length:Int))) (
  J2 i6 most3' 0) (
 ret (IntKind.wrap .i64 (most3'+1)))
noncomputable def fQ {S:Type} (hd:fC S) (k:Nat) (ret:Int→Option S) (t:Tm):Nat→Int→Int→Option S
 |0=>fun _ _=> .none
 |m+1=>fun most3' i6=>oT hd k ret t (fun i6 most3'' v7=>it hd k ret (fQ hd k ret t m) t i6 k most3'' v7) (fQ hd k ret t m) most3' i6
def oS {S:Type} (hd:fC S) (k:Nat) (ret:Int→Option S) (t:Tm) (J1:Int→Int→Option S) (rec0:Int→Int→Option S) (most3 i4:Int):Option S:=
 ab (decide ((i4:Int)<(t.kids.length:Int))) (
 Option.bind (al t.kids i4) fun x1=>
 hd (ae x1) fun r2=>
 ab (decide ((r2:Int)>most3)) (
   rec0 r2 (IntKind.wrap .i64 (i4+1))) (
   rec0 most3 (IntKind.wrap .i64 (i4+1)))) (
  J1 most3 0)
noncomputable def kZ {S:Type} (hd:fC S) (k:Nat) (ret:Int→Option S) (t:Tm):Nat→Int→Int→Option S
 |0=>fun _ _=> .none
 |m+1=>fun most3 i4=>oS hd k ret t (fun most3' i6=>fQ hd k ret t k most3' i6) (kZ hd k ret t m) most3 i4
noncomputable def CC {S:Type} (hd:fC S) (k:Nat) (ret:Int→Option S) (J0:Int→Int→Option S) (t:Tm):Option S:=
 J0 0 0
noncomputable def gz {S:Type}:Nat→Tm→(Int→Option S)→Option S
 |0=>fun _ _=> .none
 |k+1=>fun t ret=>CC (gz k) k ret (fun most3 i4=>kZ (gz k) k ret t k most3 i4) t
abbrev fE (S:Type):=Tm→(Int→Option S)→Option S
def tn {S:Type} (hd:fE S) (k:Nat) (ret:Int→Option S) (t:Tm) (i5:Int) (rec1:Int→Int→Option S) (rec2:Int→Int→Option S) (v3'' v6:Int):Option S:=
 Option.bind (al t.sys i5) fun x3=>
 ab (decide ((v6:Int)<(x3.kids.length:Int))) (
 Option.bind (al t.sys i5) fun x4=>
 Option.bind (al x4.kids v6) fun x5=>
 hd (ae x5) fun r6=>
  rec2 (IntKind.wrap .i64 (v3''+r6)) (IntKind.wrap .i64 (v6+1))) (
  rec1 v3'' (IntKind.wrap .i64 (i5+1)))
noncomputable def jL {S:Type} (hd:fE S) (k:Nat) (ret:Int→Option S) (rec1:Int→Int→Option S) (t:Tm) (i5:Int):Nat→Int→Int→Option S
 |0=>fun _ _=> .none
 |m+1=>fun v3'' v6=>tn hd k ret t i5 rec1 (jL hd k ret rec1 t i5 m) v3'' v6
def oV {S:Type} (hd:fE S) (k:Nat) (ret:Int→Option S) (t:Tm) (J2:Int→Int→Int→Option S) (rec1:Int→Int→Option S) (v3' i5:Int):Option S:=
 ab (decide ((i5:Int)<(t.sys.length:Int))) (
  J2 i5 v3' 0) (
 ret v3')
noncomputable def fR {S:Type} (hd:fE S) (k:Nat) (ret:Int→Option S) (t:Tm):Nat→Int→Int→Option S
 |0=>fun _ _=> .none
 |m+1=>fun v3' i5=>oV hd k ret t (fun i5 v3'' v6=>jL hd k ret (fR hd k ret t m) t i5 k v3'' v6) (fR hd k ret t m) v3' i5
def oU {S:Type} (hd:fE S) (k:Nat) (ret:Int→Option S) (t:Tm) (J1:Int→Int→Option S) (rec0:Int→Int→Option S) (v3 i4:Int):Option S:=
 ab (decide ((i4:Int)<(t.kids.length:Int))) (
 Option.bind (al t.kids i4) fun x1=>
 hd (ae x1) fun r2=>
  rec0 (IntKind.wrap .i64 (v3+r2)) (IntKind.wrap .i64 (i4+1))) (
  J1 v3 0)
noncomputable def nf {S:Type} (hd:fE S) (k:Nat) (ret:Int→Option S) (t:Tm):Nat→Int→Int→Option S
 |0=>fun _ _=> .none
 |m+1=>fun v3 i4=>oU hd k ret t (fun v3' i5=>fR hd k ret t k v3' i5) (nf hd k ret t m) v3 i4
noncomputable def CE {S:Type} (hd:fE S) (k:Nat) (ret:Int→Option S) (J0:Int→Int→Option S) (t:Tm):Option S:=
 J0 1 0
noncomputable def gA {S:Type}:Nat→Tm→(Int→Option S)→Option S
 |0=>fun _ _=> .none
 |k+1=>fun t ret=>CE (gA k) k ret (fun v3 i4=>nf (gA k) k ret t k v3 i4) t
def LR {S:Type} (k:Nat) (ret:Int→Option S) (t:Tm):Option S:=
 gz k (ae t) fun r1=>
 ab (decide ((r1:Int)>200)) (
 ret 62) (
 gA k (ae t) fun r2=>
 ab (decide ((r2:Int)>20000)) (
  ret 221) (
  ret 0))
noncomputable def uz {S:Type} (k:Nat) (t:Tm) (ret:Int→Option S):Option S:=LR k ret t
def LN {S:Type} (k:Nat) (ret:Int→Option S) (kind:Int):Option S:=
 ab (decide ((kind:Int)<0)) (
 ret (-1)) (
 ab (decide ((kind:Int)>28)) (
  ret (-1)) (
  Option.bind (bA (0≤kind∧kind<(29:Int))) fun x1=>
  Option.bind (al [(-1),0,0,0,2,1,2,2,2,1,1,3,1,3,2,2,1,1,1,0,0,0,4,1,0,0,1,5,2] kind) fun x2=>
  ret x2))
noncomputable def pN {S:Type} (k:Nat) (kind:Int) (ret:Int→Option S):Option S:=LN k ret kind
def LP {S:Type} (k:Nat) (ret:Int→Option S) (kind:Int):Option S:=
 ab (kind==16) (
 ret 2) (
 ab (kind==15) (
  ret 1) (
  ab (kind==17) (
  ret 1) (
  ab (kind==18) (
   ret 1) (
   ret 0))))
noncomputable def ml {S:Type} (k:Nat) (kind:Int) (ret:Int→Option S):Option S:=LP k ret kind
def xZ {S:Type} (k:Nat) (ret:Bool→Option S) (s:ByteArray) (i3:Int) (x1:UInt8) (rec0:Int→Option S):Option S:=
 ab (!((x1.toNat:Int)==95)) (
 ab (decide (((x1.toNat:Int):Int)<97)) (
  ab (decide (((x1.toNat:Int):Int)<65)) (
  ret false) (
  ab (decide (((x1.toNat:Int):Int)>90)) (
   ret false) (
     rec0 (IntKind.wrap .i64 (i3+1))))) (
  ab (decide (((x1.toNat:Int):Int)>122)) (
  ab (decide (((x1.toNat:Int):Int)<65)) (
   ret false) (
   ab (decide (((x1.toNat:Int):Int)>90)) (
   ret false) (
      rec0 (IntKind.wrap .i64 (i3+1))))) (
    rec0 (IntKind.wrap .i64 (i3+1))))) (
  rec0 (IntKind.wrap .i64 (i3+1)))
noncomputable def vh {S:Type} (k:Nat) (ret:Bool→Option S) (rec0:Int→Option S) (s:ByteArray) (i3:Int) (x1:UInt8):Nat→Option S
 |0=> .none
 |_+1=>xZ k ret s i3 x1 rec0
def oW {S:Type} (k:Nat) (ret:Bool→Option S) (s:ByteArray) (J1:Int→UInt8→Option S) (rec0:Int→Option S) (i3:Int):Option S:=
 ab (decide ((i3:Int)<(s.size:Int))) (
 Option.bind (al s.data.toList i3) fun x1=>
 ab (decide (((x1.toNat:Int):Int)≥48)) (
  ab (decide (((x1.toNat:Int):Int)≤57)) (
  ab (decide ((i3:Int)>0)) (
     rec0 (IntKind.wrap .i64 (i3+1))) (
     J1 i3 x1)) (
    J1 i3 x1)) (
   J1 i3 x1)) (
 ret (decide (((s.size:Int):Int)>0)))
noncomputable def la {S:Type} (k:Nat) (ret:Bool→Option S) (s:ByteArray):Nat→Int→Option S
 |0=>fun _=> .none
 |m+1=>fun i3=>oW k ret s (fun i3 x1=>vh k ret (la k ret s m) s i3 x1 k) (la k ret s m) i3
noncomputable def CG {S:Type} (k:Nat) (ret:Bool→Option S) (J0:Int→Option S) (s:ByteArray):Option S:=
 J0 0
noncomputable def uy {S:Type} (k:Nat) (s:ByteArray) (ret:Bool→Option S):Option S:=CG k ret (fun i3=>la k ret s k i3) s
def sV {S:Type} (k:Nat) (ret:Int→Option S) (a_n:Int) (rec0:Int→Int→Option S) (p3 i4:Int):Option S:=
 ab (decide ((i4:Int)<a_n)) (
  rec0 (IntKind.wrap .i64 (p3*2)) (IntKind.wrap .i64 (i4+1))) (
 ret p3)
noncomputable def mV {S:Type} (k:Nat) (ret:Int→Option S) (a_n:Int):Nat→Int→Int→Option S
 |0=>fun _ _=> .none
 |m+1=>fun p3 i4=>sV k ret a_n (mV k ret a_n m) p3 i4
noncomputable def Ci {S:Type} (k:Nat) (ret:Int→Option S) (J0:Int→Int→Option S) (a_n:Int):Option S:=
 J0 1 0
noncomputable def mf {S:Type} (k:Nat) (a_n:Int) (ret:Int→Option S):Option S:=Ci k ret (fun p3 i4=>mV k ret a_n k p3 i4) a_n
noncomputable def Ly {S:Type} (k:Nat) (ret:Bool→Option S) (s:Int):Option S:=
 aa k (mf k 24) fun r1=>
 ret (decide ((IntKind.wrap .i64 s:Int)<r1))
noncomputable def me {S:Type} (k:Nat) (s:Int) (ret:Bool→Option S):Option S:=Ly k ret s
def LF {S:Type} (k:Nat) (ret:Bool→Option S) (c:Cl):Option S:=
 aa k (me k c.pos) fun r1=>
 ab (r1) (
 aa k (me k c.neg) fun r2=>
 ret r2) (
 ret false)
noncomputable def pJ {S:Type} (k:Nat) (c:Cl) (ret:Bool→Option S):Option S:=LF k ret c
def LA {S:Type} (k:Nat) (ret:Bool→Option S) (a b:Cl):Option S:=
 ab ((aS .or .u32 a.pos b.pos)==a.pos) (
 ret ((aS .or .u32 a.neg b.neg)==a.neg)) (
 ret false)
noncomputable def um {S:Type} (k:Nat) (a b:Cl) (ret:Bool→Option S):Option S:=LA k ret a b
def sY {S:Type} (k:Nat) (ret:Bool→Option S) (c:Cl) (l:List Cl) (rec0:Int→Option S) (i5:Int):Option S:=
 ab (decide ((i5:Int)<(l.length:Int))) (
 Option.bind (al l i5) fun x1=>
 ab (!((x1.pos==c.pos)&&((x1.neg==c.neg)&&true))) (
  Option.bind (al l i5) fun x2=>
  aa k (um k c x2) fun r3=>
  ab (r3) (
  ret false) (
    rec0 (IntKind.wrap .i64 (i5+1)))) (
   rec0 (IntKind.wrap .i64 (i5+1)))) (
 ret true)
noncomputable def mY {S:Type} (k:Nat) (ret:Bool→Option S) (c:Cl) (l:List Cl):Nat→Int→Option S
 |0=>fun _=> .none
 |m+1=>fun i5=>sY k ret c l (mY k ret c l m) i5
noncomputable def Cm {S:Type} (k:Nat) (ret:Bool→Option S) (J0:Int→Option S) (l:List Cl) (c:Cl):Option S:=
 J0 0
noncomputable def uq {S:Type} (k:Nat) (l:List Cl) (c:Cl) (ret:Bool→Option S):Option S:=Cm k ret (fun i5=>mY k ret c l k i5) l c
def LB {S:Type} (k:Nat) (ret:Bool→Option S) (a b:Cl):Option S:=
 ab (decide ((a.pos:Int)<b.pos)) (
 ret true) (
 ab (a.pos==b.pos) (
  ret (decide ((a.neg:Int)<b.neg))) (
  ret false))
noncomputable def uo {S:Type} (k:Nat) (a b:Cl) (ret:Bool→Option S):Option S:=LB k ret a b
def sX {S:Type} (k:Nat) (ret:List Cl×Int→Option S) (l out5:List Cl) (i6:Int) (rec1:(List Cl)→Int→Option S) (rec2:Int→Option S) (v7:Int):Option S:=
 ab (decide ((v7:Int)<(out5.length:Int))) (
 Option.bind (al out5 v7) fun x5=>
 Option.bind (al out5 v7) fun x6=>
 Option.bind (al l i6) fun x7=>
 aa k (uo k x6 x7) fun r8=>
 ab (r8) (
   rec2 (IntKind.wrap .i64 (v7+1))) (
  ab (v7==(out5.length:Int)) (
  Option.bind (bA (0≤v7∧v7≤(out5.length:Int))) fun x9=>
  Option.bind (ax 1099511627776 ([]:List Cl).length (List.take (Int.toNat v7) out5).length) fun x10=>
  Option.bind (al l i6) fun x11=>
  Option.bind (ax 1099511627776 (([]:List Cl)++(List.take (Int.toNat v7) out5)).length [x11].length) fun x12=>
  Option.bind (bA (0≤v7∧v7≤(out5.length:Int))) fun x13=>
  Option.bind (ax 1099511627776 ((([]:List Cl)++(List.take (Int.toNat v7) out5))++[x11]).length (List.drop (Int.toNat v7) out5).length) fun x14=>
    rec1 (((([]:List Cl)++(List.take (Int.toNat v7) out5))++[x11])++(List.drop (Int.toNat v7) out5)) (IntKind.wrap .i64 (i6+1))) (
  Option.bind (al out5 v7) fun x15=>
  Option.bind (al out5 v7) fun x16=>
  Option.bind (al l i6) fun x17=>
  ab (!((x16.pos==x17.pos)&&((x16.neg==x17.neg)&&true))) (
   Option.bind (bA (0≤v7∧v7≤(out5.length:Int))) fun x18=>
   Option.bind (ax 1099511627776 ([]:List Cl).length (List.take (Int.toNat v7) out5).length) fun x19=>
   Option.bind (al l i6) fun x20=>
   Option.bind (ax 1099511627776 (([]:List Cl)++(List.take (Int.toNat v7) out5)).length [x20].length) fun x21=>
   Option.bind (bA (0≤v7∧v7≤(out5.length:Int))) fun x22=>
   Option.bind (ax 1099511627776 ((([]:List Cl)++(List.take (Int.toNat v7) out5))++[x20]).length (List.drop (Int.toNat v7) out5).length) fun x23=>
     rec1 (((([]:List Cl)++(List.take (Int.toNat v7) out5))++[x20])++(List.drop (Int.toNat v7) out5)) (IntKind.wrap .i64 (i6+1))) (
     rec1 out5 (IntKind.wrap .i64 (i6+1)))))) (
 ab (v7==(out5.length:Int)) (
  Option.bind (bA (0≤v7∧v7≤(out5.length:Int))) fun x24=>
  Option.bind (ax 1099511627776 ([]:List Cl).length (List.take (Int.toNat v7) out5).length) fun x25=>
  Option.bind (al l i6) fun x26=>
  Option.bind (ax 1099511627776 (([]:List Cl)++(List.take (Int.toNat v7) out5)).length [x26].length) fun x27=>
  Option.bind (bA (0≤v7∧v7≤(out5.length:Int))) fun x28=>
  Option.bind (ax 1099511627776 ((([]:List Cl)++(List.take (Int.toNat v7) out5))++[x26]).length (List.drop (Int.toNat v7) out5).length) fun x29=>
   rec1 (((([]:List Cl)++(List.take (Int.toNat v7) out5))++[x26])++(List.drop (Int.toNat v7) out5)) (IntKind.wrap .i64 (i6+1))) (
  Option.bind (al out5 v7) fun x30=>
  Option.bind (al out5 v7) fun x31=>
  Option.bind (al l i6) fun x32=>
  ab (!((x31.pos==x32.pos)&&((x31.neg==x32.neg)&&true))) (
  Option.bind (bA (0≤v7∧v7≤(out5.length:Int))) fun x33=>
  Option.bind (ax 1099511627776 ([]:List Cl).length (List.take (Int.toNat v7) out5).length) fun x34=>
  Option.bind (al l i6) fun x35=>
  Option.bind (ax 1099511627776 (([]:List Cl)++(List.take (Int.toNat v7) out5)).length [x35].length) fun x36=>
  Option.bind (bA (0≤v7∧v7≤(out5.length:Int))) fun x37=>
  Option.bind (ax 1099511627776 ((([]:List Cl)++(List.take (Int.toNat v7) out5))++[x35]).length (List.drop (Int.toNat v7) out5).length) fun x38=>
    rec1 (((([]:List Cl)++(List.take (Int.toNat v7) out5))++[x35])++(List.drop (Int.toNat v7) out5)) (IntKind.wrap .i64 (i6+1))) (
    rec1 out5 (IntKind.wrap .i64 (i6+1)))))
noncomputable def kT {S:Type} (k:Nat) (ret:List Cl×Int→Option S) (rec1:(List Cl)→Int→Option S) (l out5:List Cl) (i6:Int):Nat→Int→Option S
 |0=>fun _=> .none
 |m+1=>fun v7=>sX k ret l out5 i6 rec1 (kT k ret rec1 l out5 i6 m) v7
def oF {S:Type} (k:Nat) (ret:List Cl×Int→Option S) (l:List Cl) (J2:(List Cl)→Int→Int→Option S) (rec1:(List Cl)→Int→Option S) (out5:List Cl) (i6:Int):Option S:=
 ab (decide ((i6:Int)<(l.length:Int))) (
 Option.bind (al l i6) fun x3=>
 aa k (uq k l x3) fun r4=>
 ab (!r4) (
   rec1 out5 (IntKind.wrap .i64 (i6+1))) (
   J2 out5 i6 0)) (
 ab (decide (((out5.length:Int):Int)>64)) (
  ret (([]:List Cl),3)) (
  ret (out5,0)))
noncomputable def io {S:Type} (k:Nat) (ret:List Cl×Int→Option S) (l:List Cl):Nat→(List Cl)→Int→Option S
 |0=>fun _ _=> .none
 |m+1=>fun out5 i6=>oF k ret l (fun out5 i6 v7=>kT k ret (io k ret l m) l out5 i6 k v7) (io k ret l m) out5 i6
def oE {S:Type} (k:Nat) (ret:List Cl×Int→Option S) (l:List Cl) (J1:(List Cl)→Int→Option S) (rec0:Int→Option S) (i4:Int):Option S:=
 ab (decide ((i4:Int)<(l.length:Int))) (
 Option.bind (al l i4) fun x1=>
 aa k (pJ k x1) fun r2=>
 ab (!r2) (
  ret (([]:List Cl),2)) (
   rec0 (IntKind.wrap .i64 (i4+1)))) (
  J1 ([]:List Cl) 0)
noncomputable def mX {S:Type} (k:Nat) (ret:List Cl×Int→Option S) (l:List Cl):Nat→Int→Option S
 |0=>fun _=> .none
 |m+1=>fun i4=>oE k ret l (fun out5 i6=>io k ret l k out5 i6) (mX k ret l m) i4
noncomputable def Ck {S:Type} (k:Nat) (ret:List Cl×Int→Option S) (J0:Int→Option S) (l:List Cl):Option S:=
 J0 0
noncomputable def gx {S:Type} (k:Nat) (l:List Cl) (ret:List Cl×Int→Option S):Option S:=Ck k ret (fun i4=>mX k ret l k i4) l
def LH {S:Type} (k:Nat) (ret:Bool→Option S) (f:List Cl):Option S:=
 aa k (gx k f) fun r1=>
 ab (r1.2==0) (
 aa k (gy k r1.1 f) fun r2=>
 ret r2) (
 ret false)
noncomputable def dF {S:Type} (k:Nat) (f:List Cl) (ret:Bool→Option S):Option S:=LH k ret f
def Lx {S:Type} (k:Nat) (ret:Bool→Option S) (s i:Int):Option S:=
 ab (decide ((i:Int)≥0)) (
 ab (decide ((i:Int)<24)) (
  aa k (mf k i) fun r1=>
  Option.bind (bA (r1≠0)) fun x2=>
  ret ((Int.tmod (IntKind.wrap .i64 (Int.tdiv (IntKind.wrap .i64 s) r1)) 2)==1)) (
  ret false)) (
 ret false)
noncomputable def du {S:Type} (k:Nat) (s i:Int) (ret:Bool→Option S):Option S:=Lx k ret s i
def sS {S:Type} (k:Nat) (ret:Int→Option S) (l:List Int) (rec0:Int→Int→Option S) (v3 i4:Int):Option S:=
 ab (decide ((i4:Int)<(l.length:Int))) (
 Option.bind (al l i4) fun x1=>
 aa k (mf k x1) fun r2=>
  rec0 (IntKind.wrap .i64 (v3+r2)) (IntKind.wrap .i64 (i4+1))) (
 ret (IntKind.wrap .u32 v3))
noncomputable def mT {S:Type} (k:Nat) (ret:Int→Option S) (l:List Int):Nat→Int→Int→Option S
 |0=>fun _ _=> .none
 |m+1=>fun v3 i4=>sS k ret l (mT k ret l m) v3 i4
noncomputable def Cg {S:Type} (k:Nat) (ret:Int→Option S) (J0:Int→Int→Option S) (l:List Int):Option S:=
 J0 0 0
noncomputable def gw {S:Type} (k:Nat) (l:List Int) (ret:Int→Option S):Option S:=Cg k ret (fun v3 i4=>mT k ret l k v3 i4) l
def s8 {S:Type} (k:Nat) (ret:Int→Option S) (f:List Cl) (l3:List Int) (i4:Int) (rec0:(List Int)→Int→Option S) (rec1:Bool→Int→Option S) (v5:Bool) (v6:Int):Option S:=
 ab (decide ((v6:Int)<(f.length:Int))) (
 ab (v5) (
   rec1 true (IntKind.wrap .i64 (v6+1))) (
  Option.bind (al f v6) fun x1=>
  aa k (du k x1.pos i4) fun r2=>
  ab (r2) (
    rec1 true (IntKind.wrap .i64 (v6+1))) (
  Option.bind (al f v6) fun x3=>
  aa k (du k x3.neg i4) fun r4=>
    rec1 r4 (IntKind.wrap .i64 (v6+1))))) (
 ab (v5) (
  Option.bind (ax 1099511627776 l3.length [i4].length) fun x5=>
   rec0 (l3++[i4]) (IntKind.wrap .i64 (i4+1))) (
   rec0 l3 (IntKind.wrap .i64 (i4+1))))
noncomputable def kU {S:Type} (k:Nat) (ret:Int→Option S) (rec0:(List Int)→Int→Option S) (f:List Cl) (l3:List Int) (i4:Int):Nat→Bool→Int→Option S
 |0=>fun _ _=> .none
 |m+1=>fun v5 v6=>s8 k ret f l3 i4 rec0 (kU k ret rec0 f l3 i4 m) v5 v6
def oG {S:Type} (k:Nat) (ret:Int→Option S) (f:List Cl) (J1:(List Int)→Int→Bool→Int→Option S) (rec0:(List Int)→Int→Option S) (l3:List Int) (i4:Int):Option S:=
 ab (decide ((i4:Int)<24)) (
  J1 l3 i4 false 0) (
 aa k (gw k l3) fun r6=>
 ret r6)
noncomputable def jG {S:Type} (k:Nat) (ret:Int→Option S) (f:List Cl):Nat→(List Int)→Int→Option S
 |0=>fun _ _=> .none
 |m+1=>fun l3 i4=>oG k ret f (fun l3 i4 v5 v6=>kU k ret (jG k ret f m) f l3 i4 k v5 v6) (jG k ret f m) l3 i4
noncomputable def Co {S:Type} (k:Nat) (ret:Int→Option S) (J0:(List Int)→Int→Option S) (f:List Cl):Option S:=
 J0 ([]:List Int) 0
noncomputable def pL {S:Type} (k:Nat) (f:List Cl) (ret:Int→Option S):Option S:=Co k ret (fun l3 i4=>jG k ret f k l3 i4) f
def sR {S:Type} (k:Nat) (ret:List Int→Option S) (s:Int) (rec0:(List Int)→Int→Option S) (out3:List Int) (i4:Int):Option S:=
 ab (decide ((i4:Int)<24)) (
 aa k (du k s i4) fun r1=>
 ab (r1) (
  Option.bind (ax 1099511627776 out3.length [i4].length) fun x2=>
   rec0 (out3++[i4]) (IntKind.wrap .i64 (i4+1))) (
   rec0 out3 (IntKind.wrap .i64 (i4+1)))) (
 ret out3)
noncomputable def mS {S:Type} (k:Nat) (ret:List Int→Option S) (s:Int):Nat→(List Int)→Int→Option S
 |0=>fun _ _=> .none
 |m+1=>fun out3 i4=>sR k ret s (mS k ret s m) out3 i4
noncomputable def Cf {S:Type} (k:Nat) (ret:List Int→Option S) (J0:(List Int)→Int→Option S) (s:Int):Option S:=
 J0 ([]:List Int) 0
noncomputable def gu {S:Type} (k:Nat) (s:Int) (ret:List Int→Option S):Option S:=Cf k ret (fun out3 i4=>mS k ret s k out3 i4) s
def LQ {S:Type} (k:Nat) (ret:Bool→Option S) (f:List Cl) (dims:Int):Option S:=
 aa k (pL k f) fun r1=>
 aa k (gu k r1) fun r2=>
 ab ((r2.length:Int)==0) (
 ret true) (
 Option.bind (al r2 (IntKind.wrap .i64 ((r2.length:Int)-1))) fun x3=>
 Option.bind (al r2 (IntKind.wrap .i64 ((r2.length:Int)-1))) fun x4=>
 ret (decide ((x4:Int)<dims)))
noncomputable def pP {S:Type} (k:Nat) (f:List Cl) (dims:Int) (ret:Bool→Option S):Option S:=LQ k ret f dims
def xY {S:Type} (k:Nat) (ret:Int×Int→Option S) (kind kid:Int):Option S:=
 ab (kid==0) (
 ab (kind==11) (
  ret (0,1)) (
  ab (kind==12) (
  ret (0,1)) (
  ab (kind==14) (
   ret (0,1)) (
   ret (0,0))))) (
 ret (0,0))
noncomputable def vg {S:Type} (k:Nat) (ret:Int×Int→Option S) (kind kid:Int):Nat→Option S
 |0=> .none
 |_+1=>xY k ret kind kid
def ti {S:Type} (k:Nat) (ret:Int×Int→Option S) (kind kid:Int) (J1:Option S):Option S:=
 ab (kid==0) (
 ab (kind==5) (
  ret (1,0)) (
  ab (kind==22) (
  ret (1,0)) (
  ab (kind==27) (
   ret (1,0)) (
     J1)))) (
  J1)
noncomputable def zD {S:Type} (k:Nat) (ret:Int×Int→Option S) (kind kid:Int):Nat→Option S
 |0=> .none
 |_+1=>ti k ret kind kid (vg k ret kind kid k)
def CA {S:Type} (k:Nat) (ret:Int×Int→Option S) (J0:Option S) (kind kid:Int):Option S:=
 ab (kid==1) (
 ab (kind==4) (
  ret (1,0)) (
  ab (kind==7) (
  ret (1,0)) (
    J0))) (
  J0)
noncomputable def mh {S:Type} (k:Nat) (kind kid:Int) (ret:Int×Int→Option S):Option S:=CA k ret (zD k ret kind kid k) kind kid
def sW {S:Type} (k:Nat) (ret:Bool→Option S) (c:Cl) (rec0:Int→Option S) (i3:Int):Option S:=
 ab (decide ((i3:Int)<24)) (
 aa k (du k c.pos i3) fun r1=>
 ab (r1) (
  aa k (du k c.neg i3) fun r2=>
  ab (r2) (
  ret true) (
    rec0 (IntKind.wrap .i64 (i3+1)))) (
   rec0 (IntKind.wrap .i64 (i3+1)))) (
 ret false)
noncomputable def mW {S:Type} (k:Nat) (ret:Bool→Option S) (c:Cl):Nat→Int→Option S
 |0=>fun _=> .none
 |m+1=>fun i3=>sW k ret c (mW k ret c m) i3
noncomputable def Cj {S:Type} (k:Nat) (ret:Bool→Option S) (J0:Int→Option S) (c:Cl):Option S:=
 J0 0
noncomputable def pH {S:Type} (k:Nat) (c:Cl) (ret:Bool→Option S):Option S:=Cj k ret (fun i3=>mW k ret c k i3) c
def tf {S:Type} (k:Nat) (ret:Bool→Option S) (f:List Cl) (rec0:Int→Option S) (i3:Int):Option S:=
 ab (decide ((i3:Int)<(f.length:Int))) (
 Option.bind (al f i3) fun x2=>
 aa k (pH k x2) fun r3=>
 ab (r3) (
  ret false) (
   rec0 (IntKind.wrap .i64 (i3+1)))) (
 ret true)
noncomputable def m9 {S:Type} (k:Nat) (ret:Bool→Option S) (f:List Cl):Nat→Int→Option S
 |0=>fun _=> .none
 |m+1=>fun i3=>tf k ret f (m9 k ret f m) i3
def Cx {S:Type} (k:Nat) (ret:Bool→Option S) (J0:Int→Option S) (f:List Cl):Option S:=
 aa k (dF k f) fun r1=>
 ab (!r1) (
 ret false) (
  J0 0)
noncomputable def fh {S:Type} (k:Nat) (f:List Cl) (ret:Bool→Option S):Option S:=Cx k ret (fun i3=>m9 k ret f k i3) f
def LO {S:Type} (k:Nat) (ret:Int→Option S) (kind:Int):Option S:=
 ab (kind==15) (
 ret 1) (
 ret 0)
noncomputable def mj {S:Type} (k:Nat) (kind:Int) (ret:Int→Option S):Option S:=LO k ret kind
abbrev dp (S:Type):=Tm→Int→Int→Bool→(Bool→Option S)→Option S
end
end Go.Proofs.YtapmagaejigpnaaGreatDoor
