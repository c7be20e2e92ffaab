/- Part 2 of a proof: the sources, with their names and remarks, lie in wip/. -/
import Derived.Test.YtgajalidbabccaaGreatDoorX1
import Derived.LoopN
import Derived.Scope
import Derived.Recover
import Derived.Orders
import Derived.Test.YtgajalidbabccaaGreatDoorProg
import Derived.KernelRfl
namespace Go.Proofs.YtgajalidbabccaaGreatDoor.PI
open Go
set_option linter.unusedVariables false
set_option linter.unusedSimpArgs false
section
variable {U:Uni} {V:Env U} {P:Program} {X:Link V P} {K:cz U} {S:Side U} {c:Ctx} {ops:Array Oper} {σ0 σ1:St U}
theorem tJ {o:Oper} {y:Tmp×Nat} (h:tI V S σ0 σ1 o=some y): ∃t z,o.op= .alloc t∧o.dst=some y.1∧o.guard=none∧V.zero t=some z∧y.2=S.boxId y.1∧σ0.b y.2=none∧σ1.b y.2=none∧ ∀e∈o.after.toList,Region.binds .any e=false:=by
 unfold tI at h
 split at h
 case h_2=>cases h
 rename_i t d h1 h2 h3
 cases hb:((V.zero t).isSome&&((σ0.b (S.boxId d)).isNone&&((σ1.b (S.boxId d)).isNone&&(o.after.toList.all fun e=> !Region.binds .any e)))) with
 |false=>rw [hb] at h;cases h
 |true=>
 rw [hb] at h
 injection h with h
 subst h
 simp only [Bool.and_eq_true,Option.isNone_iff_eq_none] at hb
 obtain ⟨a,b,c,d'⟩:=hb
 obtain ⟨z,hz⟩:=Option.isSome_iff_exists.1 a
 exact ⟨t,z,h1,h2,h3,hz,rfl,b,c,fun e he=>by have:=List.all_eq_true.1 d' e he;simpa using this⟩
theorem abE {bf:List Nat} {j:Nat}: ∀ (l:List Oper) (i:Nat) (fps:List (List Loc)) (ll:List (Nat×List Loc)),ops.toList.drop i=l→qy V S σ0 σ1 bf j i l fps=some ll→
  (∀x∈ll,i≤x.1∧x.1<ops.size∧ ∃o y,ops[x.1]? =some o∧tI V S σ0 σ1 o=some y∧x.2=jZ y)∧(ll.map (·.1)).Pairwise (· < ·)∧(∀x∈ll,∀f∈fps,dG f x.2=true)∧ll.Pairwise (fun x y=>dG x.2 y.2=true)∧
  ∀k,i≤k→k<ops.size→k∉ll.map (·.1)→(bf.getD k 0).testBit j=true:=by
 intro l
 induction l with
 |nil=>
  intro i fps ll hd h
  simp only [qy] at h
  injection h with h
  subst h
  refine ⟨by simp,by simp,by simp,by simp,fun k hk hk2 _=> ?_⟩
  exfalso
  have:=congrArg List.length hd
  simp at this;omega
 |cons o l ih=>
  intro i fps ll hd h
  have hi:ops[i]? =some o:=by
   have:=congrArg (·[0]?) hd
   simpa using this
  have his:i<ops.size:=(Array.getElem?_eq_some_iff.1 hi).1
  have hd':ops.toList.drop (i+1)=l:=by rw [←List.drop_drop,hd];rfl
  simp only [qy] at h
  cases hb:(bf.getD i 0).testBit j with
  |true=>
   rw [hb] at h
   obtain ⟨a,b,c,d,e⟩:=ih (i+1) fps ll hd' h
   refine ⟨fun x hx=>by obtain ⟨p,q⟩:=a x hx;exact ⟨by omega,q⟩,b,c,d,fun k hk hk2 hkn=> ?_⟩
   by_cases hki:k=i
   ·rw [hki];exact hb
   ·exact e k (by omega) hk2 hkn
  |false=>
   rw [hb] at h
   simp only [cond_false] at h
   split at h
   case h_2=>cases h
   rename_i y hy
   cases hap:fps.all (fun f=>dG f (jZ y)) with
   |false=>rw [hap] at h;cases h
   |true=>
   rw [hap] at h
   simp only [cond_true] at h
   split at h
   case h_2=>cases h
   rename_i l' hl'
   injection h with h
   subst h
   obtain ⟨a,b,c,d,e⟩:=ih (i+1) (jZ y::fps) l' hd' hl'
   refine ⟨fun x hx=> ?_, ?_,fun x hx f hf=> ?_, ?_,fun k hk hk2 hkn=> ?_⟩
   ·rcases List.mem_cons.1 hx with rfl|hx
    ·exact ⟨Nat.le_refl _,his,o,y,hi,hy,rfl⟩
    ·obtain ⟨p,q⟩:=a x hx;exact ⟨by omega,q⟩
   ·simp only [List.map_cons,List.pairwise_cons]
    refine ⟨fun k hk=> ?_,b⟩
    obtain ⟨x,hx,rfl⟩:=List.mem_map.1 hk
    have:=(a x hx).1
    omega
   ·rcases List.mem_cons.1 hx with rfl|hx
    ·exact List.all_eq_true.1 hap f hf
    ·exact c x hx f (by simp [hf])
   ·simp only [List.pairwise_cons]
    exact ⟨fun x hx=>c x hx _ (by simp),d⟩
   ·simp only [List.map_cons,List.mem_cons,not_or] at hkn
    exact e k (by omega) hk2 hkn.2
theorem abD: ∀ (ll:List (Nat×List Loc)) (σ:St U),(∀x∈ll,∃o y,ops[x.1]? =some o∧tI V S σ0 σ1 o=some y∧x.2=jZ y∧σ.b y.2=none)→ll.Pairwise (fun x y=>dG x.2 y.2=true)→
  ∃σe,SeqR V K S ops (ll.map fun x=>(x.1,x.2,.done)) σ σe:=by
 intro ll
 induction ll with
 |nil=>intro σ _ _;exact ⟨σ,St.eqv.refl _⟩
 |cons x ll ih=>
  intro σ h hp
  obtain ⟨o,y,ho,hy,hx,hb⟩:=h x (by simp)
  obtain ⟨t,z,h1,h2,h3,h4,h5,_⟩:=tJ hy
  simp only [List.pairwise_cons] at hp
  obtain ⟨σe,he⟩:=ih ((σ.setB y.2 (.cells z)).setR y.1 (.ptr y.2 0)) (fun x' hx'=>by
   obtain ⟨o',y',a,b,c,d⟩:=h x' (by simp [hx'])
   refine ⟨o',y',a,b,c, ?_⟩
   have hne:y.2≠y'.2:=by
    intro e
    have:=hp.1 x' hx'
    rw [hx,c] at this
    simp [dG,jZ,Loc.meets,e] at this
   simp [hne,d]) hp.2
  refine ⟨σe,o,_,ho, ?_,he⟩
  unfold j9
  rw [h3]
  simp only
  unfold b8
  rw [h1]
  simp only [h2,h4,←h5,M.Rel,hb]
  exact ⟨trivial,trivial,by rw [hx];rfl⟩
theorem IS {y:Tmp×Nat} (h:σ0.b y.2=none):PI.harmless σ0 (jZ y)=true:=by
 simp [PI.harmless,jZ,h]
theorem aet {fs:List (List Loc)} {f:List Loc} {o:Oper} {σ σa σ' σ'':St U} {v:PV U} (ho:ops[fs.length]? =some o) (hseq:SeqRel V K S ops ((List.range' 0 fs.length).zip fs) σ σa) (hj:(j9 V S o (h8 ops.toList)).Rel K σa [] (.raise v) σ' f) (he:σ'.eqv σ'')
  (hf:uL V S ops.toList σ σ'' (fs++[f])=true): ∃L σe,Raises ops σ L fs.length v∧SeqR V K S ops L σ σe∧Alike σ σ'' σe∧iR 0 ops.toList=true∧fs.length∈L.map (·.1)∧L.length≤ops.size:=by
 unfold uL at hf
 simp only [Bool.and_eq_true,List.length_append,List.length_singleton,Nat.add_sub_cancel] at hf
 obtain ⟨hfor,hfree,hharm,hlate⟩:=hf
 obtain ⟨ll,hll⟩:=Option.isSome_iff_exists.1 hlate
 obtain ⟨a,b,cc,d,e⟩:=abE (ops:=ops) _ _ _ ll rfl hll
 have hjs:fs.length<ops.size:=(Array.getElem?_eq_some_iff.1 ho).1
 obtain ⟨σe,hse⟩:=abD (K:=K) (V:=V) (S:=S) (ops:=ops) (σ0:=σ) (σ1:=σ'') ll σ' (fun x hx=>by
  obtain ⟨_,_,o',y,h1,h2,h3⟩:=a x hx
  obtain ⟨_,_,_,_,_,_,_,_,h4,_⟩:=tJ h2
  exact ⟨o',y,h1,h2,h3,(he.b _).trans h4⟩) d
 generalize hEx:(List.range' 0 fs.length).zip fs=ex at hseq
 have hex:ex.map (·.1)=List.range' 0 fs.length:=by rw [←hEx];exact List.map_fst_zip (by simp)
 have hexm: ∀x∈ex,x.1<fs.length∧fs[x.1]? =some x.2:=by
  intro x hx
  rw [←hEx] at hx
  obtain ⟨i,hi⟩:=List.mem_iff_getElem?.1 hx
  rw [List.getElem?_zip_eq_some] at hi
  obtain ⟨h1,h2⟩:=hi
  have hil:i<fs.length:=(List.getElem?_eq_some_iff.1 h2).1
  have h3:(List.range' 0 fs.length)[i]? =some i:=by simp [hil]
  rw [h3] at h1
  injection h1 with h1
  rw [←h1];exact ⟨hil,h2⟩
 let L:List (Nat×List Loc×MR U):=(ex.map fun x=>(x.1,x.2,MR.done))++((fs.length,f,MR.raise v)::ll.map fun x=>(x.1,x.2,MR.done))
 have hLm:L.map (·.1)=List.range' 0 (fs.length+1)++ll.map (·.1):=by
  simp only [L,List.map_append,List.map_map,List.map_cons]
  have:(fun x:Nat×List Loc×MR U=>x.1)∘(fun x:Nat×List Loc=>(x.1,x.2,(MR.done:MR U)))=fun x=>x.1:=rfl
  rw [this,hex,List.range'_concat]
  simp
 have hinc:(L.map (·.1)).Pairwise (· < ·):=by
  rw [hLm,List.pairwise_append]
  refine ⟨List.pairwise_lt_range',b,fun x hx y hy=> ?_⟩
  obtain ⟨z,hz,rfl⟩:=List.mem_map.1 hy
  have h1:=(a z hz).1
  have h2:x<fs.length+1:=by
   rw [List.mem_range'] at hx
   obtain ⟨i,hi,rfl⟩:=hx;omega
  omega
 have cases3: ∀x∈L,(∃y∈ex,x=(y.1,y.2,.done))∨x=(fs.length,f,.raise v)∨ ∃y∈ll,x=(y.1,y.2,.done):=by
  intro x hx
  simp only [L,List.mem_append,List.mem_map,List.mem_cons] at hx
  rcases hx with ⟨y,hy,rfl⟩|rfl|⟨y,hy,rfl⟩
  ·exact .inl ⟨y,hy,rfl⟩
  ·exact .inr (.inl rfl)
  ·exact .inr (.inr ⟨y,hy,rfl⟩)
 have hLlt: ∀x∈L,x.1<ops.size:=by
  intro x hx
  rcases cases3 x hx with ⟨y,hy,rfl⟩|rfl|⟨y,hy,rfl⟩
  ·have:=(hexm y hy).1;simp only;omega
  ·exact hjs
  ·exact (a y hy).2.1
 have hfps: ∀x∈ex,x.2∈fs++[f]:=fun x hx=>by
  have:=List.mem_of_getElem? (hexm x hx).2
  simp [this]
 refine ⟨L,σe,⟨hinc.imp Nat.ne_of_lt,hLlt, ?_, ?_, ?_, ?_, ?_, ?_⟩, ?_, ?_,hfor, ?_, ?_⟩
 ·
  simp only [L,List.pairwise_append,List.pairwise_cons]
  have fo: ∀p q g h,p<q→(fs++[f])[p]? =some g→(fs++[f])[q]? =some h→((dR ops.toList []).getD q 0).testBit p=true∨dG g h=true:=fun p q g h hpq hp hq=>
   H6 _ (fs++[f]) 0 [] rfl hfree p q g h hpq (by simpa using hp) (by simpa using hq) (by simp)
  refine ⟨?_,⟨fun y hy=> ?_, ?_⟩,fun x hx y hy=> ?_⟩
  ·have h1:ex.Pairwise fun x y=>x.1<y.1:=by
    have:(ex.map (·.1)).Pairwise (· < ·):=by rw [hex];exact List.pairwise_lt_range'
    exact List.pairwise_map.1 this
   rw [List.pairwise_map]
   refine (List.Pairwise.and_mem.1 h1).imp fun {x y} h=> ?_
   obtain ⟨hx,hy,hlt⟩:=h
   exact fo x.1 y.1 x.2 y.2 hlt (by rw [List.getElem?_append_left (hexm x hx).1];exact (hexm x hx).2) (by rw [List.getElem?_append_left (hexm y hy).1];exact (hexm y hy).2)
  ·obtain ⟨z,hz,rfl⟩:=List.mem_map.1 hy
   exact .inr (cc z hz f (by simp))
  ·rw [List.pairwise_map]
   exact d.imp fun h=> .inr h
  ·obtain ⟨x',hx',rfl⟩:=List.mem_map.1 hx
   rcases List.mem_cons.1 hy with rfl|hy
   ·exact fo x'.1 fs.length x'.2 f (hexm x' hx').1 (by rw [List.getElem?_append_left (hexm x' hx').1];exact (hexm x' hx').2) (by simp)
   ·obtain ⟨z,hz,rfl⟩:=List.mem_map.1 hy
    exact .inr (cc z hz x'.2 (hfps x' hx'))
 ·
  intro pre x post hpp o' ho' ed hed hb
  have hxL:x∈L:=by rw [hpp];simp
  have hk:x.1≤fs.length∨fs.length<x.1:=by omega
  rcases hk with hk|hk
  ·have hlt:=CA ops.toList 0 x.1 _ hfor (by simpa using ho') ed hed hb
   rw [Nat.zero_add] at hlt
   have hin:ed.on∈L.map (·.1):=by
    rw [hLm]
    refine List.mem_append.2 (.inl ?_)
    rw [List.mem_range']
    exact ⟨ed.on,by omega,by omega⟩
   rw [hpp,List.map_append,List.map_cons] at hin hinc
   rcases List.mem_append.1 hin with h|h
   ·exact h
   ·exfalso
    rw [List.pairwise_append,List.pairwise_cons] at hinc
    rcases List.mem_cons.1 h with h|h
    ·omega
    ·have:=hinc.2.1.1 ed.on h;omega
  ·exfalso
   rcases cases3 x hxL with ⟨y,hy,rfl⟩|rfl|⟨y,hy,rfl⟩
   ·have:=(hexm y hy).1;simp only at hk;omega
   ·simp at hk
   ·obtain ⟨_,_,o2,y2,h1,h2,_⟩:=a y hy
    simp only at ho'
    rw [h1] at ho'
    injection ho' with ho'
    subst ho'
    obtain ⟨_,_,_,_,_,_,_,_,_,h3⟩:=tJ h2
    rw [h3 ed hed] at hb;cases hb
 ·intro x hx hne
  rcases cases3 x hx with ⟨y,hy,rfl⟩|rfl|⟨y,hy,rfl⟩
  ·rfl
  ·exact absurd rfl hne
  ·rfl
 ·intro x hx heq
  rcases cases3 x hx with ⟨y,hy,rfl⟩|rfl|⟨y,hy,rfl⟩
  ·have:=(hexm y hy).1;simp only at heq;omega
  ·rfl
  ·have:=(a y hy).1;simp only at heq;omega
 ·intro x hx hne
  rcases cases3 x hx with ⟨y,hy,rfl⟩|rfl|⟨y,hy,rfl⟩
  ·have:=UV _ _ hharm y.1 (by omega) (by have:=(hexm y hy).1;omega)
   simp only [Bool.or_eq_true] at this
   rcases this with h|h
   ·exact .inl h
   ·refine .inr ?_
    rw [List.getD_eq_getElem?_getD,List.getElem?_append_left (hexm y hy).1,(hexm y hy).2] at h
    exact h
  ·exact absurd rfl hne
  ·obtain ⟨_,_,o2,y2,h1,h2,h3⟩:=a y hy
   obtain ⟨_,_,_,_,_,_,_,h4,_⟩:=tJ h2
   refine .inr ?_
   simp only [h3]
   exact IS h4
 ·intro i hi hn
  rw [hLm,List.mem_append,not_or] at hn
  refine e i ?_ hi hn.2
  have: ¬i<fs.length+1:=fun h=>hn.1 (by rw [List.mem_range'];exact ⟨i,h,by omega⟩)
  omega
 ·exact SeqR.append (SeqR.ofSeq hseq) ⟨o,σ',ho,hj,hse⟩
 ·have hh:=SeqR.harmless (σ0:=σ) _ hse (fun x hx=>by
   obtain ⟨y,hy,rfl⟩:=List.mem_map.1 hx
   obtain ⟨_,_,o2,y2,h1,h2,h3⟩:=a y hy
   obtain ⟨_,_,_,_,_,_,_,h4,_⟩:=tJ h2
   simp only [h3]
   exact IS h4)
  exact ⟨fun id hid=>(hh.b id hid).trans (he.b id),fun i=>(hh.o i).trans (he.o i),fun i=>(hh.u i).trans (he.u i)⟩
 ·rw [hLm]
  refine List.mem_append.2 (.inl ?_)
  rw [List.mem_range']
  exact ⟨fs.length,by omega,by omega⟩
 ·have h1:(L.map (·.1)).length≤(List.range ops.size).length:=by
   have hnd:(L.map (·.1)).Nodup:=hinc.imp Nat.ne_of_lt
   refine List.Nodup.length_le_of_subset hnd fun i hi=> ?_
   obtain ⟨x,hx,rfl⟩:=List.mem_map.1 hi
   exact List.mem_range.2 (hLlt x hx)
  simpa using h1
theorem aeG {σ τ:St U} (ho:σ.o=τ.o) (hu:σ.u=τ.u) (t:Option (Nat×Bool)) (v:PV U) (K:Kept U):mH σ t v K=mH τ t v K:=by
 unfold mH
 rw [ho,hu]
theorem VR {σ τ:St U} (ho:σ.o=τ.o) (hu:σ.u=τ.u): ∀ (ts:List (Option (Nat×Bool))) (vs:List (PV U)) (K:Kept U),jF σ ts vs K=jF τ ts vs K:=by
 intro ts
 induction ts with
 |nil=>intro vs K;cases vs<;>rfl
 |cons t ts ih=>
  intro vs K
  cases vs with
  |nil=>rfl
  |cons v vs=>simp only [jF,aeG ho hu,ih]
theorem VO {σ τ:St U} (ho:σ.o=τ.o) (hu:σ.u=τ.u): ∀ (l:List (Nat×List (Option (Nat×Bool)))) (K:Kept U),(∀x∈l,σ.b x.1=τ.b x.1)→gE σ l K=gE τ l K:=by
 intro l
 induction l with
 |nil=>intro K _;rfl
 |cons x l ih=>
  obtain ⟨n,ts⟩:=x
  intro K h
  have h1:=h (n,ts) (by simp)
  simp only at h1
  have h2: ∀K,gE σ l K=gE τ l K:=fun K=>ih K fun x hx=>h x (by simp [hx])
  simp only [gE,h1,VR ho hu,h2]
theorem acs: ∀ (l:List Nat) (n:Nat),n∈pn l→n∈l:=by
 intro l
 induction l with
 |nil=>intro n h;exact h
 |cons m l ih=>
  intro n h
  simp only [pn] at h
  cases hb:l.any (Nat.beq m) with
  |true=>rw [hb] at h;simp [ih n h]
  |false=>
   rw [hb] at h
   rcases List.mem_cons.1 h with rfl|h
   ·simp
   ·simp [ih n h]
theorem ach {α:Type}: ∀ (l:List (Nat×α)) (n:Nat),n∈l.map (·.1)→(cq l n).isSome=true:=by
 intro l
 induction l with
 |nil=>intro n h;cases h
 |cons x l ih=>
  obtain ⟨m,v⟩:=x
  intro n h
  rw [jc]
  by_cases hm:m=n
  ·rw [if_pos hm];rfl
  ·rw [if_neg hm]
   refine ih n ?_
   simp only [List.map_cons,List.mem_cons] at h
   exact h.resolve_left (Ne.symm hm)
theorem G3 {σ0 σ τ:St U} (h:Alike σ0 σ τ):d_ (jx σ0 τ) τ=d_ (jx σ0 σ) σ:=by
 have hkeys: ∀id∈pn (σ0.box.map (·.1)),τ.b id=σ.b id:=fun id hid=>h.b id (ach _ _ (acs _ _ hid))
 have hA:jx σ0 τ=jx σ0 σ:=by
  unfold jx
  congr 1
  exact List.map_congr_left fun id hid=>by rw [hkeys id hid]
 rw [hA]
 have hB: ∀K,gE τ (jx σ0 σ).boxes K=gE σ (jx σ0 σ).boxes K:=fun K=>VO (funext h.o) (funext h.u) _ K fun x hx=>by
  obtain ⟨id,hid,rfl⟩:=List.mem_map.1 hx
  exact hkeys id hid
 unfold d_
 simp only [jx,oS] at hB ⊢
 rw [hB]
end
end Go.Proofs.YtgajalidbabccaaGreatDoor.PI
namespace Go.Proofs.YtgajalidbabccaaGreatDoor.PI
open Go
set_option linter.unusedVariables false
set_option linter.unusedSimpArgs false
section
variable {U:Uni} {V:Env U} {P:Program} {X:Link V P} {K:cz U} {S:Side U} {c:Ctx} {ann:Nat→Option Ann}
theorem Lands.eqv {ds:List Deferred} {e:Ex U} {σ σ':St U} {Q:Exit→Act→World→Prop} (h:Lands X c ds e σ Q) (he:σ'.eqv σ):Lands X c ds e σ' Q:=
 fun a w g D hd hs=>h a w g D hd (hs.eqv he)
def vn (X:Link V P) (c:Ctx):Option Ann→Code→St U→Ex U→St U→Prop
 |none,code,σ,e,σ'=> ∀ (a:Act) (w:World) (g:Gh U) (D:Nat→Option Nat) (Q:Exit→Act→World→Prop),Sim X c a.tmps w σ g D→Lands X c a.defers e σ' Q→code.wp P Q a w
 |some A,code,σ,e,σ'=> ∃n,∀ (a:Act) (w:World) (g:Gh U) (D:Nat→Option Nat) (Q:Exit→Act→World→Prop),Sim X c a.tmps w σ g D→Lands X c a.defers e σ' Q→Code.rounds P code Q n a w
theorem P_ {next:Act→World→Prop} {Q:Exit→Act→World→Prop} {ds:List Deferred} {e:Ex U} {σ':St U} (h:Lands X c ds e σ' Q) (he:e≠ .normal):Lands X c ds e σ' (Exit.then next Q):=by
 intro a w g D hd hs
 have:=h a w g D hd hs
 cases e with
 |normal=>exact absurd rfl he
 |exit id=>exact this
 |ret=>exact this
 |panic v=>exact this
theorem Zn {Q:Exit→Act→World→Prop} {ds:List Deferred} {e:Ex U} {σ':St U} {id:Nat} (h:Lands X c ds e σ' Q) (he:e≠ .exit id):Lands X c ds e σ' (Exit.inBlock id Q):=by
 intro a w g D hd hs
 have:=h a w g D hd hs
 cases e with
 |normal=>exact this
 |exit j=>
  have hj:j≠id:=fun h=>he (by rw [h])
  simp only [Exit.inBlock,hj,if_false]
  exact this
 |ret=>exact this
 |panic v=>exact this
theorem acC {Q:Exit→Act→World→Prop} {ds:List Deferred} {e:Ex U} {σ':St U} (h:Lands X c ds e σ' Q):Lands X c ds e σ' (Exit.noGoto Q):=by
 intro a w g D hd hs
 have:=h a w g D hd hs
 cases e with
 |normal=>exact this
 |exit id=>exact this
 |ret=>exact this
 |panic v=>exact this
theorem oQ (hm:P.follows .mixedOrders=true) (hS:nc X K S c) (hnt:c.nt=S.nt) {o:Option Ann} {code:Code} {σ:St U} {e:Ex U} {σ':St U} (h:Big K V S ann o code σ e σ'):vn X c o code σ e σ':=by
 induction h with
 |skip σ=>exact fun a w g D Q hs hl=>Go.wp_skip (hl a w g D rfl hs)
 |label l σ=>exact fun a w g D Q hs hl=>wp_label (hl a w g D rfl hs)
 |region id ops draw σ e σ' fps hd h hf=>
  intro a w g D Q hs hl
  rw [←hnt] at hd
  cases draw with
  |false=>
   refine wp_region ?_
   rw [List.range_eq_range']
   have:=QL (Q:=Q) hS ops.toList 0 a w σ g D fps (by simp) hd hs h hl
   simpa using this
  |true=>
   obtain ⟨rfl,hfor,hfree⟩:=hf rfl
   refine wp_region_any hm ?_
   obtain ⟨hlen,hseq⟩:=agk ops.toList 0 σ σ' fps (by simp) h
   have hlen':fps.length=ops.size:=by simpa using hlen
   refine ahH hS hd hfor hfree hl ops.size _ ((List.range' 0 ops.toList.length).zip fps) a _ σ g D (by simp [hlen']) ⟨by simp, ?_,fun x hx=> ?_,fun k o hk=> ?_⟩ rfl hs.drew hseq
   ·have h1:((List.range' 0 ops.toList.length).zip fps).map (·.1)=List.range' 0 ops.toList.length:=List.map_fst_zip (by simp [hlen'])
    rw [h1,List.filter_eq_self.2,List.range_eq_range']
    ·simp
    ·intro i hi
     have hi':i<ops.size:=List.mem_range.1 hi
     simp [Array.getD_eq_getD_getElem?,hi']
   ·obtain ⟨i,hi⟩:=List.mem_iff_getElem?.1 hx
    rw [List.getElem?_zip_eq_some] at hi
    obtain ⟨h1,h2⟩:=hi
    have hil:i<ops.size:=by have:=(List.getElem?_eq_some_iff.1 h2).1;omega
    have h3:(List.range' 0 ops.toList.length)[i]? =some i:=by simp [hil]
    rw [h3] at h1
    injection h1 with h1
    rw [←h1];exact h2
   ·exfalso
    have:(Array.replicate ops.size false).getD k false=false:=by
     rw [Array.getD_eq_getD_getElem?,Array.getElem?_replicate]
     split<;>rfl
    dsimp only at hk
    rw [this] at hk;cases hk
 |regionP id ops σ v σ' σ'' τ fps hd h he hv hf hc=>
  intro a w g D Q hs hl
  rw [←hnt] at hd
  obtain ⟨fs,f,o,σ1,hfps,ho,hseq,hj⟩:=agl (ops:=ops) ops.toList 0 σ σ' fps v (by simp) h
  subst hfps
  rw [Nat.zero_add] at ho
  obtain ⟨L,σe,hR,hsq,hal,hfor,hjL,hlen⟩:=aet ho hseq hj he hf
  refine wp_region_any hm ?_
  have hjs:fs.length<ops.size:=(Array.getElem?_eq_some_iff.1 ho).1
  have hrep: ∀i d,(Array.replicate ops.size false).getD i d=(if i<ops.size then false else d):=by
   intro i d
   rw [Array.getD_eq_getD_getElem?,Array.getElem?_replicate]
   split<;>rfl
  have hwp:=ahI (v:=v) hS hd hfor hR (ds:=a.defers) (Q:=Q) (fun a' w' g' D' τ' hdf hs' hal' val hval=>by
    have hc2:d_ (jx σ τ') τ'=some τ:=by rw [←G3 hal',G3 hal];exact hc
    obtain ⟨g2,D2,hs2⟩:=wT hs' hc2
    refine hl a' w' g2 D2 hdf hs2 val ?_
    cases v with
    |iface t p=>
     cases p with
     |int k n=>cases hval with
      |iface _ u _ hu=>cases hu;exact .iface _ _ _ (.int _ _)
     |_=>cases hv
    |_=>cases hv) L.length (Array.replicate ops.size false) L a _ σ g D rfl (by simp) ?_ (fun i hi _=>by rw [hrep,if_pos hi]) (by rw [hrep,if_pos hjs]) hjL (fun k o' hk=> ?_) rfl hs.drew hsq
  ·rw [show L.length+(ops.size-L.length)=ops.size by omega] at hwp
   exact hwp
  ·rw [List.filter_eq_self.2]
   intro x hx
   rw [hrep,if_pos (hR.lt x hx)];rfl
  ·exfalso
   dsimp only at hk
   rw [hrep] at hk
   split at hk<;>cases hk
 |seqN x y σ σ1 e σ' h1 h2 i1 i2=>
  intro a w g D Q hs hl
  exact wp_seq (i1 a w g D _ hs fun a' w' g' D' hd hs'=>i2 a' w' g' D' Q hs' (by rw [hd];exact hl))
 |seqJ x y A σ σ1 τ e σ' h1 hA hc h2 i1 i2=>
  intro a w g D Q hs hl
  refine wp_seq (i1 a w g D _ hs fun a' w' g' D' hd hs'=> ?_)
  obtain ⟨g2,D2,hs2⟩:=wT hs' hc
  exact i2 a' w' g2 D2 Q hs2 (by rw [hd];exact hl)
 |seqE x y σ e σ' h1 he i1=>exact fun a w g D Q hs hl=>wp_seq (i1 a w g D _ hs (P_ hl he))
 |cond j x y σ t e σ' hj h ih=>
  intro a w g D Q hs hl
  have hR:=hs.regs j
  rw [hj] at hR
  refine wp_cond (t:=t) (ly hR) ?_
  cases t with
  |true=>exact ih a w g D Q hs hl
  |false=>exact ih a w g D Q hs hl
 |blockIn id x σ σ' h ih=>
  intro a w g D Q hs hl
  refine wp_block (ih a w g D _ hs fun a' w' g' D' hd hs'=> ?_)
  simp only [Exit.inBlock,if_true]
  exact hl a' w' g' D' hd hs'
 |blockOut id x σ e σ' h he ih=>exact fun a w g D Q hs hl=>wp_block (ih a w g D _ hs (Zn hl he))
 |loop x A σ τ e σ' hA hc h ih=>
  intro a w g D Q hs hl
  obtain ⟨n,hn⟩:=ih
  obtain ⟨g',D',hs'⟩:=wT hs hc
  exact wp_loop_rounds n (hn a w g' D' Q hs' hl)
 |scope x σ e σ' h ih=>exact fun a w g D Q hs hl=>wp_scope_straight (ih a w g D _ hs (acC hl))
 |exit id σ=>exact fun a w g D Q hs hl=>wp_exit (hl a w g D rfl hs)
 |ret σ=>exact fun a w g D Q hs hl=>wp_ret (hl a w g D rfl hs)
 |round x A σ σ1 τ e σ' h hc h' i1 i2=>
  obtain ⟨n,hn⟩:=i2
  refine ⟨n+1,fun a w g D Q hs hl=> ?_⟩
  rw [rounds_succ]
  refine i1 a w g D _ hs fun a' w' g' D' hd hs'=> ?_
  obtain ⟨g2,D2,hs2⟩:=wT hs' hc
  exact hn a' w' g2 D2 Q hs2 (by rw [hd];exact hl)
 |leave x A σ e σ' h he i1=>
  refine ⟨1,fun a w g D Q hs hl=> ?_⟩
  rw [rounds_succ]
  exact i1 a w g D _ hs (P_ hl he)
 |pre o x σ0 σ e σ' he h ih=>
  cases o with
  |none=>exact fun a w g D Q hs hl=>ih a w g D Q (hs.eqv he) hl
  |some A=>obtain ⟨n,hn⟩:=ih;exact ⟨n,fun a w g D Q hs hl=>hn a w g D Q (hs.eqv he) hl⟩
 |post o x σ e σ1 σ' he h ih=>
  cases o with
  |none=>exact fun a w g D Q hs hl=>ih a w g D Q hs (hl.eqv he)
  |some A=>obtain ⟨n,hn⟩:=ih;exact ⟨n,fun a w g D Q hs hl=>hn a w g D Q hs (hl.eqv he)⟩
end
end Go.Proofs.YtgajalidbabccaaGreatDoor.PI
namespace Go.Proofs.YtgajalidbabccaaGreatDoor.PI
open Go
set_option linter.unusedVariables false
section
variable {U:Uni} {V:Env U} {P:Program} {X:Link V P} {S:Side U} {c:Ctx}
theorem oi (hI:lH X) (hS:S.rcv=none) (hP:PinOK S c):nc X (cx X) S c:=by
 intro o a w σ g D r τ fp gp next Q hd h hr ht
 obtain ⟨dst,op,ty,pos,after,gd⟩:=o
 cases op with
 |move x=>exact ac8 hd h hr ht
 |assign x=>exact acP hd h hr ht
 |pick x y z=>exact ada hd h hr ht
 |alloc t=>exact acO hP hd h hr ht
 |box t x=>exact acR hP hd h hr ht
 |build t ps=>exact acS hd h hr ht
 |buildSlice t n ps=>exact acT hd h hr ht
 |load t x=>exact ac2 hd h hr ht
 |store t x y=>exact adc h hr ht
 |nilCheck x=>exact ac9 hd h hr ht
 |binOp b t x y u=>exact acQ hd h hr ht
 |unOp u t x=>exact adf hd h hr ht
 |convert s t x=>exact acW hd h hr ht
 |makeFunc f xs ys=>cases f with
  |func f=>exact ac4 hd h hr ht
  |_=>exact hr.elim
 |makeInterface t x=>exact ac5 hd h hr ht
 |typeAssert x s t ok=>cases ok with
  |true=>exact ade hd h hr ht
  |false=>exact hr.elim
 |makeMap t x=>cases x with
  |none=>exact ac6 hd h hr ht
  |some x=>exact hr.elim
 |lookup t m x ok=>exact ac3 hd h hr ht
 |mapUpdate t m x y=>exact ac7 h hr ht
 |slice t x lo hi mx=>exact adb hd h hr ht
 |fieldAddr s x f=>exact acZ hd h hr ht
 |field s x f=>exact acY hd h hr ht
 |indexAddr t x i=>exact ac1 hd h hr ht
 |index t x i=>exact ac0 hd h hr ht
 |extract x i=>exact acX hd h hr ht
 |panic x=>exact ac_ h hr ht
 |call cl=>
  cases hc:cl.callee with
  |builtin b=>
   by_cases hb:b= .recover
   ·subst hb
    obtain ⟨callee,args,ats⟩:=cl
    simp only at hc
    subst hc
    simp only [b8,hS] at hr
    exact hr.elim
   ·exact acU hc hb hd h hr ht
  |value f=>exact acV hI hc hd h hr ht
  |invoke x n=>
   obtain ⟨callee,args,ats⟩:=cl
   simp only at hc
   subst hc
   exact hr.elim
 |_=>exact hr.elim
end
end Go.Proofs.YtgajalidbabccaaGreatDoor.PI
namespace Go.Proofs.YtgajalidbabccaaGreatDoor.PI
open Go
set_option linter.unusedVariables false
set_option linter.unusedSimpArgs false
section
variable {U:Uni} {V:Env U} {P:Program} {X:Link V P}
theorem agF: ∀ (args:List (PV U)) (s n:Nat),cq (va s args) n=if s≤n then (args[n-s]?).map (Oq n) else none:=by
 intro args
 induction args with
 |nil=>intro s n;simp [va,cq]
 |cons p args ih=>
  intro s n
  simp only [va,jc,ih]
  by_cases h:s=n
  ·subst h;simp
  ·rw [if_neg h]
   by_cases h2:s≤n
   ·rw [if_pos h2,if_pos (by omega)]
    obtain ⟨k,rfl⟩: ∃k,n=s+(k+1):=⟨n-s-1,by omega⟩
    rw [show s+(k+1)-(s+1)=k by omega,show s+(k+1)-s=k+1 by omega]
    simp
   ·rw [if_neg h2,if_neg (by omega)]
def gh (args:List (PV U)) (j:Nat):Option (Ob U):=match args[j]? with|some (.fresh e l)=>some ⟨0,e,l⟩|_=>none
theorem Oo: ∀ (args:List (PV U)) (s i:Nat),cq (iw s args) i=if 2000000+s≤i then gh args (i-2000000-s) else none:=by
 intro args
 induction args with
 |nil=>intro s i;simp [iw,cq,gh]
 |cons p args ih=>
  intro s i
  have tail:cq (iw (s+1) args) i=if 2000000+s≤i∧i≠2000000+s then gh (p::args) (i-2000000-s) else none:=by
   rw [ih]
   by_cases h:2000000+(s+1)≤i
   ·rw [if_pos h,if_pos ⟨by omega,by omega⟩]
    obtain ⟨k,rfl⟩: ∃k,i=2000000+s+(k+1):=⟨i-2000000-s-1,by omega⟩
    rw [show 2000000+s+(k+1)-2000000-(s+1)=k by omega,show 2000000+s+(k+1)-2000000-s=k+1 by omega]
    simp [gh]
   ·rw [if_neg h,if_neg (by omega)]
  have plain:p.notFresh=true→iw s (p::args)=iw (s+1) args:=by
   intro hp;cases p<;>first|rfl|cases hp
  by_cases hp:p.notFresh=true
  ·rw [plain hp,tail]
   by_cases h1:2000000+s≤i
   ·rw [if_pos h1]
    by_cases h2:i=2000000+s
    ·subst h2
     rw [if_neg (by omega)]
     have:2000000+s-2000000-s=0:=by omega
     rw [this]
     unfold gh
     simp only [List.getElem?_cons_zero]
     cases p<;>first|rfl|cases hp
    ·rw [if_pos ⟨h1,h2⟩]
   ·rw [if_neg h1,if_neg (by omega)]
  ·cases p with
   |fresh e l=>
    simp only [iw,jc,tail]
    by_cases h1:2000000+s=i
    ·subst h1
     rw [if_pos rfl,if_pos (Nat.le_refl _)]
     have:2000000+s-2000000-s=0:=by omega
     rw [this];rfl
    ·rw [if_neg h1]
     by_cases h2:2000000+s≤i
     ·rw [if_pos ⟨h2,Ne.symm h1⟩,if_pos h2]
     ·rw [if_neg (by omega),if_neg h2]
   |_=>exact absurd rfl hp
end
end Go.Proofs.YtgajalidbabccaaGreatDoor.PI
namespace Go.Proofs.YtgajalidbabccaaGreatDoor.PI
open Go
set_option linter.unusedVariables false
set_option linter.unusedSimpArgs false
section
variable {U:Uni} {V:Env U} {P:Program} {X:Link V P}
theorem ahU {boxes:List (Box U)}: ∀ (n s id:Nat) (bs:List (Box U)),n=bs.length→cq ((cH s n).zip bs) id=if s≤id then bs[id-s]? else none:=by
 intro n
 induction n with
 |zero=>intro s id bs h;have:bs=[]:=List.eq_nil_of_length_eq_zero h.symm;subst this;simp [cH,cq]
 |succ n ih=>
  intro s id bs h
  cases bs with
  |nil=>simp at h
  |cons b bs=>
   simp only [cH,List.zip_cons_cons,jc]
   rw [ih (s+1) id bs (by simpa using h)]
   by_cases h1:s=id
   ·subst h1;simp
   ·rw [if_neg h1]
    by_cases h2:s≤id
    ·rw [if_pos h2,if_pos (by omega)]
     obtain ⟨k,rfl⟩: ∃k,id=s+(k+1):=⟨id-s-1,by omega⟩
     rw [show s+(k+1)-(s+1)=k by omega,show s+(k+1)-s=k+1 by omega]
     simp
    ·rw [if_neg h2,if_neg (by omega)]
def fZ (n:Nat) (ν:Nat→Nat) (args:List (PV U)) (vs:Array Value):Gh U:=
 ⟨fun id=>if 1000000≤id∧id-1000000<n then some (ν (id-1000000)) else none,
  fun i=>if 2000000≤i then (gh args (i-2000000)).map (fun ob=>(0,ob.e,vs.getD (i-2000000) undef)) else none⟩
def mQ (args:List (PV U)) (δ:Nat→Option Nat):Nat→Option Nat:=fun i=>if 2000000≤i then (gh args (i-2000000)).bind fun _=>δ (i-2000000) else none
def gY (w:World) (N0:aP) (n m:Nat) (ν:Nat→Nat) (δ:Nat→Option Nat) (ο:Nat→Array Value) (hoz: ∀b,w.heap.size≤b→ο b= #[]) (nt:Nat) (hnt:nt≤1000000) (h:Bnd w N0 n ν δ) (gl:List (Nat×Obj)) (hgl: ∀b o,(b,o)∈gl→w.heap[b]? =some o∧(∀i,i<n→ν i≠b)∧ ∀j,δ j≠some b):Ctx:=
 ⟨w,N0,n_ n m ν δ,nt,fun b o hn=>⟨(h.n0 b o hn).1,fun hm=>by
  rcases List.mem_append.1 hm with hm|hm
  ·obtain ⟨k,hk,e⟩:=List.mem_map.1 hm
   exact (h.n0 b o hn).2.1 k (List.mem_range.1 hk) e
  ·obtain ⟨j,_,hj⟩:=List.mem_filterMap.1 hm
   exact (h.n0 b o hn).2.2 j hj⟩,
  fun id=>if 1000000≤id∧id-1000000<n then some (ν (id-1000000)) else none,fun id k h=>(by
  split at h
  ·rename_i h1;exact ⟨h1.1,Nat.le_trans hnt h1.1⟩
  ·cases h),
  gl,fun b o hb=>⟨(hgl b o hb).1,fun hm=>by
  rcases List.mem_append.1 hm with hm|hm
  ·obtain ⟨k,hk,e⟩:=List.mem_map.1 hm
   exact (hgl b o hb).2.1 k (List.mem_range.1 hk) e
  ·obtain ⟨j,_,hj⟩:=List.mem_filterMap.1 hm
   exact (hgl b o hb).2.2 j hj⟩,ο,hoz⟩
structure CtxOf (c:Ctx) (w:World) (N0:aP) (n m:Nat) (ν:Nat→Nat) (δ:Nat→Option Nat) (ο:Nat→Array Value):Prop where
 cw:c.w0=w
 cN:c.N0=N0
 bl:c.bl=n_ n m ν δ
 fix: ∀i,i<n→c.fix (dn i)=some (ν i)
 other: ∀id k,c.fix id=some k→(∃i,i<n∧id=dn i)∨w.heap.size≤k
 bnd:Bnd w N0 n ν δ
 oo:c.ο=ο
theorem lD {w:World} {N0:aP} {n m nt:Nat} {ν:Nat→Nat} {δ:Nat→Option Nat} {ο:Nat→Array Value} {hoz: ∀b,w.heap.size≤b→ο b= #[]} {hnt:nt≤1000000} {h:Bnd w N0 n ν δ} {gl:List (Nat×Obj)} {hgl: ∀b o,(b,o)∈gl→w.heap[b]? =some o∧(∀i,i<n→ν i≠b)∧ ∀j,δ j≠some b}:CtxOf (gY w N0 n m ν δ ο hoz nt hnt h gl hgl) w N0 n m ν δ ο where
 cw:=rfl
 cN:=rfl
 bl:=rfl
 fix i hi:=by
  simp only [gY,dn]
  rw [if_pos ⟨by omega,by omega⟩,show 1000000+i-1000000=i by omega]
 other id k hk:=by
  simp only [gY] at hk
  split at hk
  ·rename_i h1;exact .inl ⟨id-1000000,h1.2,by simp [dn];omega⟩
  ·cases hk
 bnd:=h
 oo:=rfl
variable {w:World} {vs:Array Value} {N0:aP} {ν:Nat→Nat} {δ:Nat→Option Nat} {ο:Nat→Array Value} {args:List (PV U)} {boxes:List (Box U)}
theorem u_ {i b:Nat} (h:mQ args δ i=some b):2000000≤i∧δ (i-2000000)=some b∧(gh args (i-2000000)).isSome=true:=by
 unfold mQ at h
 split at h
 ·rename_i hi
  cases hf:gh args (i-2000000) with
  |none=>rw [hf] at h;cases h
  |some ob=>rw [hf] at h;exact ⟨hi,h,rfl⟩
 ·cases h
theorem agG (hg:Given X w vs N0 ν δ ο args boxes) (nt:Nat) (hnt:nt≤1000000): ∀b o,((gY w N0 boxes.length args.length ν δ ο hg.oz nt hnt hg.bnd X.gblk hg.glob).N (fZ boxes.length ν args vs) (mQ args δ)) b o→(NB N0 boxes.length ν δ) b o:=by
 rintro b o (hn|⟨id,hid⟩|⟨i,hi⟩)
 ·exact .inl hn
 ·simp only [fZ] at hid
  split at hid
  ·rename_i h1
   injection hid with hid
   exact .inr (.inl ⟨_,h1.2,hid⟩)
  ·cases hid
 ·exact .inr (.inr ⟨_,(u_ hi).2.1⟩)
theorem Ot (id:Nat):(it args boxes).b id=if 1000000≤id then (boxes.map (Box.ren true dn))[id-1000000]? else none:=by
 unfold St.b it
 simp only
 rw [ahU (boxes:=boxes) _ _ _ _ (by simp)]
 rfl
theorem Af (hg:Given X w vs N0 ν δ ο args boxes) {nt:Nat} (hnt:args.length≤nt) (hnt2:nt≤1000000):
  Sim X (gY w N0 boxes.length args.length ν δ ο hg.oz nt hnt2 hg.bnd X.gblk hg.glob) (vs++Array.replicate (nt-vs.size) undef) w (it args boxes) (fZ boxes.length ν args vs) (mQ args δ):=by
 have hsub:=agG hg nt hnt2
 have hμ: ∀i b,(gB U boxes.length ν).μ i=some b→(fZ boxes.length ν args vs).μ (dn i)=some b:=by
  intro i b hb
  simp only [gB] at hb
  split at hb
  ·rename_i hi
   simp only [fZ,dn]
   rw [if_pos ⟨by omega,by omega⟩,show 1000000+i-1000000=i by omega]
   exact hb
  ·cases hb
 have hvs: ∀n,n<args.length→(vs++Array.replicate (nt-vs.size) undef).getD n undef=vs.getD n undef:=by
  intro n hn
  have:n<vs.size:=by rw [hg.size];exact hn
  simp [Array.getD_eq_getD_getElem?,Array.getElem?_append,this]
 have ho: ∀i ob,(it args boxes).o i=some ob→2000000≤i∧gh args (i-2000000)=some ob:=by
  intro i ob h
  unfold St.o it at h
  simp only [Oo] at h
  split at h
  ·rename_i hi;exact ⟨by omega,by simpa using h⟩
  ·cases h
 have hb: ∀id b,(it args boxes).b id=some b→1000000≤id∧ ∃b0,boxes[id-1000000]? =some b0∧b=b0.ren true dn:=by
  intro id b h
  rw [Ot] at h
  by_cases hi:1000000≤id
  ·rw [if_pos hi,List.getElem?_map,Option.map_eq_some_iff] at h
   obtain ⟨b0,h1,h2⟩:=h
   exact ⟨by omega,b0,h1,h2.symm⟩
  ·rw [if_neg hi] at h;cases h
 refine {nt:=by simp [gY,hg.size];omega,regs:=fun n=> ?_,boxes:=fun id b h=> ?_,dom:=fun id k hk=> ?_,inj:=fun id id' k h1 h2=> ?_,new:=fun id k hk=> ?_,objs:=fun i ob h=> ?_,nobj:=fun i h=> ?_,dinj:=fun i j b h1 h2=> ?_,dnew:=fun i b h=> ?_,dbox:=fun i id b h1 h2=> ?_,ext:=Ext.refl _ _,gl:=rfl,fix:=fun id k hk=> .inl hk}
 ·unfold St.r it
  simp only [agF,Nat.zero_le,if_true,Nat.sub_zero]
  cases hp:args[n]? with
  |none=>simp only [Option.map_none];exact .undef _
  |some p=>
   simp only [Option.map_some]
   have hn:=(List.getElem?_eq_some_iff.1 hp).1
   rw [hvs n hn]
   have hr:=hg.args n p hp
   by_cases hf:p.notFresh=true
   ·have:=(hr.rep hf).ren (g':=fZ boxes.length ν args vs) (N':=(gY w N0 boxes.length args.length ν δ ο hg.oz nt hnt2 hg.bnd X.gblk hg.glob).N (fZ boxes.length ν args vs) (mQ args δ)) true dn (fun _ _ _ _=>rfl) (fun b o _ h=>hsub b o h) (.inr fun _=>rfl) fun i _ b hb=>hμ i b hb
    cases p<;>first|exact this|cases hf
   ·cases p with
    |fresh e l=>
     obtain ⟨A,n',cp,hval,_⟩:=(show ObOK X w _ _ e l (vs.getD n undef) .wr (δ n) from hr).val
     have hfa:gh args n=some ⟨0,e,l⟩:=by unfold gh;rw [hp]
     refine .own (2000000+n) 0 _ 0 e (vs.getD n undef) ?_ (Nat.le_refl _) (fun _=>rfl) ⟨A,n',cp,hval⟩
     simp only [fZ]
     rw [if_pos (by omega),show 2000000+n-2000000=n by omega,hfa];rfl
    |_=>exact absurd rfl hf
 ·obtain ⟨h1,b0,h2,rfl⟩:=hb id b h
  have hlt:=(List.getElem?_eq_some_iff.1 h2).1
  have hμid:(fZ boxes.length ν args vs).μ id=some (ν (id-1000000)):=if_pos ⟨h1,hlt⟩
  refine ⟨ν (id-1000000),hμid, ?_⟩
  exact (hg.boxes _ b0 h2).ren true dn rfl (fun _ _ _ _=>rfl) (fun b o _ h=>hsub b o h) (.inr fun _=>rfl) fun i _ b hb=>hμ i b hb
 ·simp only [fZ] at hk
  split at hk
  ·rename_i h1
   obtain ⟨hx1,hx2⟩:=h1
   obtain ⟨b0,hb0⟩: ∃b0,boxes[id-1000000]? =some b0:=⟨_,List.getElem?_eq_getElem hx2⟩
   exact ⟨b0.ren true dn,by rw [Ot,if_pos hx1,List.getElem?_map,hb0];rfl⟩
  ·cases hk
 ·simp only [fZ] at h1 h2
  split at h1
  ·rename_i q1
   split at h2
   ·rename_i q2
    injection h1 with h1
    injection h2 with h2
    have:=hg.bnd.inj _ _ q1.2 q2.2 (h1.trans h2.symm)
    omega
   ·cases h2
  ·cases h1
 ·simp only [fZ] at hk
  split at hk
  ·rename_i h1
   injection hk with hk
   subst hk
   exact ⟨hg.bnd.lt _ h1.2,.inl (List.mem_append.2 (.inl (List.mem_map.2 ⟨_,List.mem_range.2 h1.2,rfl⟩)))⟩
  ·cases hk
 ·obtain ⟨h1,h2⟩:=ho i ob h
  have hp: ∃e l,args[i-2000000]? =some (.fresh e l)∧ob=⟨0,e,l⟩:=by
   unfold gh at h2
   split at h2
   ·rename_i e l hq
    injection h2 with h2
    exact ⟨e,l,hq,h2.symm⟩
   ·cases h2
  obtain ⟨e,l,hp,rfl⟩:=hp
  have hO:ObOK X w (NB N0 boxes.length ν δ) (gB U boxes.length ν) e l (vs.getD (i-2000000) undef) .wr (δ (i-2000000)):=hg.args _ _ hp
  refine ⟨vs.getD (i-2000000) undef,by simp only [fZ];rw [if_pos h1,h2];rfl, ?_⟩
  have hu:(it args boxes).u i= .wr:=by
   unfold St.u it
   simp only
   have hlook: ∀ (l:List (Nat×Ob U)) (n:Nat),cq (l.map fun x=>(x.1,Use.wr)) n=(cq l n).map fun _=>Use.wr:=by
    intro l n
    induction l with
    |nil=>rfl
    |cons x l ih=>
     obtain ⟨m,y⟩:=x
     simp only [List.map_cons,jc,ih]
     split<;>rfl
   rw [hlook]
   have h':cq (iw 0 args) i=some ⟨0,e,l⟩:=h
   rw [h'];rfl
  have hD:mQ args δ i=δ (i-2000000):=by simp only [mQ];rw [if_pos h1,h2];rfl
  rw [hu,hD]
  exact hO.turn (fun _ _=>rfl) (fun _ _ _ _=>rfl) (fun b o _ h=>hsub b o h)
 ·have hf:2000000≤i→gh args (i-2000000)=none:=by
   intro hi
   have h':cq (iw 0 args) i=none:=h
   rw [Oo,if_pos (by omega)] at h'
   simpa using h'
  constructor
  ·simp only [fZ]
   split
   ·rename_i hi;rw [hf hi];rfl
   ·rfl
  ·simp only [mQ]
   split
   ·rename_i hi;rw [hf hi];rfl
   ·rfl
 ·obtain ⟨a1,a2,_⟩:=u_ h1
  obtain ⟨b1,b2,_⟩:=u_ h2
  have:=hg.bnd.dinj _ _ _ a2 b2
  omega
 ·obtain ⟨a1,a2,_⟩:=u_ h
  exact ⟨hg.bnd.dlt _ _ a2,.inl (List.mem_append.2 (.inr (List.mem_filterMap.2 ⟨_,List.mem_range.2 (hg.dom _ _ a2),a2⟩)))⟩
 ·obtain ⟨a1,a2,_⟩:=u_ h1
  simp only [fZ] at h2
  split at h2
  ·rename_i q
   injection h2 with h2
   exact hg.bnd.dν _ _ a2 _ q.2 h2
  ·cases h2
end
end Go.Proofs.YtgajalidbabccaaGreatDoor.PI
namespace Go.Proofs.YtgajalidbabccaaGreatDoor.PI
open Go
set_option linter.unusedVariables false
set_option linter.unusedSimpArgs false
section
variable {U:Uni} {V:Env U} {P:Program} {X:Link V P} {K:cz U} {c:Ctx} {tm:Array Value} {w:World} {σ:St U} {g:Gh U} {D:Nat→Option Nat}
variable {r:MR U} {τ:St U} {gp:List Loc}
def mG (tmps:Array Value):ResultVar→Sem Value
 | .tmp t=>pure (tmps.getD t undef)
 | .cell a t=>do loadVar t (←asAddr (tmps.getD a undef))
theorem aeE (fn:Func) (tmps:Array Value):results fn tmps=(do
  let vs←fn.results.mapM (mG tmps)
  pure (if h:vs.size=1 then vs[0] else .tuple vs)):=by
 unfold results mG
 rfl
theorem aeD (h:Sim X c tm w σ g D): ∀ (res:List ResultVar) {k:List (PV U)→M U} {fp:List Loc},(qW V res k).Rel K σ fp r τ gp→
  ∃ps us fp',(k ps).Rel K σ fp' r τ gp∧us.length=ps.length∧(∀ (j:Nat) p,ps[j]? =some p→Rep X w (c.N g D) g (us.getD j undef) p)∧(res.mapM (mG tm)).run P w= .ok us w:=by
 intro res
 induction res with
 |nil=>intro k fp hr;exact ⟨[],[],fp,hr,rfl,by simp,by simp⟩
 |cons x res ih=>
  intro k fp hr
  have step: ∀ {p:PV U} {v:Value} {fp1:List Loc},(qW V res fun vs=>k (p::vs)).Rel K σ fp1 r τ gp→Rep X w (c.N g D) g v p→(mG tm x).run P w= .ok v w→
    ∃ps us fp',(k ps).Rel K σ fp' r τ gp∧us.length=ps.length∧(∀ (j:Nat) p,ps[j]? =some p→Rep X w (c.N g D) g (us.getD j undef) p)∧((x::res).mapM (mG tm)).run P w= .ok us w:=by
   intro p v fp1 hr1 hp hv
   obtain ⟨ps,us,fp',h1,h2,h3,h4⟩:=ih hr1
   refine ⟨p::ps,v::us,fp',h1,by simp [h2],fun j q hq=> ?_,by simp [List.mapM_cons,Sem.run_bind,hv,h4]⟩
   cases j with
   |zero=>simp at hq;subst hq;exact hp
   |succ j=>exact h3 j q (by simpa using hq)
  cases x with
  |tmp t=>exact step hr (h.regs t) (by simp [mG])
  |cell a t=>
   simp only [qW,M.Rel] at hr
   obtain ⟨x,fp',v,h1,h2,h3⟩:=I3 (a:=⟨tm,[]⟩) h (h.regs a) hr
   refine step h1 h3 ?_
   have h2':=h2
   unfold Instr.loadAt at h2'
   simp only [mG]
   cases hu:tm.getD a undef with
   |pointer q=>
    rw [hu] at h2'
    cases q with
    |none=>simp [Instr.sureAddr] at h2'
    |some q=>simpa [Instr.sureAddr,asAddr] using h2'
   |_=>rw [hu] at h2';simp [Instr.sureAddr] at h2'
theorem CD: ∀ (l:List Nat) {k:List (Nat×Box U)→M U} {fp:List Loc},(iW l k).Rel K σ fp r τ gp→ ∃bs fp',(k bs).Rel K σ fp' r τ gp∧bs.map (·.1)=l∧ ∀x∈bs,σ.b x.1=some x.2:=by
 intro l
 induction l with
 |nil=>intro k fp hr;exact ⟨[],fp,hr,rfl,by simp⟩
 |cons id l ih=>
  intro k fp hr
  simp only [iW,M.Rel] at hr
  split at hr
  ·rename_i b hb
   obtain ⟨bs,fp',h1,h2,h3⟩:=ih hr
   exact ⟨(id,b)::bs,fp',h1,by simp [h2],fun x hx=>by
    rcases List.mem_cons.1 hx with rfl|hx
    ·exact hb
    ·exact h3 x hx⟩
  ·exact hr.elim
theorem YZ: ∀ (n:Nat) (todo:List Nat) (acc:List (Nat×Box U)) {k:List (Nat×Box U)→M U} {fp:List Loc},(∀x∈acc,σ.b x.1=some x.2)→(tB n todo acc k).Rel K σ fp r τ gp→
  ∃bs fp',(k (acc++bs)).Rel K σ fp' r τ gp∧ ∀x∈acc++bs,σ.b x.1=some x.2:=by
 intro n
 induction n with
 |zero=>intro todo acc k fp _ hr;exact hr.elim
 |succ n ih=>
  intro todo acc k fp hacc hr
  cases todo with
  |nil=>exact ⟨[],fp,by rw [List.append_nil];exact hr,by simpa using hacc⟩
  |cons id todo=>
   simp only [tB] at hr
   split at hr
   ·exact ih todo acc hacc hr
   ·simp only [M.Rel] at hr
    split at hr
    ·rename_i b hb
     obtain ⟨bs,fp',h1,h2⟩:=ih _ _ (fun x hx=>by
      rcases List.mem_append.1 hx with hx|hx
      ·exact hacc x hx
      ·simp at hx;subst hx;exact hb) hr
     exact ⟨(id,b)::bs,fp',by simpa using h1,by simpa using h2⟩
    ·exact hr.elim
theorem RepG.lessN {N N':aP} {v:Value} {Do:Option Nat} {p:PV U} (h:RepG X w N g v Do p) (hN: ∀b o,N' b o→N b o):RepG X w N' g v Do p:=by
 by_cases hp:p.notFresh=true
 ·have:=(h.rep hp).mono X (w':=w) (N':=N') (g':=g) (fun _ _ _ _=>rfl) (fun b o _ hn=>hN b o hn) (Gh.le.refl g)
  cases p<;>first|exact this|cases hp
 ·cases p with
  |fresh e l=>exact ObOK.mono h (fun _ _=>rfl) (fun _ _ _ _=>rfl) (fun b o _ hn=>hN b o hn) (Gh.le.refl g)
  |_=>exact absurd rfl hp
theorem GR {w0:World} {N0:aP} {n m:Nat} {ν:Nat→Nat} {δ:Nat→Option Nat} {ο:Nat→Array Value} (hc:CtxOf c w0 N0 n m ν δ ο) (hdom: ∀j b,δ j=some b→j<m)
  (h:Sim X c tm w σ g D) {bs:List (Nat×Box U)} {qs:List (PV U)} {vs:Array Value} {ν':Nat→Nat} {δ':Nat→Option Nat} {keep:Bool} {N1:aP}
  (hkeys: ∃more,bs.map (·.1)=cH (dn 0) n++more) (hnd:(bs.map (·.1)).Nodup) (hν: ∀ (k:Nat) id,(bs.map (·.1))[k]? =some id→g.μ id=some (ν' k))
  (hδ: ∀j b,δ' j=some b→ ∃i,D i=some b)
  (hg:Given X w vs N1 ν' δ' ο qs (bs.map fun b=>b.2.ren keep (bD (bs.map (·.1)))))
  (hN1:NB N1 bs.length ν' δ'=c.N g D):
  Back X w0 w N0 ν δ ο n m ν' δ' (bs.map fun b=>b.2.ren keep (bD (bs.map (·.1))))∧ ∀b o,(NB N0 bs.length ν' δ') b o→(NB N1 bs.length ν' δ') b o:=by
 obtain ⟨more,hmore⟩:=hkeys
 obtain ⟨c0,cN,cbl,cfix,cother,hb0,coo⟩:=hc
 have hlen:bs.length=n+more.length:=by have:=congrArg List.length hmore;simpa [zh] using this
 have hext: ∀i,i<n→(bs.map (·.1))[i]? =some (dn i):=by
  intro i hi
  rw [hmore,List.getElem?_append_left (by rw [zh];exact hi),Kq _ _ _ hi]
  simp [dn]
 have hold: ∀i,i<n→ν' i=ν i:=by
  intro i hi
  have h1:=hν i _ (hext i hi)
  rcases h.fix _ _ h1 with h2|⟨h2,_⟩
  ·rw [cfix i hi] at h2;injection h2 with h2;exact h2.symm
  ·rw [cfix i hi] at h2;cases h2
 have hμν: ∀i,i<n→g.μ (dn i)=some (ν i):=fun i hi=>by rw [←hold i hi];exact hν i _ (hext i hi)
 have hget: ∀k,k<bs.length→ ∃id,(bs.map (·.1))[k]? =some id∧g.μ id=some (ν' k):=fun k hk=>⟨_,List.getElem?_eq_getElem (by simpa using hk),hν k _ (List.getElem?_eq_getElem (by simpa using hk))⟩
 have hsub: ∀b o,(NB N0 bs.length ν' δ') b o→(NB N1 bs.length ν' δ') b o:=by
  intro b o hn
  rw [hN1]
  rcases hn with hn|⟨k,hk,rfl⟩|⟨j,hj⟩
  ·exact .inl (by rw [cN];exact hn)
  ·obtain ⟨id,_,hid⟩:=hget k hk
   exact .inr (.inl ⟨id,hid⟩)
  ·obtain ⟨i,hi⟩:=hδ j b hj
   exact .inr (.inr ⟨i,hi⟩)
 have hnew: ∀i,n≤i→i<bs.length→w0.heap.size≤ν' i:=by
  intro i hi hlt
  obtain ⟨id,h1,h2⟩:=hget i hlt
  rcases h.fix _ _ h2 with h3|⟨_,h3⟩
  ·rcases cother _ _ h3 with ⟨j,hj,e⟩|h4
   ·exfalso
    subst e
    have h7:=hext j hj
    have:=(List.getElem?_inj (by simpa using hlt) hnd).1 (h1.trans h7.symm)
    omega
   ·exact h4
  ·rw [c0] at h3;exact h3
 have hdnew: ∀j b,δ' j=some b→w0.heap.size≤b∨ ∃i,δ i=some b:=by
  intro j b hj
  obtain ⟨i,hi⟩:=hδ j b hj
  rcases (h.dnew i b hi).2 with h1|h1
  ·rw [cbl] at h1
   rcases List.mem_append.1 h1 with h1|h1
   ·obtain ⟨k,hk,e⟩:=List.mem_map.1 h1
    rw [List.mem_range] at hk
    subst e
    exact absurd (hμν k hk) (h.dbox i _ _ hi)
   ·obtain ⟨k,_,hk⟩:=List.mem_filterMap.1 h1
    exact .inr ⟨k,hk⟩
  ·rw [c0] at h1;exact .inl h1
 have hl:(bs.map fun b=>b.2.ren keep (bD (bs.map (·.1)))).length=bs.length:=by simp
 have hgb:=hg.bnd
 rw [hl] at hgb
 have hex:Ext (n_ n m ν δ) w0 w:=by have:=h.ext;rwa [c0,cbl] at this
 refine ⟨⟨hex,by rw [hl];omega,hold,by rw [hl];exact hnew,hdnew, ?_,fun k b hb=> ?_⟩,hsub⟩
 ·rw [hl]
  refine ⟨hgb.inj,hgb.lt,hgb.dlt,hgb.dinj,hgb.dν,fun b o hn=>⟨Nat.lt_of_lt_of_le (hb0.n0 b o hn).1 hex.size,fun i hi e=> ?_,fun j hj=> ?_⟩⟩
  ·by_cases hin:i<n
   ·exact (hb0.n0 b o hn).2.1 i hin (by rw [←hold i hin];exact e)
   ·have:=hnew i (by omega) hi
    have:=(hb0.n0 b o hn).1
    omega
  ·rcases hdnew j b hj with h1|⟨i,h1⟩
   ·have:=(hb0.n0 b o hn).1;omega
   ·exact (hb0.n0 b o hn).2.2 i h1
 ·have:=hg.boxes k b hb
  rw [hl] at this ⊢
  exact this.mono rfl (fun _ _ _ _=>rfl) (fun b o _ hn=>hsub b o hn) (Gh.le.refl _)
end
end Go.Proofs.YtgajalidbabccaaGreatDoor.PI
namespace Go.Proofs.YtgajalidbabccaaGreatDoor.PI
open Go
set_option linter.unusedVariables false
set_option linter.unusedSimpArgs false
section
variable {U:Uni} {V:Env U} {P:Program} {X:Link V P}
theorem RepG.ofAny {w:World} {N:aP} {g:Gh U} {v:Value} {Do:Option Nat} {p:PV U} (h:Rep X w N g v p):RepG X w N g v Do p:=by
 cases p<;>first|exact h|cases h
theorem RepR.ofG {w:World} {N:aP} {g:Gh U} {v:Value} {δ:Nat→Option Nat} {p:PV U} (h:RepG X w N g v (δ 0) p):RepR X w N g v δ p:=by
 cases p with
 |tuple ps=>
  cases (show Rep X w N g v (.tuple ps) from h) with
  |tuple vs _ hl hh=>exact ⟨vs,rfl,hl,fun j p hp=> .ofAny (hh j p hp)⟩
 |_=>exact h
theorem aeF {fn:Func} {tmps:Array Value} {us:List Value} {w:World} (h:(fn.results.toList.mapM (mG tmps)).run P w= .ok us w):
  (results fn tmps).run P w= .ok (if h:us.toArray.size=1 then us.toArray[0] else .tuple us.toArray) w:=by
 rw [aeE,Array.mapM_eq_mapM_toList]
 simp [Sem.run_bind,h]
variable {w0:World} {N0:aP} {n m:Nat} {ν:Nat→Nat} {δ:Nat→Option Nat} {K:cz U} {c:Ctx}
theorem ahC {w:World} {σ:St U} {g:Gh U} {N:aP} {hand:List Bool} {ps:List (PV U)} {us:List Value} {k:List (PV U)→M U} {fp gp:List Loc} {r:MR U} {τ:St U} (hl:us.length=ps.length) (hp: ∀ (j:Nat) p,ps[j]? =some p→Rep X w N g (us.getD j undef) p)
  (hr:(Gx hand ps k).Rel K σ fp r τ gp): ∃qs,(k qs).Rel K σ fp r τ gp∧us.length=qs.length∧ ∀ (j:Nat) p,qs[j]? =some p→Rep X w N g (us.getD j undef) p:=by
 unfold Gx at hr
 cases hb:Nat.beq hand.length (ps.length+1) with
 |false=>rw [hb] at hr;exact ⟨ps,hr,hl,hp⟩
 |true=>
  rw [hb] at hr
  simp only [cond_true] at hr
  split at hr
  ·rename_i v
   split at hr
   ·rename_i v' hv
    refine ⟨[v'],hr,hl,fun j p hj=> ?_⟩
    cases j with
    |succ j=>simp at hj
    |zero=>
     simp at hj
     subst hj
     have h0:=hp 0 v rfl
     generalize us.getD 0 undef=u at h0
     unfold PV.asFull at hv
     split at hv
     ·injection hv with hv
      subst hv
      cases h0 with
      |sl A n c e l o val h1 h2 h3 h4 h5=>exact .sl A n c _ _ .full val h1 h2 (by obtain ⟨_,a,b⟩:=h3;rw [a,b]) h4 h5
     ·injection hv with hv
      subst hv
      exact h0
     ·cases hv
   ·exact hr.elim
  ·exact hr.elim
theorem qX {fn:Func} {tm:Array Value} {w:World} {σ:St U} {g:Gh U} {D:Nat→Option Nat} {ο:Nat→Array Value} (hc:CtxOf c w0 N0 n m ν δ ο) (hdom: ∀j b,δ j=some b→j<m) (h:Sim X c tm w σ g D)
  {keep:Bool} {hand:List Bool} {out:Out U} {τ:St U} {fp gp:List Loc} (hr:(kf V keep hand fn.results.toList n).Rel K σ fp (.out out) τ gp):
  ∃v,(results fn tm).run P w= .ok v w∧Ret X w0 N0 ν δ ο n m out (.returned v) w:=by
 unfold kf at hr
 obtain ⟨ps,us,fp1,hr1,hl1,hp1,hrun⟩:=aeD h _ hr
 obtain ⟨ps,hr1,hl1,hp1⟩:=ahC hl1 hp1 hr1
 obtain ⟨q1,σ1,D1,fp2,hr2,hF1,hl2,hq1⟩:=H8 hand ps h (fun j=>us.getD j undef) hp1 hr1
 obtain ⟨bs0,fp3,hr3,hk0,hb0'⟩:=CD _ hr2
 obtain ⟨bs1,fp4,hr4,hb1⟩:=YZ 100 _ bs0 hb0' hr3
 obtain ⟨bs2,σ2,D2,fp5,hr5,hF2,hkeys,hb2⟩:=CC _ hF1.sim (fun x hx=>hF1.sim.boxes x.1 x.2 (hb1 x hx)) hr4
 have h2:=hF2.sim
 obtain ⟨qs,σ3,fp6,G,δ',hr6,hl6,hSp,_,hδ,hδi,hqs⟩:=Ic h2 hand q1 (fun j=>us.getD j undef) (.refl σ2) (fun j p hp=>hF2.rep (hq1 j p hp)) hr5
 cases hh:kX qs bs2 with
 |false=>rw [hh] at hr6;exact hr6.elim
 |true=>
 rw [hh] at hr6
 obtain ⟨e1,_,_⟩:=hr6
 injection e1 with e1
 subst e1
 have hb2: ∀x∈bs2,kA X w (c.N g D2) g ο x:=hc.oo▸hb2
 obtain ⟨ν',hν⟩:=Kp hb2
 have hgd: ∀j,us.toArray.getD j undef=us.getD j undef:=fun j=>pC j (by simp)
 obtain ⟨hNB,hg⟩:=CE h2 keep (ο:=ο) (fun b hb=>by rw [←hc.oo];exact c.oz b (Nat.le_trans h2.ext.size hb)) (vs:=us.toArray) (by simp;omega) hb2 hh (fun j b hj=>by rw [hl6];exact hδ j b hj) hδi (fun j q hq=>by rw [hgd];exact hqs j q hq) hν (F:=fun b=>b.2.ren keep (bD (bs2.map (·.1)))) fun x hx g' t k hμ hbx=>hbx.ren keep _ rfl (fun _ _ _ _=>rfl) (fun _ _ _ h=>h) (.inl hx) hμ
 have hnd:=(tC hh).2.2.1
 obtain ⟨hback,hsub⟩:=GR hc hdom h2 ⟨bs1.map (·.1),by rw [hkeys,List.map_append,hk0]⟩ hnd hν (fun j b hj=>by obtain ⟨_,i,_,hi⟩:=hδ j b hj;exact ⟨i,hi⟩) hg hNB
 suffices hR:RepR X w (NB N0 bs2.length ν' δ') (gB U bs2.length ν') (if h:us.toArray.size=1 then us.toArray[0] else .tuple us.toArray) δ' (j8 (PV.renL keep (bD (bs2.map (·.1))) qs)) by
  have hrr:=aeF hrun
  generalize (if h:us.toArray.size=1 then us.toArray[0] else .tuple us.toArray)=v at hR hrr
  have hbl:(bs2.map fun b=>b.2.ren keep (bD (bs2.map (·.1)))).length=bs2.length:=by simp
  have hret:Ret X w0 N0 ν δ ο n m (.ret (j8 (PV.renL keep (bD (bs2.map (·.1))) qs)) (bs2.map fun b=>b.2.ren keep (bD (bs2.map (·.1))))) (.returned v) w:=by
   simp only [Ret]
   refine ⟨ν',δ',hback, ?_⟩
   rw [hbl];exact hR
  exact ⟨v,hrr,hret⟩
 have hbl:(bs2.map fun b=>b.2.ren keep (bD (bs2.map (·.1)))).length=bs2.length:=by simp
 have hargs: ∀ (j:Nat) p,(PV.renL keep (bD (bs2.map (·.1))) qs)[j]? =some p→RepG X w (NB N0 bs2.length ν' δ') (gB U bs2.length ν') (us.toArray.getD j undef) (δ' j) p:=fun j p hp=>by
  have:=hg.args j p hp
  rw [hbl] at this
  exact this.lessN hsub
 have hlr:(PV.renL keep (bD (bs2.map (·.1))) qs).length=us.length:=by rw [fW];simp;omega
 generalize PV.renL keep (bD (bs2.map (·.1))) qs=rs at hargs hlr
 by_cases h1:us.toArray.size=1
 ·rw [dif_pos h1]
  have hu1:us.length=1:=by simpa using h1
  obtain ⟨p,rfl⟩: ∃p,rs=[p]:=by
   match rs,hlr with
   |[p],_=>exact ⟨p,rfl⟩
   |[],h=>simp at h;omega
   |_::_::_,h=>simp at h;omega
  have:=hargs 0 p rfl
  have hu:us.toArray.getD 0 undef=us.toArray[0]:=by simp [Array.getD,h1]
  rw [hu] at this
  exact .ofG this
 ·rw [dif_neg h1]
  have hone:j8 rs= .tuple rs:=by
   match rs,hlr with
   |[],_=>rfl
   |[p],h=>simp at h h1;omega
   |_::_::_,_=>rfl
  rw [hone]
  exact ⟨us.toArray,rfl,by simpa using hlr.symm,hargs⟩
theorem DM {tm:Array Value} {w:World} {σ:St U} {g:Gh U} {D:Nat→Option Nat} {ο:Nat→Array Value} (hc:CtxOf c w0 N0 n m ν δ ο) (hdom: ∀j b,δ j=some b→j<m) (h:Sim X c tm w σ g D)
  {v:PV U} {val:Value} (hv:Rep X w (c.N g D) g val v) {out:Out U} {τ:St U} {fp gp:List Loc} (hr:(DL v n).Rel K σ fp (.out out) τ gp):
  Ret X w0 N0 ν δ ο n m out (.panicked [{v:=val,recovered:=false}]) w:=by
 unfold DL at hr
 obtain ⟨bs0,fp3,hr3,hk0,hb0'⟩:=CD _ hr
 obtain ⟨bs2,σ2,D2,fp5,hr5,hF2,hkeys,hb2⟩:=CC _ h (fun x hx=>h.boxes x.1 x.2 (hb0' x hx)) hr3
 obtain ⟨q,σ3,D3,fp6,hr6,hF3,hq,_⟩:=nF v hF2.sim (hF2.rep hv) hr5
 cases hh:kX [q] bs2 with
 |false=>simp only [hh] at hr6;exact hr6.elim
 |true=>
 simp only [hh] at hr6
 obtain ⟨e1,_,_⟩:=hr6
 injection e1 with e1
 subst e1
 have hb3: ∀x∈bs2,kA X w (c.N g D3) g ο x:=fun x hx=>by
  obtain ⟨k,hk,hbx⟩:=hb2 x hx
  rw [hc.oo] at hbx
  exact ⟨k,hk,hbx.mono rfl (fun _ _ _ _=>rfl) (fun b o _ hn=>by
   rcases hn with hn|hn|⟨i,hi⟩
   ·exact .inl hn
   ·exact .inr (.inl hn)
   ·exact .inr (.inr ⟨i,hF3.D i b hi⟩)) (Gh.le.refl g)⟩
 have hkk:bs2.map (·.1)=cH (dn 0) n:=hkeys.trans hk0
 have hlen:bs2.length=n:=by have:=congrArg List.length hkk;simpa [zh] using this
 have hν: ∀ (k:Nat) id,(bs2.map (·.1))[k]? =some id→g.μ id=some (ν k):=by
  intro k id hid
  obtain ⟨x,hx,rfl⟩:=List.mem_map.1 (List.mem_of_getElem? hid)
  obtain ⟨kb,hk,_⟩:=hb3 x hx
  have hkn:k<n:=by have:=(List.getElem?_eq_some_iff.1 hid).1;simp at this;omega
  rw [hkk,Kq _ _ _ hkn] at hid
  injection hid with hid
  have hfix:c.fix x.1=some (ν k):=by
   rw [←hid,←hc.fix k hkn]
   simp [dn]
  rcases h.fix _ _ hk with h2|⟨h2,_⟩
  ·rw [hfix] at h2;rw [hk,←h2]
  ·rw [hfix] at h2;cases h2
 obtain ⟨hNB,hg⟩:=CE (G:=[]) (δ:=fun _=>none) hF3.sim false (ο:=ο) (fun b hb=>by rw [←hc.oo];exact c.oz b (Nat.le_trans h.ext.size hb)) (vs:= #[val]) (by simp) hb3 hh (by simp) (by simp) (fun j q' hq'=>by
  cases j with
  |zero=>simp at hq';subst hq';exact .of hq
  |succ j=>simp at hq') hν (F:=fun b=>b.2.ren false (bD (bs2.map (·.1)))) fun x hx g' t k hμ hbx=>hbx.ren false _ rfl (fun _ _ _ _=>rfl) (fun _ _ _ h=>h) (.inl hx) hμ
 obtain ⟨hback,hsub⟩:=GR hc hdom hF3.sim ⟨[],by rw [hkk];simp⟩ (tC hh).2.2.1 hν (by simp) hg hNB
 refine ⟨by simp [hlen],val,rfl,hback, ?_⟩
 have hbl:(bs2.map fun b=>b.2.ren false (bD (bs2.map (·.1)))).length=bs2.length:=by simp
 have:=hg.args 0 _ rfl
 rw [hbl] at this
 have:=this.lessN hsub
 rw [hlen] at this
 have hf:(q.ren false (bD (bs2.map (·.1)))).notFresh=true:=by
  rw [zZ]
  cases q<;>first|rfl|cases hq
 exact this.rep hf
theorem Nf (hm:P.follows .mixedOrders=true) (hI:lH X) {S:Side U} (hS:S.rcv=none) (hpin:S.pin=fun _=>false) {R:Type} {C:Oracle U R} (hC:C.Tells (cx X)) {f:FuncId} {fn:Func} (hf:P.funcs[f]? =some fn)
  (hname:(fn.name== "runtime.NumGoroutine")=false) (hbody:fn.body.isNone=false) (hnt:fn.ntmps=S.nt) (hlow:S.nt≤1000000) {args:List (PV U)} {boxes:List (Box U)} (hargs:args.length≤S.nt)
  {ann:Nat→Option Ann} {fuel:Nat} {keep:Bool} {hand:List Bool} {κ:Out U→Option R} {x:R} (h:q_ V S C ann fuel keep hand fn args boxes κ=some x): ∃out,κ out=some x∧cx X f args boxes out:=by
 obtain ⟨code,hcode⟩: ∃code,fn.body=some code:=by
  cases hb:fn.body with
  |none=>rw [hb] at hbody;cases hbody
  |some code=>exact ⟨code,rfl⟩
 unfold q_ g7 at h
 rw [hcode] at h
 obtain ⟨e,τ,hbig,hk⟩:=z8 (cx X) V S ann hC fuel code h
 have key: ∀ {M:M U} {out:Out U} {τ0:St U} {gp:List Loc},M.Rel (cx X) τ [] (.out out) τ0 gp→(∀ (w:World) (vs:Array Value) (N0:aP) (ν:Nat→Nat) (δ:Nat→Option Nat) (ο:Nat→Array Value) (hg:Given X w vs N0 ν δ ο args boxes),
   Lands X (gY w N0 boxes.length args.length ν δ ο hg.oz S.nt hlow hg.bnd X.gblk hg.glob) [] e τ (bodyPost P fn (Ret X w N0 ν δ ο boxes.length args.length out)))→cx X f args boxes out:=by
  intro M out τ0 gp _ hl
  refine ⟨⟨fn,hf,hname,hbody⟩,fun w vs N0 ν δ ο hg=> ?_⟩
  suffices hgoal:Calls P f vs w (Ret X w N0 ν δ ο boxes.length args.length out) from hgoal.mono fun e w h=>Ret.full h
  refine calls_of_wp hf hcode ?_
  have hs:=Af hg hargs hlow
  rw [hnt]
  exact oQ hm (oi hI hS fun d hd=>by rw [hpin] at hd;cases hd) rfl hbig _ w _ _ _ hs (hl w vs N0 ν δ ο hg)
 cases e with
 |exit id=>cases hk
 |normal=>
  obtain ⟨r,τ0,τ1,gp,hr,ht,hfin⟩:=g8 hC _ hk (St.eqv.refl τ)
  cases r with
  |out o=>
   refine ⟨o,hfin,key hr fun w vs N0 ν δ ο hg a' w' g' D' hd hs=> ?_⟩
   obtain ⟨v,h1,h2⟩:=qX lD hg.dom hs hr
   exact ⟨hd,v,h1,h2⟩
  |_=>cases hfin
 |ret=>
  obtain ⟨r,τ0,τ1,gp,hr,ht,hfin⟩:=g8 hC _ hk (St.eqv.refl τ)
  cases r with
  |out o=>
   refine ⟨o,hfin,key hr fun w vs N0 ν δ ο hg a' w' g' D' hd hs=> ?_⟩
   obtain ⟨v,h1,h2⟩:=qX lD hg.dom hs hr
   exact ⟨hd,v,h1,h2⟩
  |_=>cases hfin
 |panic v=>
  obtain ⟨r,τ0,τ1,gp,hr,ht,hfin⟩:=g8 hC _ hk (St.eqv.refl τ)
  cases r with
  |out o=>
   refine ⟨o,hfin,key hr fun w vs N0 ν δ ο hg a' w' g' D' hd hs val hval=> ?_⟩
   exact ⟨hd,DM lD hg.dom hs hval hr⟩
  |_=>cases hfin
end
end Go.Proofs.YtgajalidbabccaaGreatDoor.PI
namespace Go.Proofs.YtgajalidbabccaaGreatDoor.PI
open Go
section
variable {U:Uni} {R:Type} (V:Env U) (S:Side U) (C:Oracle U R) (ann:Nat→Option Ann) (fuel:Nat)
def M0 (o:Oper):Option Tmp:=
 match o.dst,o.op,o.guard with
 |some d,.call c,.none=>match c.callee with
  | .builtin .recover=>some d
  |_=> .none
 |_,_,_=> .none
def Nh (v:PV U):Code→St U→(Ex U→St U→Option R)→Option R
 | .seq (.region _ ops draw) b,σ,κ=>match ops.toList with
  |o::more=>match M0 o with
   |some d=>bif !draw&&(Nat.blt d S.nt&&more.all (bK S.nt)) then ra V S C ops.toList more [] (σ.setR d v) fun
     | .normal,σ',_=>run V S C ann fuel b σ' κ
     |_,_,_=> .none
    else .none
   | .none=> .none
  |[]=> .none
 |_,_,_=> .none
def Ez (keep:Bool) (hand:List Bool) (fn:Func) (v:PV U) (args:List (PV U)) (boxes:List (Box U)) (κ:Out U→Option R):Option R:=
 Nh V S C ann fuel v (g7 fn) (it args boxes) (kF V C keep hand fn boxes.length κ)
def Cc:List Oper→Option (Oper×Tmp)
 |[o,q]=>match o.dst,o.guard,q.dst,q.op,q.guard with
  |some m,.none,.none,.defer c,.none=>match c.callee with
   | .value (.tmp n)=>bif Nat.beq m n&&c.args.isEmpty then some (o,n) else .none
   |_=> .none
  |_,_,_,_,_=> .none
 |_=> .none
def PV.pinned:PV U→Bool
 | .ptr id _=>Nat.ble 1000000 id
 |_=>false
def oy:Code→St U→(Ex U→St U→Option R)→(FuncId→List (PV U)→Ex U→St U→Option R)→Option R
 | .seq a b,σ,κ0,κ1=>match a with
  | .region id ops draw=>match Cc ops.toList with
   |some (o,n)=>bif !draw&&bK S.nt o then (b8 V S o).cps C σ [] fun
     | .done,σ',_=>match σ'.r n with
      | .func h [] caps=>bif caps.all PV.pinned then run V {S with pin:=fun _=>false} C ann fuel b σ' (κ1 h caps) else .none
      |_=> .none
     |_,_,_=> .none
    else .none
   | .none=>run V S C ann fuel (.region id ops draw) σ fun
    | .normal,σ'=>oy b σ' κ0 κ1
    |e,σ'=>κ0 e σ'
  |a=>run V S C ann fuel a σ fun
   | .normal,σ'=>oy b σ' κ0 κ1
   |e,σ'=>κ0 e σ'
 |_,_,_,_=> .none
def kD (Cd:PV U→Oracle U R) (keep:Bool) (hand:List Bool) (fn:Func) (nb:Nat) (κ:Out U→Option R) (h:FuncId) (caps:List (PV U)):Ex U→St U→Option R
 | .normal,σ=>(iW (PV.idsL caps) fun _=>jE (fun _=>0) (fun _=>[]) [] .none (.func h [] caps) []).cps (Cd .nilIface) σ [] fun
  | .done,σ',_=>(kf V keep hand fn.results.toList nb).cps C σ' [] (fin κ)
  |_,_,_=> .none
 | .ret,σ=>(iW (PV.idsL caps) fun _=>jE (fun _=>0) (fun _=>[]) [] .none (.func h [] caps) []).cps (Cd .nilIface) σ [] fun
  | .done,σ',_=>(kf V keep hand fn.results.toList nb).cps C σ' [] (fin κ)
  |_,_,_=> .none
 | .panic v,σ=>match v with
  | .iface t (.int k n)=>(iW (PV.idsL caps) fun _=>jE (fun _=>0) (fun _=>[]) [] .none (.func h [] caps) []).cps (Cd (.iface t (.int k n))) σ [] fun
   | .done,σ',_=>(kf V keep hand fn.results.toList nb).cps C σ' [] (fin κ)
   |_,_,_=> .none
  |_=> .none
 | .exit _,_=> .none
def IR:Code→List Bool→List (St U→Option R)→(Nat→Option Ann)→(Ex U→St U→Option R)→(FuncId→List (PV U)→Ex U→St U→Option R)→Ex U→St U→Option R
 | .seq a b,false::p,rs,an,κ0,κ1=>kZ V S C ann fuel a p rs an fun
  | .normal,σ'=>oy V S C ann fuel b σ' κ0 κ1
  |e,σ'=>κ0 e σ'
 | .seq _ b,true::p,rs,an,κ0,κ1=>IR b p rs an κ0 κ1
 |_,_,_,_,κ0,_=>κ0
def Ey (Cd:PV U→Oracle U R) (keep:Bool) (hand:List Bool) (fn:Func) (args:List (PV U)) (boxes:List (Box U)) (κ:Out U→Option R):Option R:=
 oy V S C ann fuel (g7 fn) (it args boxes) (kF V C keep hand fn boxes.length κ) (kD V C Cd keep hand fn boxes.length κ)
end
end Go.Proofs.YtgajalidbabccaaGreatDoor.PI
namespace Go.Proofs.YtgajalidbabccaaGreatDoor.PI
open Go
set_option linter.unusedVariables false
set_option linter.unusedSimpArgs false
section
variable {U:Uni} {V:Env U} {P:Program} {X:Link V P}
inductive RcvOK:PV U→FrameMode→FrameMode→Prop
 |nil:RcvOK .nilIface .returning .returning
 |err (t:TypeId) (k:IntKind) (n:Int):RcvOK (.iface t (.int k n)) (.panicking [{v:= .iface t (.int k n),recovered:=false}]) (.panicking [{v:= .iface t (.int k n),recovered:=true}])
def kB (P:Program) (u u':FrameMode):FuncId→Array Value→World→(Ending→World→Prop)→Prop:=fun f vs w R=>CallsD P f vs u w fun e u2 w'=>u2=u'∧R e w'
theorem ahJ {ops:Array Oper} {cs:List Frame} {Q:Exit→Act→List Frame→World→Prop} (hQ: ¬LetsOut (fun e a' w'=>Q e a' cs w')): ∀ (l:List Nat) (a:Act) (w:World),wpOps P ops (fun e a' w'=>Q e a' cs w') l a w→wpOpsS P ops Q l a cs w:=by
 intro l
 induction l with
 |nil=>intro a w h;exact h
 |cons i l ih=>
  intro a w h
  simp only [wpOps,wpOpsS] at h ⊢
  cases ho:ops[i]? with
  |none=>rw [ho] at h;exact ih _ _ h
  |some o=>
   rw [ho] at h
   simp only at h ⊢
   split
   ·rename_i hw
    rw [if_pos hw] at h
    have h:=h.resolve_right fun h=>hQ h.2
    have h:=Oper.wp_mono ih h
    unfold Oper.wp at h
    split
    ·rename_i w' hrun
     rw [hrun] at h
     exact h.elim
    ·exact h
   ·rename_i hw
    rw [if_neg hw] at h
    exact ih _ _ h
theorem aeO (hm:P.follows .mixedOrders=true) (hI:lH X) {S:Side U} (hS:S.rcv=none) (hpin:S.pin=fun _=>false) {R:Type} {C:Oracle U R} (hC:C.Tells (cx X)) {f:FuncId} {fn:Func} (hf:P.funcs[f]? =some fn)
  (hname:(fn.name== "runtime.NumGoroutine")=false) (hbody:fn.body.isNone=false) (hnt:fn.ntmps=S.nt) (hlow:S.nt≤1000000) {v:PV U} {u u':FrameMode} (hv:RcvOK v u u') {args:List (PV U)} {boxes:List (Box U)} (hargs:args.length≤S.nt)
  {ann:Nat→Option Ann} {fuel:Nat} {keep:Bool} {hand:List Bool} {κ:Out U→Option R} {x:R} (h:Ez V S C ann fuel keep hand fn v args boxes κ=some x): ∃out,κ out=some x∧jC X (kB P u u') f args boxes out:=by
 obtain ⟨code,hcode⟩: ∃code,fn.body=some code:=by
  cases hb:fn.body with
  |none=>rw [hb] at hbody;cases hbody
  |some code=>exact ⟨code,rfl⟩
 unfold Ez g7 at h
 rw [hcode] at h
 simp only at h
 unfold Nh at h
 split at h
 case h_2=>cases h
 rename_i id ops draw b
 split at h
 case h_2=>cases h
 rename_i o more hops
 split at h
 case h_2=>cases h
 rename_i d hrec
 cases hc:(!draw&&(Nat.blt d S.nt&&more.all (bK S.nt))) with
 |false=>rw [hc] at h;cases h
 |true=>
 rw [hc] at h
 simp only [cond_true] at h
 simp only [Bool.and_eq_true,Bool.not_eq_true'] at hc
 obtain ⟨hdraw,hd,hall⟩:=hc
 subst hdraw
 have hd:d<S.nt:=by simpa using hd
 unfold M0 at hrec
 obtain ⟨dst,op,ty,pos,after,gd⟩:=o
 simp only at hrec
 split at hrec
 case h_2=>cases hrec
 rename_i d0 cl
 split at hrec
 case h_2=>cases hrec
 rename_i hcl
 injection hrec with hrec
 subst hrec
 obtain ⟨e1,fps,τ0,τ1,hops1,ht1,hk1⟩:=Ng (cx X) V S hC ops.toList more h (St.eqv.refl _)
 cases e1 with
 |exit id=>cases hk1
 |ret=>cases hk1
 |panic v=>cases hk1
 |normal=>
 simp only at hk1
 obtain ⟨e,τ,hbig,hk⟩:=z8 (cx X) V S ann hC fuel b hk1
 have hsz:ops.size=more.length+1:=by have:=congrArg List.length hops;simpa using this
 have key: ∀ {out:Out U},(∀ (w:World) (vs:Array Value) (N0:aP) (ν:Nat→Nat) (δ:Nat→Option Nat) (ο:Nat→Array Value) (hg:Given X w vs N0 ν δ ο args boxes),
   Lands X (gY w N0 boxes.length args.length ν δ ο hg.oz S.nt hlow hg.bnd X.gblk hg.glob) [] e τ (bodyPost P fn (Ret X w N0 ν δ ο boxes.length args.length out)))→jC X (kB P u u') f args boxes out:=by
  intro out hl
  refine ⟨⟨fn,hf,hname,hbody⟩,fun w vs N0 ν δ ο hg=> ?_⟩
  suffices hgoal:kB P u u' f vs w (Ret X w N0 ν δ ο boxes.length args.length out) from CallsD.mono hgoal fun e u2 w2 h=>⟨h.1,Ret.full h.2⟩
  refine callsD_of_wpS hf hcode fun c₀ cs hu=> ?_
  have hs:=Af hg hargs hlow
  rw [hnt]
  have hl:=hl w vs N0 ν δ ο hg
  generalize hcx:gY w N0 boxes.length args.length ν δ ο hg.oz S.nt hlow hg.bnd X.gblk hg.glob=c at hs hl
  have hcnt:c.nt=S.nt:=by rw [←hcx];rfl
  have hOS:nc X (cx X) S c:=oi hI hS fun d hd=>by rw [hpin] at hd;cases hd
  obtain ⟨val,cs2,hrv,hrep⟩: ∃val cs2,(match recoverD (c₀::cs) with|some (v,cs')=>v=val∧cs'=cs2|none=>val= .nilIface∧cs2=c₀::cs)∧(∃c1:Frame,cs2={c₀ with mode:=u'}::cs)∧ ∀ (w:World) (N:aP) (g:Gh U),Rep X w N g val v:=by
   cases hv with
   |nil=>
    refine ⟨.nilIface,c₀::cs, ?_,⟨c₀, ?_⟩,fun _ _ _=> .nilIface⟩
    ·simp [recoverD,hu]
    ·rw [←hu]
   |err t k n=>
    refine ⟨.iface t (.int k n),_, ?_,⟨c₀,rfl⟩,fun _ _ _=> .iface _ _ _ (.int _ _)⟩
    simp [recoverD,hu]
  obtain ⟨⟨_,hcs2⟩,hrep⟩:=hrep
  refine wpS_seq (wpS_region ?_)
  rw [hsz,List.range_eq_range',List.range'_succ]
  have h0:ops[0]? =some ⟨some d0,.call cl,ty,pos,after,none⟩:=by rw [←Array.getElem?_toList,hops];rfl
  simp only [wpOpsS,h0]
  have hrun:(execOp (Act.eval ⟨vs++Array.replicate (S.nt-vs.size) undef,[]⟩) ⟨some d0,.call cl,ty,pos,after,none⟩).run P w= .ok .recover w:=by
   rw [Nk hcl]
   simp [builtin]
  rw [if_pos (by simp [Region.wanted]),hrun]
  simp only
  have hnext:wpOpsS P ops (Exit.thenS (b.wpS P (bodyPostS P fn c₀ cs fun e u2 w'=>u2=u'∧Ret X w N0 ν δ ο boxes.length args.length out e w')) (bodyPostS P fn c₀ cs fun e u2 w'=>u2=u'∧Ret X w N0 ν δ ο boxes.length args.length out e w')) (List.range' (0+1) more.length)
    (Act.put ⟨vs++Array.replicate (S.nt-vs.size) undef,[]⟩ (some d0) val) cs2 w:=by
   have hs1:=hs.put (d:=d0) (by rw [hcnt];exact hd) (hrep w _ _)
   have hLO: ∀ {next:Act→List Frame→World→Prop},¬LetsOut (fun e a' w'=>Exit.thenS next (bodyPostS P fn c₀ cs fun e u2 w'=>u2=u'∧Ret X w N0 ν δ ο boxes.length args.length out e w') e a' cs2 w'):=by
    rintro next ⟨a',w',u2,_,hq⟩
    exact hq
   refine ahJ hLO _ _ _ ?_
   refine QL hOS more 1 _ w _ _ _ fps (by rw [hops];rfl) (by rw [hcnt];exact hall) hs1 hops1 ?_
   intro a2 w2 g2 D2 hd2 hs2
   simp only [Exit.thenS]
   refine wpS_of_wp (oQ hm hOS hcnt hbig a2 w2 g2 D2 _ (hs2.eqv ht1) ?_)
   intro a3 w3 g3 D3 hd3 hs3
   have hd0:a3.defers=[]:=hd3.trans hd2
   have hb:=hl a3 w3 g3 D3 hd0 hs3
   rw [hcs2]
   cases e with
   |normal=>obtain ⟨q1,v1,q2,q3⟩:=hb;exact ⟨q1,u',rfl,v1,q2,rfl,q3⟩
   |ret=>obtain ⟨q1,v1,q2,q3⟩:=hb;exact ⟨q1,u',rfl,v1,q2,rfl,q3⟩
   |exit id=>exact hb.elim
   |panic pv=>intro val' hval';obtain ⟨q1,q3⟩:=hb val' hval';exact ⟨q1,u',rfl,rfl,q3⟩
  cases hrd:recoverD (c₀::cs) with
  |none=>rw [hrd] at hrv;obtain ⟨rfl,rfl⟩:=hrv;exact hnext
  |some p=>obtain ⟨v1,cs1⟩:=p;rw [hrd] at hrv;obtain ⟨rfl,rfl⟩:=hrv;exact hnext
 cases e with
 |exit id=>cases hk
 |normal=>
  obtain ⟨r,τ0,τ1,gp,hr,ht,hfin⟩:=g8 hC _ hk (St.eqv.refl τ)
  cases r with
  |out o=>
   refine ⟨o,hfin,key fun w vs N0 ν δ ο hg a' w' g' D' hd hs=> ?_⟩
   obtain ⟨v,h1,h2⟩:=qX lD hg.dom hs hr
   exact ⟨hd,v,h1,h2⟩
  |_=>cases hfin
 |ret=>
  obtain ⟨r,τ0,τ1,gp,hr,ht,hfin⟩:=g8 hC _ hk (St.eqv.refl τ)
  cases r with
  |out o=>
   refine ⟨o,hfin,key fun w vs N0 ν δ ο hg a' w' g' D' hd hs=> ?_⟩
   obtain ⟨v,h1,h2⟩:=qX lD hg.dom hs hr
   exact ⟨hd,v,h1,h2⟩
  |_=>cases hfin
 |panic v=>
  obtain ⟨r,τ0,τ1,gp,hr,ht,hfin⟩:=g8 hC _ hk (St.eqv.refl τ)
  cases r with
  |out o=>
   refine ⟨o,hfin,key fun w vs N0 ν δ ο hg a' w' g' D' hd hs val hval=> ?_⟩
   exact ⟨hd,DM lD hg.dom hs hval hr⟩
  |_=>cases hfin
end
end Go.Proofs.YtgajalidbabccaaGreatDoor.PI
namespace Go.Proofs.YtgajalidbabccaaGreatDoor.PI
open Go
set_option linter.unusedVariables false
set_option linter.unusedSimpArgs false
section
variable {U:Uni} {V:Env U} {P:Program} {X:Link V P}
def Ctx.refix (c:Ctx) (μ:Nat→Option Nat) (L:List Nat) (hnt:c.nt≤1000000) (hL: ∀id∈L,1000000≤id):Ctx:=
 {c with
  fix:=fun id=>if id∈L then μ id else c.fix id
  low:=fun id k h=>by
   split at h
   ·rename_i h1;exact ⟨hL id h1,Nat.le_trans hnt (hL id h1)⟩
   ·exact c.low id k h}
theorem Sim.refix {c:Ctx} {tm:Array Value} {w:World} {σ:St U} {g:Gh U} {D:Nat→Option Nat} (h:Sim X c tm w σ g D) {L:List Nat} {hnt:c.nt≤1000000} {hL: ∀id∈L,1000000≤id}:
  Sim X (c.refix g.μ L hnt hL) tm w σ g D where
 nt:=h.nt
 regs:=h.regs
 boxes:=h.boxes
 dom:=h.dom
 inj:=h.inj
 new:=h.new
 objs:=h.objs
 nobj:=h.nobj
 dinj:=h.dinj
 dnew:=h.dnew
 dbox:=h.dbox
 ext:=h.ext
 gl:=h.gl
 fix:=fun id k hk=>by
  simp only [Ctx.refix]
  by_cases hin:id∈L
  ·rw [if_pos hin];exact .inl hk
  ·rw [if_neg hin];exact h.fix id k hk
theorem CtxOf.refix {c:Ctx} {tm:Array Value} {w:World} {σ:St U} {g:Gh U} {D:Nat→Option Nat} (h:Sim X c tm w σ g D) {L:List Nat} {hnt:c.nt≤1000000} {hL: ∀id∈L,1000000≤id} (hLμ: ∀id∈L,∃b,g.μ id=some b)
  {w0:World} {N0:aP} {n m:Nat} {ν:Nat→Nat} {δ:Nat→Option Nat} {ο:Nat→Array Value} (hc:CtxOf c w0 N0 n m ν δ ο):CtxOf (c.refix g.μ L hnt hL) w0 N0 n m ν δ ο where
 cw:=hc.cw
 cN:=hc.cN
 bl:=hc.bl
 fix i hi:=by
  simp only [Ctx.refix]
  by_cases hin:dn i∈L
  ·rw [if_pos hin]
   obtain ⟨b,hb⟩:=hLμ _ hin
   rcases h.fix _ _ hb with h1|⟨h1,_⟩
   ·rw [hb,←h1];exact hc.fix i hi
   ·rw [hc.fix i hi] at h1;cases h1
  ·rw [if_neg hin];exact hc.fix i hi
 other id k hk:=by
  simp only [Ctx.refix] at hk
  by_cases hin:id∈L
  ·rw [if_pos hin] at hk
   rcases h.fix _ _ hk with h1|⟨_,h1⟩
   ·exact hc.other id k h1
   ·rw [hc.cw] at h1;exact .inr h1
  ·rw [if_neg hin] at hk;exact hc.other id k hk
 bnd:=hc.bnd
 oo:=hc.oo
def AC (c':Ctx) (caps:List (PV U)) (us:Array Value):Prop:=us.size=caps.length∧ ∀ (j:Nat) p,caps[j]? =some p→ ∃id off b,p= .ptr id off∧c'.fix id=some b∧us.getD j undef= .pointer (some ⟨b,off,none⟩)
def AE (X:Link V P) (S:Side U) (code:Code) (σ:St U) (h:FuncId) (caps:List (PV U)) (e:Ex U) (τ:St U):Prop:=
 ∀ (c:Ctx),PinOK S c→c.nt=S.nt→ ∀ (a:Act) (w:World) (g:Gh U) (D:Nat→Option Nat) (Q:Exit→Act→World→Prop),Sim X c a.tmps w σ g D→a.defers=[]→
  (∀ (us:Array Value) (c':Ctx),(∀w0 N0 n m ν δ ο,CtxOf c w0 N0 n m ν δ ο→CtxOf c' w0 N0 n m ν δ ο)→c'.nt=c.nt→AC c' caps us→Lands X c' [{target:= .fn (.func h) us,args:= #[]}] e τ Q)→code.wp P Q a w
theorem Wh {l:List Oper} {o:Oper} {n:Tmp} (h:Cc l=some (o,n)): ∃q cl,l=[o,q]∧o.dst=some n∧o.guard=none∧q.dst=none∧q.op= .defer cl∧q.guard=none∧cl.callee= .value (.tmp n)∧cl.args= #[]:=by
 unfold Cc at h
 split at h
 case h_2=>cases h
 rename_i o' q
 split at h
 case h_2=>cases h
 rename_i m cl h1 h2 h3 h4 h5
 split at h
 case h_2=>cases h
 rename_i n' hcl
 cases hb:(Nat.beq m n'&&cl.args.isEmpty) with
 |false=>rw [hb] at h;cases h
 |true=>
 rw [hb] at h
 injection h with h
 injection h with e1 e2
 subst e1;subst e2
 simp only [Bool.and_eq_true] at hb
 have hmn:m=n':=by simpa using hb.1
 subst hmn
 exact ⟨q,cl,rfl,h1,h2,h3,h4,h5,hcl,by simpa using hb.2⟩
theorem aeN (hm:P.follows .mixedOrders=true) (hI:lH X) {S:Side U} (hS:S.rcv=none) (hlow:S.nt≤1000000) {R:Type} {C:Oracle U R} (hC:C.Tells (cx X)) {ann:Nat→Option Ann} {fuel:Nat}:
  ∀ (code:Code) {σ:St U} {κ0:Ex U→St U→Option R} {κ1:FuncId→List (PV U)→Ex U→St U→Option R} {x:R},oy V S C ann fuel code σ κ0 κ1=some x→
   (∃e τ,e≠ .normal∧κ0 e τ=some x∧ ∀c,PinOK S c→c.nt=S.nt→vn X c none code σ e τ)∨
   (∃h caps e τ,κ1 h caps e τ=some x∧AE X S code σ h caps e τ):=by
 intro code
 induction code with
 |seq a b iha ihb=>
  intro σ κ0 κ1 x h
  have step:run V S C ann fuel a σ (fun| .normal,σ'=>oy V S C ann fuel b σ' κ0 κ1|e,σ'=>κ0 e σ')=some x→
    (∃e τ,e≠ .normal∧κ0 e τ=some x∧ ∀c,PinOK S c→c.nt=S.nt→vn X c none (.seq a b) σ e τ)∨
    (∃h caps e τ,κ1 h caps e τ=some x∧AE X S (.seq a b) σ h caps e τ):=by
   intro h
   obtain ⟨e,τ,hbig,hk⟩:=z8 (cx X) V S ann hC fuel a h
   have early:e≠ .normal→κ0 e τ=some x→_:=fun he hk=>(.inl ⟨e,τ,he,hk,fun c hP hnt=>oQ hm (oi hI hS hP) hnt (.seqE a b _ _ _ hbig he)⟩:
    (∃e τ,e≠ .normal∧κ0 e τ=some x∧ ∀c,PinOK S c→c.nt=S.nt→vn X c none (.seq a b) σ e τ)∨(∃h caps e τ,κ1 h caps e τ=some x∧AE X S (.seq a b) σ h caps e τ))
   cases e with
   |normal=>
    rcases ihb hk with ⟨e',τ',he',hk',hB⟩|⟨hh,caps,e',τ',hk',hB⟩
    ·exact .inl ⟨e',τ',he',hk',fun c hP hnt a' w g D Q hs hl=>wp_seq (oQ hm (oi hI hS hP) hnt hbig a' w g D _ hs fun a2 w2 g2 D2 hd2 hs2=>hB c hP hnt a2 w2 g2 D2 Q hs2 (by rw [hd2];exact hl))⟩
    ·exact .inr ⟨hh,caps,e',τ',hk',fun c hP hnt a' w g D Q hs hd hl=>wp_seq (oQ hm (oi hI hS hP) hnt hbig a' w g D _ hs fun a2 w2 g2 D2 hd2 hs2=>hB c hP hnt a2 w2 g2 D2 Q hs2 (hd2.trans hd) hl)⟩
   |exit id=>exact early (by simp) hk
   |ret=>exact early (by simp) hk
   |panic v=>exact early (by simp) hk
  clear iha
  unfold oy at h
  split at h
  case h_2=>exact step h
  rename_i id ops draw
  split at h
  case h_2=>exact step h
  rename_i o n hdfr
  obtain ⟨q,cl,hops,ho1,ho2,hq1,hq2,hq3,hcl,hargs⟩:=Wh hdfr
  cases hc:(!draw&&bK S.nt o) with
  |false=>rw [hc] at h;cases h
  |true=>
  rw [hc] at h
  simp only [cond_true] at h
  simp only [Bool.and_eq_true,Bool.not_eq_true'] at hc
  obtain ⟨hdraw,hdo⟩:=hc
  subst hdraw
  obtain ⟨r,τ0,τ,gp,hrel,ht,hk⟩:=g8 hC _ h (St.eqv.refl σ)
  cases r with
  |raise v=>cases hk
  |out o=>cases hk
  |done=>
  simp only at hk
  split at hk
  case h_2=>cases hk
  rename_i hh caps hfun
  cases hp:caps.all PV.pinned with
  |false=>rw [hp] at hk;cases hk
  |true=>
  rw [hp] at hk
  simp only [cond_true] at hk
  obtain ⟨e,τ2,hbig,hk2⟩:=z8 (cx X) V {S with pin:=fun _=>false} ann hC fuel b hk
  refine .inr ⟨hh,caps,e,τ2,hk2,fun c hP hnt a w g D Q hs hdef hl=>wp_seq (wp_region ?_)⟩
  have hsz:ops.size=2:=by have:=congrArg List.length hops;simpa using this
  have h0:ops[0]? =some o:=by rw [←Array.getElem?_toList,hops];rfl
  have h1:ops[1]? =some q:=by rw [←Array.getElem?_toList,hops];rfl
  rw [hsz,show List.range 2=[0,1] from rfl]
  simp only [wpOps,h0,h1]
  rw [if_pos (by simp [Region.wanted,ho2])]
  refine .inl (oi hI hS hP o a w σ g D .done τ0 [] gp _ _ (by rw [hnt];exact hdo) hs hrel ⟨fun _ a2 w2 g2 D2 hd2 hs2=> ?_,fun v hv=>by cases hv⟩)
  rw [if_pos (by simp [Region.wanted,hq3])]
  refine .inl ?_
  have hs3:=hs2.eqv ht
  have hR:=hs3.regs n
  rw [hfun] at hR
  generalize hev:a2.tmps.getD n undef=ev at hR
  cases hR with
  |func _ _ _ vs us hvs hus hf1 hf2=>
  have hvs0:vs= #[]:=by
   have:vs.size=0:=by simpa using hvs
   exact Array.eq_empty_of_size_eq_zero this
  subst hvs0
  obtain ⟨qd,qo,qt,qp,qa,qg⟩:=q
  simp only at hq1 hq2 hq3
  subst hq1;subst hq2;subst hq3
  have hrun:(execOp a2.eval ⟨none,.defer cl,qt,qp,qa,none⟩).run P w2= .ok (.defer {target:= .fn (.func hh) us,args:= #[]}) w2:=by
   have hev':a2.eval (.tmp n)= .func (.func hh) #[] us:=hev
   simp [execOp,resolve,hcl,hargs,hev',Deferred.ofValue]
  unfold Oper.wp
  rw [hrun,Oper.upon_defer]
  have hids: ∀id∈PV.idsL caps,1000000≤id∧ ∃b,g2.μ id=some b:=by
   intro id hid
   obtain ⟨p,hpm,hpi⟩: ∃p∈caps,id∈p.ids:=by
    clear hl hk2 hbig hk hf1 hf2 hus hfun hp h step
    induction caps with
    |nil=>cases hid
    |cons p caps ih=>
     simp only [PV.idsL,List.mem_append] at hid
     rcases hid with hid|hid
     ·exact ⟨p,by simp,hid⟩
     ·obtain ⟨q,hq,hqi⟩:=ih hid;exact ⟨q,by simp [hq],hqi⟩
   have hpp:=List.all_eq_true.1 hp p hpm
   obtain ⟨j,hj⟩:=List.mem_iff_getElem?.1 hpm
   have hr:=hf2 j p hj
   cases p with
   |ptr id' off=>
    simp only [PV.ids,List.mem_singleton] at hpi
    subst hpi
    refine ⟨by simpa [PV.pinned] using hpp, ?_⟩
    generalize us.getD j undef=uv at hr
    cases hr with
    |ptr _ _ b hb=>exact ⟨b,hb⟩
   |_=>cases hpp
  have hcnt:c.nt≤1000000:=by rw [hnt];exact hlow
  refine oQ (S:={S with pin:=fun _=>false}) hm (oi hI hS fun d hd=>by cases hd) (c:=c.refix g2.μ (PV.idsL caps) hcnt fun id hid=>(hids id hid).1) hnt hbig _ w2 g2 D2 Q hs3.refix ?_
  have hld:=hl us (c.refix g2.μ (PV.idsL caps) hcnt fun id hid=>(hids id hid).1) (fun w0 N0 n m ν δ ο hc=>CtxOf.refix hs3 (fun id hid=>(hids id hid).2) hc) rfl ⟨hus,fun j p hj=> ?_⟩
  ·have hd3:((Act.put {a2 with defers:={target:= .fn (.func hh) us,args:= #[]}::a2.defers} none undef).defers)=[{target:= .fn (.func hh) us,args:= #[]}]:=by
    have:a2.defers=[]:=hd2.trans hdef
    simp [Act.put,this]
   rw [hd3];exact hld
  ·have hpp:=List.all_eq_true.1 hp p (List.mem_of_getElem? hj)
   have hr:=hf2 j p hj
   cases p with
   |ptr id off=>
    have hin:id∈PV.idsL caps:=fR hj id (by simp [PV.ids])
    generalize us.getD j undef=uv at hr
    cases hr with
    |ptr _ _ b hb=>exact ⟨id,off,b,rfl,by simp only [Ctx.refix];rw [if_pos hin];exact hb,rfl⟩
   |_=>cases hpp
 |_=>intro σ κ0 κ1 x h;cases h
end
end Go.Proofs.YtgajalidbabccaaGreatDoor.PI
namespace Go.Proofs.YtgajalidbabccaaGreatDoor.PI
open Go
set_option linter.unusedVariables false
set_option linter.unusedSimpArgs false
section
variable {U:Uni} {V:Env U} {P:Program} {X:Link V P}
theorem C6 {fn:Func} {w0:World} {N0:aP} {n m:Nat} {ν:Nat→Nat} {δ:Nat→Option Nat} {c':Ctx} {ο:Nat→Array Value} (hc:CtxOf c' w0 N0 n m ν δ ο) (hdom: ∀j b,δ j=some b→j<m) {v:PV U} {u u':FrameMode} (hv:RcvOK v u u')
  {hh:FuncId} {caps:List (PV U)} {us:Array Value} (hct:AC c' caps us) {τ τ1:St U} {r:MR U} {τ0:St U} {gp gp':List Loc} {K:cz U} {keep:Bool} {hand:List Bool} {out:Out U} {τ2:St U}
  (hrel:(iW (PV.idsL caps) fun _=>jE (fun _=>0) (fun _=>[]) [] none (.func hh [] caps) []).Rel (jC X (kB P u u')) τ [] r τ0 gp) (hr:r= .done) (ht:τ0.eqv τ1) (hret:(kf V keep hand fn.results.toList n).Rel K τ1 [] (.out out) τ2 gp')
  {a:Act} {w:World} {g:Gh U} {D:Nat→Option Nat} (hs:Sim X c' a.tmps w τ g D):
  Leaves P fn a.tmps (Ret X w0 N0 ν δ ο n m out) [{target:= .fn (.func hh) us,args:= #[]}] u w:=by
 obtain ⟨bs,fp1,hrel1,hkeys,hbs⟩:=CD _ hrel
 have hR:Rep X w (c'.N g D) g (.func (.func hh) #[] us) (.func hh [] caps):=by
  refine .func hh [] caps #[] us rfl hct.1 (by simp) fun j p hp=> ?_
  obtain ⟨id,off,b,rfl,hfix,hus⟩:=hct.2 j p hp
  rw [hus]
  refine .ptr id off b ?_
  have hin:id∈PV.idsL caps:=fR hp id (by simp [PV.ids])
  rw [←hkeys] at hin
  obtain ⟨x,hx,rfl⟩:=List.mem_map.1 hin
  obtain ⟨k,hk,_⟩:=hs.boxes x.1 x.2 (hbs x hx)
  rcases hs.fix _ _ hk with h1|⟨h1,_⟩
  ·rw [hfix] at h1;injection h1 with h1;rw [h1];exact hk
  ·rw [hfix] at h1;cases h1
 obtain ⟨f,a0s,bs',hfv,⟨fnh,hfh,hnameh,hbodyh⟩,hcall⟩:=GW (X:=X) (c:=c') (a:=a) (dst:=none) (o:=⟨none,.move (.const undef),0, "",#[],none⟩) (CP:=kB P u u') (xs:= #[])
  (next:=fun a2 w2=>Leaves P fn a2.tmps (Ret X w0 N0 ν δ ο n m out) [] .returning w2) (Q:=fun _ _ _=>False)
  (fun {f vs w R R'} h hm=>CallsD.mono h fun e u2 w2 ⟨h1,h2⟩=>⟨h1,hm e w2 h2⟩) hs hR rfl (by simp) rfl rfl hrel1
  ⟨fun _ a2 w2 g2 D2 _ hs2=>by
   obtain ⟨v,h1,h2⟩:=qX hc hdom (hs2.eqv ht) hret
   exact ⟨v,h1,h2⟩,fun v hv=>by rw [hr] at hv;cases hv⟩
 injection hfv with e1 e2 e3
 injection e1 with e1
 subst e1;subst e2;subst e3
 have hun:u≠ .run:=by cases hv<;>simp
 refine leaves_cons hun (f:=hh) (args:= #[]++us) (by simp only [invoke];exact Nl hfh hnameh hbodyh _ w) ?_
 have hcall2:CallsD P hh (#[]++us) u w fun e u2 w'=>u2=u'∧(match e,w' with
    | .returned v,w''=>Leaves P fn (a.put none v).tmps (Ret X w0 N0 ν δ ο n m out) [] .returning w''
    | .panicked chain,w''=>False
    | .outgrown,_=>LetsOut (fun _ _ _=>False)):=by
  have:=hcall
  simp only [Array.append_empty] at this
  exact this.mono fun e u2 w2 ⟨h1,h2⟩=>⟨h1,by cases e<;>exact h2⟩
 refine hcall2.mono fun e u2 w2 ⟨h1,h2⟩=> ?_
 subst h1
 cases e with
 |returned rv=>
  simp only [Act.put] at h2
  have hset:settle u2= .returning:=by cases hv<;>rfl
  simp only [hset]
  exact h2
 |panicked chain=>exact h2.elim
 |outgrown=>obtain ⟨_,_,h⟩:=h2;exact h.elim
theorem aeM (hm:P.follows .mixedOrders=true) (hI:lH X) {S:Side U} (hS:S.rcv=none) {R:Type} {C:Oracle U R} (hC:C.Tells (cx X)) {Cd:PV U→Oracle U R} (hCd: ∀v u u',RcvOK v u u'→(Cd v).Tells (jC X (kB P u u')))
  {f:FuncId} {fn:Func} (hf:P.funcs[f]? =some fn)
  (hname:(fn.name== "runtime.NumGoroutine")=false) (hbody:fn.body.isNone=false) (hnt:fn.ntmps=S.nt) (hlow:S.nt≤1000000) {args:List (PV U)} {boxes:List (Box U)} (hargs:args.length≤S.nt) (hboxes:boxes.length≤1000000)
  {ann:Nat→Option Ann} {fuel:Nat} {keep:Bool} {hand:List Bool} {κ:Out U→Option R} {x:R} (h:Ey V S C ann fuel Cd keep hand fn args boxes κ=some x): ∃out,κ out=some x∧cx X f args boxes out:=by
 obtain ⟨code,hcode⟩: ∃code,fn.body=some code:=by
  cases hb:fn.body with
  |none=>rw [hb] at hbody;cases hbody
  |some code=>exact ⟨code,rfl⟩
 unfold Ey g7 at h
 rw [hcode] at h
 have hpin: ∀ {w:World} {vs:Array Value} {N0:aP} {ν:Nat→Nat} {δ:Nat→Option Nat} {ο:Nat→Array Value} (hg:Given X w vs N0 ν δ ο args boxes),PinOK S (gY w N0 boxes.length args.length ν δ ο hg.oz S.nt hlow hg.bnd X.gblk hg.glob):=by
  intro w vs N0 ν δ ο hg d _
  simp only [gY]
  rw [if_neg (by omega)]
 rcases aeN (X:=X) hm hI hS hlow hC code h with ⟨e,τ,he,hk,hB⟩|⟨hh,caps,e,τ,hk,hB⟩
 ·have key: ∀ {out:Out U},(∀ (w:World) (vs:Array Value) (N0:aP) (ν:Nat→Nat) (δ:Nat→Option Nat) (ο:Nat→Array Value) (hg:Given X w vs N0 ν δ ο args boxes),
    Lands X (gY w N0 boxes.length args.length ν δ ο hg.oz S.nt hlow hg.bnd X.gblk hg.glob) [] e τ (bodyPost P fn (Ret X w N0 ν δ ο boxes.length args.length out)))→cx X f args boxes out:=by
   intro out hl
   refine ⟨⟨fn,hf,hname,hbody⟩,fun w vs N0 ν δ ο hg=>Calls.mono (calls_of_wp (R:=Ret X w N0 ν δ ο boxes.length args.length out) hf hcode ?_) fun e w h=>Ret.full h⟩
   have hs:=Af hg hargs hlow
   rw [hnt]
   exact hB _ (hpin hg) rfl _ w _ _ _ hs (hl w vs N0 ν δ ο hg)
  cases e with
  |exit id=>cases hk
  |normal=>exact absurd rfl he
  |ret=>
   obtain ⟨r,τ0,τ1,gp,hr,ht,hfin⟩:=g8 hC _ hk (St.eqv.refl τ)
   cases r with
   |out o=>
    refine ⟨o,hfin,key fun w vs N0 ν δ ο hg a' w' g' D' hd hs=> ?_⟩
    obtain ⟨v,h1,h2⟩:=qX lD hg.dom hs hr
    exact ⟨hd,v,h1,h2⟩
   |_=>cases hfin
  |panic v=>
   obtain ⟨r,τ0,τ1,gp,hr,ht,hfin⟩:=g8 hC _ hk (St.eqv.refl τ)
   cases r with
   |out o=>
    refine ⟨o,hfin,key fun w vs N0 ν δ ο hg a' w' g' D' hd hs val hval=> ?_⟩
    exact ⟨hd,DM lD hg.dom hs hval hr⟩
   |_=>cases hfin
 ·have key: ∀ {out:Out U},(∀ (w:World) (vs:Array Value) (N0:aP) (ν:Nat→Nat) (δ:Nat→Option Nat) (ο:Nat→Array Value) (hg:Given X w vs N0 ν δ ο args boxes) (us:Array Value) (c':Ctx),CtxOf c' w N0 boxes.length args.length ν δ ο→AC c' caps us→
    Lands X c' [{target:= .fn (.func hh) us,args:= #[]}] e τ (bodyPostD P fn (Ret X w N0 ν δ ο boxes.length args.length out)))→cx X f args boxes out:=by
   intro out hl
   refine ⟨⟨fn,hf,hname,hbody⟩,fun w vs N0 ν δ ο hg=>Calls.mono (calls_of_wp_defers (R:=Ret X w N0 ν δ ο boxes.length args.length out) hf hcode ?_) fun e w h=>Ret.full h⟩
   have hs:=Af hg hargs hlow
   rw [hnt]
   exact hB _ (hpin hg) rfl _ w _ _ _ hs rfl fun us c' hcx _ hct=>hl w vs N0 ν δ ο hg us c' (hcx _ _ _ _ _ _ _ lD) hct
  have fin: ∀ {v:PV U} {u u':FrameMode},RcvOK v u u'→(iW (PV.idsL caps) fun _=>jE (fun _=>0) (fun _=>[]) [] none (.func hh [] caps) []).cps (Cd v) τ [] (fun| .done,σ',_=>(kf V keep hand fn.results.toList boxes.length).cps C σ' [] (Go.Proofs.YtgajalidbabccaaGreatDoor.PI.fin κ)|_,_,_=>none)=some x→
    ∃ (out:Out U) (r:MR U) (τ0 τ1 τ2:St U) (gp gp':List Loc),κ out=some x∧(iW (PV.idsL caps) fun _=>jE (fun _=>0) (fun _=>[]) [] none (.func hh [] caps) []).Rel (jC X (kB P u u')) τ [] r τ0 gp∧r= .done∧τ0.eqv τ1∧(kf V keep hand fn.results.toList boxes.length).Rel (cx X) τ1 [] (.out out) τ2 gp':=by
   intro v u u' hv hk
   obtain ⟨r,τ0,τ1,gp,hr,ht,hk1⟩:=g8 (hCd v u u' hv) _ hk (St.eqv.refl τ)
   cases r with
   |raise v=>cases hk1
   |out o=>cases hk1
   |done=>
    obtain ⟨r',τ2,τ3,gp',hr',ht',hk2⟩:=g8 hC _ hk1 (St.eqv.refl τ1)
    cases r' with
    |out o=>exact ⟨o,.done,τ0,τ1,τ2,gp,gp',hk2,hr,rfl,ht,hr'⟩
    |_=>cases hk2
  cases e with
  |exit id=>cases hk
  |normal=>
   obtain ⟨out,r,τ0,τ1,τ2,gp,gp',h1,h2,h3,h4,h5⟩:=fin .nil hk
   refine ⟨out,h1,key fun w vs N0 ν δ ο hg us c' hcx hct a' w' g' D' hd hs=> ?_⟩
   simp only [bodyPostD,hd]
   exact C6 hcx hg.dom .nil hct h2 h3 h4 h5 hs
  |ret=>
   obtain ⟨out,r,τ0,τ1,τ2,gp,gp',h1,h2,h3,h4,h5⟩:=fin .nil hk
   refine ⟨out,h1,key fun w vs N0 ν δ ο hg us c' hcx hct a' w' g' D' hd hs=> ?_⟩
   simp only [bodyPostD,hd]
   exact C6 hcx hg.dom .nil hct h2 h3 h4 h5 hs
  |panic v=>
   simp only [kD] at hk
   split at hk
   case h_2=>cases hk
   rename_i t k n'
   obtain ⟨out,r,τ0,τ1,τ2,gp,gp',h1,h2,h3,h4,h5⟩:=fin (.err t k n') hk
   refine ⟨out,h1,key fun w vs N0 ν δ ο hg us c' hcx hct a' w' g' D' hd hs val hval=> ?_⟩
   simp only [bodyPostD,hd]
   cases hval with
   |iface _ u _ hu=>cases hu;exact C6 hcx hg.dom (.err t k n') hct h2 h3 h4 h5 hs
end
end Go.Proofs.YtgajalidbabccaaGreatDoor.PI
namespace Go.Proofs.YtgajalidbabccaaGreatDoor
open Go PI
set_option linter.unusedVariables false
set_option maxRecDepth 100000
noncomputable section
noncomputable def tt:ET→TypeId
 | .C=>53
 | .T=>26
 | .B=>48
 | .I=>3
 | .F=>22
noncomputable def px:ET→Nat
 | .C=>2
 | .T=>6
 | .B=>2
 | .I=>1
 | .F=>1
noncomputable def yy:ET→Nat
 | .C=>8
 | .T=>104
 | .B=>48
 | .I=>8
 | .F=>24
noncomputable def yJ (e:ET):Value:=((Tryz.prog.info? (tt e)).bind (·.zero)).getD undef
noncomputable def Ct (e:ET):Bool:=match Tryz.prog.info? (tt e) with
 |some i=>i.zero.isSome&&(Nat.beq i.size (px e)&&Nat.beq i.bytes (yy e))&&Nat.beq (yJ e).cells.size (px e)
 | .none=>false
theorem HO (e:ET):Ct e=true:=by cases e<;>kernel_rfl
theorem Qh: ∀t r,vh t=some r→Gv Tryz.prog tt t r=true:=by
 intro t r h
 unfold vh at h
 split at h<;>first|(injection h with h;subst h;kernel_rfl)|cases h
theorem aas: ∀t r e,vh t=some r→r.keys=some e→e= .C:=by
 intro t r e h hk
 unfold vh at h
 split at h<;>first|(injection h with h;subst h;cases hk;done)|(injection h with h;subst h;injection hk with hk;exact hk.symm)|cases h
theorem ag6: ∀e cs y,Qf e cs=some y→cs.length=px e∧cs.all PV.isCell=true∧ ∀ (k:Nat) p,cs[k]? =some p→ ∃q,(dS e y)[k]? =some q∧p.less q:=by
 have hC: ∀ {p:PU} {l},rG p=some l→ ∃o,p= .sl (U:=UU) ET.C l o:=by
  intro p l h;unfold rG at h;split at h<;>first|(injection h with h;subst h;exact ⟨_,rfl⟩)|cases h
 have hT: ∀ {p:PU} {l},vz p=some l→ ∃o,p= .sl (U:=UU) ET.T l o:=by
  intro p l h;unfold vz at h;split at h<;>first|(injection h with h;subst h;exact ⟨_,rfl⟩)|cases h
 have hB: ∀ {p:PU} {l},Bh p=some l→ ∃o,p= .sl (U:=UU) ET.B l o:=by
  intro p l h;unfold Bh at h;split at h<;>first|(injection h with h;subst h;exact ⟨_,rfl⟩)|cases h
 intro e cs y h
 cases e
 ·have h:Gr cs=some y:=h
  unfold Gr at h
  split at h
  case h_2=>cases h
  injection h with h;subst h
  refine ⟨rfl,rfl,fun k p hp=> ?_⟩
  match k,hp with
  |0,hp=>exact ⟨_,rfl,.inl (Option.some.inj hp).symm⟩
  |1,hp=>exact ⟨_,rfl,.inl (Option.some.inj hp).symm⟩
  |k+2,hp=>simp at hp
 ·have h:Gu cs=some y:=h
  unfold Gu at h
  split at h
  case h_2=>cases h
  split at h
  case h_2=>cases h
  rename_i h1 h2 h3
  injection h with h;subst h
  obtain ⟨o1,rfl⟩:=hC h1;obtain ⟨o2,rfl⟩:=hT h2;obtain ⟨o3,rfl⟩:=hB h3
  refine ⟨rfl,rfl,fun k p hp=> ?_⟩
  match k,hp with
  |0,hp=>exact ⟨_,rfl,.inl (Option.some.inj hp).symm⟩
  |1,hp=>exact ⟨_,rfl,.inl (Option.some.inj hp).symm⟩
  |2,hp=>exact ⟨_,rfl,.inl (Option.some.inj hp).symm⟩
  |3,hp=>exact ⟨_,rfl,.inr ⟨_,_,_,(Option.some.inj hp).symm,rfl⟩⟩
  |4,hp=>exact ⟨_,rfl,.inr ⟨_,_,_,(Option.some.inj hp).symm,rfl⟩⟩
  |5,hp=>exact ⟨_,rfl,.inr ⟨_,_,_,(Option.some.inj hp).symm,rfl⟩⟩
  |k+6,hp=>simp at hp
 ·have h:Gq cs=some y:=h
  unfold Gq at h
  split at h
  case h_2=>cases h
  split at h
  case h_2=>cases h
  rename_i h1 h2
  injection h with h;subst h
  obtain ⟨o1,rfl⟩:=hC h1;obtain ⟨o2,rfl⟩:=hT h2
  refine ⟨rfl,rfl,fun k p hp=> ?_⟩
  match k,hp with
  |0,hp=>exact ⟨_,rfl,.inr ⟨_,_,_,(Option.some.inj hp).symm,rfl⟩⟩
  |1,hp=>exact ⟨_,rfl,.inr ⟨_,_,_,(Option.some.inj hp).symm,rfl⟩⟩
  |k+2,hp=>simp at hp
 ·have h:Gt cs=some y:=h
  unfold Gt at h
  split at h
  case h_2=>cases h
  injection h with h;subst h
  refine ⟨rfl,rfl,fun k p hp=> ?_⟩
  match k,hp with
  |0,hp=>exact ⟨_,rfl,.inl (Option.some.inj hp).symm⟩
  |k+1,hp=>simp at hp
 ·have h:Gs cs=some y:=h
  unfold Gs at h
  split at h
  case h_2=>cases h
  obtain ⟨o1,rfl⟩:=hC h
  refine ⟨rfl,rfl,fun k p hp=> ?_⟩
  match k,hp with
  |0,hp=>exact ⟨_,rfl,.inr ⟨_,_,_,(Option.some.inj hp).symm,rfl⟩⟩
  |k+1,hp=>simp at hp
theorem Yp (e:ET): ∃i,Tryz.prog.info? (tt e)=some i∧i.zero=some (yJ e)∧i.size=px e∧i.bytes=yy e:=by
 have h:=HO e
 unfold Ct at h
 split at h
 ·rename_i i hi
  simp only [Bool.and_eq_true] at h
  obtain ⟨⟨h1,h2,h3⟩,h4⟩:=h
  refine ⟨i,hi, ?_,by simpa using h2,by simpa using h3⟩
  unfold yJ
  rw [hi]
  obtain ⟨z,hz⟩:=Option.isSome_iff_exists.1 h1
  simp [hz]
 ·cases h
noncomputable def LL (o:Obj):Link VV Tryz.prog where
 gblk:=[(0,o)]
 etid:=tt
 esize:=px
 ebytes:=yy
 ezero:=yJ
 einfo:=Yp
 zsize:=fun e=>by
  have h:=HO e
  unfold Ct at h
  split at h
  ·simp only [Bool.and_eq_true] at h
   exact by simpa using h.2
  ·cases h
 epos:=fun e=>by cases e<;>decide
 broom:=fun e n h=>by
  have h':n≤1099511627776:=h
  cases e<;>simp only [yy,maxLen]<;>omega
 len:=fun e x=>by cases e<;>rfl
 small:=fun e=>by cases e<;>decide
 ecell':=fun e x=>by cases e<;>rfl
 toEl:=ag6
 ty:=fun t r h=>Qg (Qh t r h)
 keyT:=fun t r e h hk=>by
  have he:=aas t r e h hk
  subst he
  obtain ⟨fs,h1,h2,_,h4,h5⟩:=(Qg (Qh 53 _ rfl)).isInts rfl
  exact ⟨⟨fs,h1,h2,h4,h5⟩,fun x y=>⟨_,by simp only [VV,dS,PV.eqvI];rfl⟩⟩
theorem zf:Tryz.prog.follows .mixedOrders=true:=by kernel_rfl
theorem sw {A B:Out UU→Prop} (h: ∃out,A out∧B out): ∃out,B out∧A out:=by obtain ⟨o,a,b⟩:=h;exact ⟨o,b,a⟩
theorem Vp {S:Type} {b:Bool} {x y:Option S} {v:S} (h:(bif b then x else y)=some v):x=some v∨y=some v:=by
 cases b
 ·exact .inr h
 ·exact .inl h
end
end Go.Proofs.YtgajalidbabccaaGreatDoor
namespace Go.Proofs.YtgajalidbabccaaGreatDoor
open Go PI
set_option linter.unusedVariables false
def U32 (s:Int):Prop:=0≤s∧s<4294967296
theorem U32.nat {s:Int} (h:U32 s): ∃n:Nat,n<4294967296∧s=n:=⟨s.toNat,by have:=h.1;have:=h.2;omega,by have:=h.1;omega⟩
theorem oR {n:Nat} (h:n<4294967296):(BitVec.ofInt 32 (n:Int)).toNat=n:=by
 grind
theorem mY (n:Nat) (h:n<4294967296):IntKind.wrap .u32 (n:Int)=n:=by
 grind [IntKind.wrap,IntKind.bits,IntKind.signed]
theorem jB (n:Nat) (h:n<18446744073709551616):IntKind.wrap .u64 (n:Int)=n:=by
 grind [IntKind.wrap,IntKind.bits,IntKind.signed]
theorem QN {n:Int} (h1: -9223372036854775808≤n) (h2:n<9223372036854775808):IntKind.wrap .i64 n=n:=by
 grind [IntKind.wrap,IntKind.bits,IntKind.signed]
theorem vw {a b n:Nat} (h:a<2^n):a&&&b<2^n:=Nat.lt_of_le_of_lt Nat.and_le_left h
theorem lK {a b:Nat} (ha:a<4294967296) (hb:b<4294967296):bG .and .u32 (a:Int) (b:Int)=((a&&&b:Nat):Int):=by
 have h1:=oR ha;have h2:=oR hb
 simp only [bG]
 show IntKind.wrap .u32 (((BitVec.ofInt 32 (a:Int))&&&(BitVec.ofInt 32 (b:Int))).toNat:Int)=_
 rw [BitVec.toNat_and,h1,h2]
 exact mY _ (vw (n:=32) ha)
theorem vB {a b:Nat} (ha:a<4294967296) (hb:b<4294967296):bG .or .u32 (a:Int) (b:Int)=((a|||b:Nat):Int):=by
 have h1:=oR ha;have h2:=oR hb
 simp only [bG]
 show IntKind.wrap .u32 (((BitVec.ofInt 32 (a:Int))|||(BitVec.ofInt 32 (b:Int))).toNat:Int)=_
 rw [BitVec.toNat_or,h1,h2]
 exact mY _ (Nat.or_lt_two_pow (n:=32) ha hb)
def ln (a b:Nat):Nat:=a^^^(a&&&b)
theorem qF (a b i:Nat):(ln a b).testBit i=(a.testBit i&& !b.testBit i):=by
 grind [ln]
theorem DB {a b n:Nat} (h:a<2^n):ln a b<2^n:=Nat.xor_lt_two_pow h (vw h)
theorem Bj {a b:Nat} (ha:a<4294967296) (hb:b<4294967296):bG .andNot .u32 (a:Int) (b:Int)=((ln a b:Nat):Int):=by
 have h1:=oR ha;have h2:=oR hb
 simp only [bG]
 show IntKind.wrap .u32 (((BitVec.ofInt 32 (a:Int))&&& ~~~(BitVec.ofInt 32 (b:Int))).toNat:Int)=_
 have e:((BitVec.ofInt 32 (a:Int))&&& ~~~(BitVec.ofInt 32 (b:Int))).toNat=ln a b:=by
  apply Nat.eq_of_testBit_eq
  intro i
  rw [qF,BitVec.toNat_and,Nat.testBit_and,h1]
  by_cases hi:i<32
  ·grind
  ·have:a.testBit i=false:=Nat.testBit_lt_two_pow (Nat.lt_of_lt_of_le ha (by exact Nat.pow_le_pow_right (n:=2) (by decide) (show 32≤i by omega)))
   grind
 rw [e]
 exact mY _ (DB (n:=32) ha)
theorem cM {α:Type} (p:Prop) [Decidable p] (x y:α):ab (decide p) x y=if p then x else y:=by
 grind [al,af]
theorem gr {α:Type} (c:Bool) (x y:α):ab c x y=if c=true then x else y:=by
 grind [af,al]
abbrev Fu (k:Nat):Prop:=4294967296≤k
theorem ap {R S:Type} {k:Nat} (h:Fu k) (f:(R→Option S)→Option S) (g:R→Option S):aa k f g=f g:=GY (by omega) f g
theorem bL {S:Type} {n m:Nat} (h:n+m≤1099511627776) (f:Unit→Option S):Option.bind (aX 1099511627776 n m) f=f ():=by
 grind [aX]
theorem aV {α:Type} {l p r:List α} {x:α} (h:l=p++x::r) (hl:l.length<4611686018427387904):
  decide ((p.length:Int)<(l.length:Int))=true∧aq l (p.length:Int)=some x∧IntKind.wrap .i64 ((p.length:Int)+1)=((p++[x]).length:Int)∧l=(p++[x])++r:=by
 subst h
 rw [List.length_append,List.length_cons] at hl
 refine ⟨decide_eq_true (by grind), ?_, ?_,by simp⟩
 all_goals grind [aq,IntKind.wrap,IntKind.bits]
theorem cD {α:Type} {l p:List α} (h:l=p++[]):decide ((p.length:Int)<(l.length:Int))=false:=by
 grind
theorem av {n m:Nat} (h:n<m): ∃q,m=q+1∧n≤q:=⟨m-1,by omega,by omega⟩
theorem kK {S:Type} (p:Prop) [Decidable p] (h:p) (f:Unit→Option S):Option.bind (da p) f=f ():=by simp [da,h]
theorem Ib {α:Type} (l:List α) (i:Nat):aq l (i:Int)=l[i]? :=by rfl
end Go.Proofs.YtgajalidbabccaaGreatDoor
namespace Go.Proofs.YtgajalidbabccaaGreatDoor
open Go PI
set_option linter.unusedVariables false
set_option maxRecDepth 100000
noncomputable section
abbrev iG (S:Type):=Tm→Int→(Int→Option S)→Option S
def wz {S:Type} (hd:iG S) (k:Nat) (ret:Int→Option S) (t:Tm) (most i7:Int) (rec1:Int→Int→Option S) (rec2:Int→Int→Option S) (v5'' v8:Int):Option S:=
 Option.bind (aq t.sys i7) fun x5=>
 ab (decide ((v8:Int)<(x5.kids.length:Int))) (
 ab (decide ((v5'':Int)≤most)) (
  Option.bind (aq t.sys i7) fun x6=>
  Option.bind (aq x6.kids v8) fun x7=>
  hd (ac x7) (IntKind.wrap .i64 (most-v5'')) fun r8=>
   rec2 (IntKind.wrap .i64 (v5''+r8)) (IntKind.wrap .i64 (v8+1))) (
   rec1 v5'' (IntKind.wrap .i64 (i7+1)))) (
  rec1 v5'' (IntKind.wrap .i64 (i7+1)))
noncomputable def lf {S:Type} (hd:iG S) (k:Nat) (ret:Int→Option S) (rec1:Int→Int→Option S) (t:Tm) (most i7:Int):Nat→Int→Int→Option S
 |0=>fun _ _=> .none
 |m+1=>fun v5'' v8=>wz hd k ret t most i7 rec1 (lf hd k ret rec1 t most i7 m) v5'' v8
def rV {S:Type} (hd:iG S) (k:Nat) (ret:Int→Option S) (t:Tm) (most:Int) (J2:Int→Int→Int→Option S) (rec1:Int→Int→Option S) (v5' i7:Int):Option S:=
 ab (decide ((i7:Int)<(t.sys.length:Int))) (
 ab (decide ((v5':Int)≤most)) (
  Option.bind (aq t.sys i7) fun x3=>
  ab (decide (((x3.face.length:Int):Int)>most)) (
  ret (IntKind.wrap .i64 (most+1))) (
  Option.bind (aq t.sys i7) fun x4=>
    J2 i7 (IntKind.wrap .i64 ((IntKind.wrap .i64 (v5'+1))+(x4.face.length:Int))) 0)) (
  ret v5')) (
 ret v5')
noncomputable def jX {S:Type} (hd:iG S) (k:Nat) (ret:Int→Option S) (t:Tm) (most:Int):Nat→Int→Int→Option S
 |0=>fun _ _=> .none
 |m+1=>fun v5' i7=>rV hd k ret t most (fun i7 v5'' v8=>lf hd k ret (jX hd k ret t most m) t most i7 k v5'' v8) (jX hd k ret t most m) v5' i7
def rU {S:Type} (hd:iG S) (k:Nat) (ret:Int→Option S) (t:Tm) (most:Int) (J1:Int→Int→Option S) (rec0:Int→Int→Option S) (v5 i6:Int):Option S:=
 ab (decide ((i6:Int)<(t.kids.length:Int))) (
 ab (decide ((v5:Int)≤most)) (
  Option.bind (aq t.kids i6) fun x1=>
  hd (ac x1) (IntKind.wrap .i64 (most-v5)) fun r2=>
   rec0 (IntKind.wrap .i64 (v5+r2)) (IntKind.wrap .i64 (i6+1))) (
   J1 v5 0)) (
  J1 v5 0)
noncomputable def nU {S:Type} (hd:iG S) (k:Nat) (ret:Int→Option S) (t:Tm) (most:Int):Nat→Int→Int→Option S
 |0=>fun _ _=> .none
 |m+1=>fun v5 i6=>rU hd k ret t most (fun v5' i7=>jX hd k ret t most k v5' i7) (nU hd k ret t most m) v5 i6
def F0 {S:Type} (hd:iG S) (k:Nat) (ret:Int→Option S) (J0:Int→Int→Option S) (t:Tm) (most:Int):Option S:=
 ab (decide (((t.r.length:Int):Int)>most)) (
 ret (IntKind.wrap .i64 (most+1))) (
 ab (decide (((t.name.size:Int):Int)>most)) (
  ret (IntKind.wrap .i64 (most+1))) (
   J0 (IntKind.wrap .i64 ((IntKind.wrap .i64 (1+(t.r.length:Int)))+(t.name.size:Int))) 0))
noncomputable def hZ {S:Type}:Nat→Tm→Int→(Int→Option S)→Option S
 |0=>fun _ _ _=> .none
 |k+1=>fun t most ret=>F0 (hZ k) k ret (fun v5 i6=>nU (hZ k) k ret t most k v5 i6) t most
def PT {S:Type} (k:Nat) (ret:Int×Int→Option S) (kind kid:Int):Option S:=
 ab (kind==4) (
 ab (kid==1) (
  ret (1,0)) (
  ret (0,0))) (
 ab (kind==7) (
  ab (kid==1) (
  ret (1,0)) (
  ret (0,0))) (
  ab (kind==5) (
  ab (kid==0) (
   ret (1,0)) (
   ret (0,0))) (
  ab (kind==22) (
   ab (kid==0) (
   ret (1,0)) (
   ret (0,0))) (
   ab (kind==27) (
   ab (kid==0) (
    ret (1,0)) (
    ret (0,0))) (
   ab (kind==11) (
    ab (kid==0) (
    ret (0,1)) (
    ret (0,0))) (
    ab (kind==12) (
    ab (kid==0) (
     ret (0,1)) (
     ret (0,0))) (
    ab (kind==14) (
     ab (kid==0) (
     ret (0,1)) (
     ret (0,0))) (
     ret (0,0)))))))))
noncomputable def gI {S:Type} (k:Nat) (kind kid:Int) (ret:Int×Int→Option S):Option S:=PT k ret kind kid
abbrev dF (S:Type):=Tm→Int→(Bool→Option S)→Option S
noncomputable def Gl {S:Type} (hd:dF S) (k:Nat) (ret:Bool→Option S) (a_k:Tm) (p p' c0:Int):Option S:=
 hd (ac a_k) (IntKind.wrap .i64 (c0-1)) fun r1=>
 ret r1
noncomputable def tg {S:Type} (hd:dF S) (k:Nat) (a_k:Tm) (p p' c0:Int) (ret:Bool→Option S):Option S:=Gl hd k ret a_k p p' c0
def wJ {S:Type} (hd:dF S) (k:Nat) (ret:Bool→Option S) (c0:Int) (t:Tm) (v42:Int) (x4:(Br Tm)) (more9:Int) (rec1:Int→Int→Option S) (rec2:Int→Option S) (v49:Int):Option S:=
 ab (decide ((v49:Int)<(x4.kids.length:Int))) (
 Option.bind (aq x4.kids v49) fun x5=>
 aa k (tg hd k (ac x5) 0 more9 c0) fun r6=>
 ab (!r6) (
  ret false) (
   rec2 (IntKind.wrap .i64 (v49+1)))) (
  rec1 (IntKind.wrap .i64 (v42+1)) more9)
noncomputable def nX {S:Type} (hd:dF S) (k:Nat) (ret:Bool→Option S) (rec1:Int→Int→Option S) (c0:Int) (t:Tm) (v42:Int) (x4:(Br Tm)) (more9:Int):Nat→Int→Option S
 |0=>fun _=> .none
 |m+1=>fun v49=>wJ hd k ret c0 t v42 x4 more9 rec1 (nX hd k ret rec1 c0 t v42 x4 more9 m) v49
def sc {S:Type} (hd:dF S) (k:Nat) (ret:Bool→Option S) (c0:Int) (t:Tm) (J2:Int→(Br Tm)→Int→Int→Option S) (rec1:Int→Int→Option S) (v42 more9:Int):Option S:=
 ab (decide ((v42:Int)<(t.sys.length:Int))) (
 Option.bind (aq t.sys v42) fun x4=>
  J2 v42 x4 more9 0) (
 ret true)
noncomputable def jY {S:Type} (hd:dF S) (k:Nat) (ret:Bool→Option S) (c0:Int) (t:Tm):Nat→Int→Int→Option S
 |0=>fun _ _=> .none
 |m+1=>fun v42 more9=>sc hd k ret c0 t (fun v42 x4 more9 v49=>nX hd k ret (jY hd k ret c0 t m) c0 t v42 x4 more9 k v49) (jY hd k ret c0 t m) v42 more9
def r_ {S:Type} (hd:dF S) (k:Nat) (ret:Bool→Option S) (c0:Int) (t:Tm) (J1:Int→Int→Option S) (rec0:Int→Option S) (v17:Int):Option S:=
 ab (decide ((v17:Int)<(t.kids.length:Int))) (
 Option.bind (aq t.kids v17) fun x1=>
 aa k (gI k t.kind v17) fun r2=>
 aa k (tg hd k (ac x1) r2.1 r2.2 c0) fun r3=>
 ab (!r3) (
  ret false) (
   rec0 (IntKind.wrap .i64 (v17+1)))) (
 ab (t.kind==15) (
   J1 0 1) (
   J1 0 0))
noncomputable def qu {S:Type} (hd:dF S) (k:Nat) (ret:Bool→Option S) (c0:Int) (t:Tm):Nat→Int→Option S
 |0=>fun _=> .none
 |m+1=>fun v17=>r_ hd k ret c0 t (fun v42 more9=>jY hd k ret c0 t k v42 more9) (qu hd k ret c0 t m) v17
noncomputable def Gf {S:Type} (hd:dF S) (k:Nat) (ret:Bool→Option S) (J0:Int→Option S) (t:Tm) (c0:Int):Option S:=
 J0 0
noncomputable def B9 {S:Type} (hd:dF S) (k:Nat) (t:Tm) (c0:Int) (ret:Bool→Option S):Option S:=Gf hd k ret (fun v17=>qu hd k ret c0 t k v17) t c0
def P4 {S:Type} (hd:dF S) (k:Nat) (ret:Bool→Option S) (t:Tm) (left:Int):Option S:=
 ab (decide ((left:Int)>0)) (
 aa k (B9 hd k (ac t) left) fun r1=>
 ret r1) (
 ret false)
noncomputable def jL {S:Type}:Nat→Tm→Int→(Bool→Option S)→Option S
 |0=>fun _ _ _=> .none
 |k+1=>fun t left ret=>P4 (jL k) k ret t left
abbrev dE (S:Type):=Tm→Int→(Bool×Int→Option S)→Option S
def Gn {S:Type} (hd:dE S) (k:Nat) (ret:Bool×Int→Option S) (t:Tm) (c0:Int):Option S:=
 ab (decide ((IntKind.wrap .i64 (c0-1):Int)≥0)) (
 hd (ac t) (IntKind.wrap .i64 (c0-1)) fun r1=>
 ret (r1.1,r1.2)) (
 ret (false,IntKind.wrap .i64 (c0-1)))
noncomputable def pm {S:Type} (hd:dE S) (k:Nat) (t:Tm) (c0:Int) (ret:Bool×Int→Option S):Option S:=Gn hd k ret t c0
noncomputable def Gm {S:Type} (hd:dE S) (k:Nat) (ret:Bool×Int→Option S) (a_k:Tm) (p p' c1:Int):Option S:=
 aa k (pm hd k (ac a_k) c1) fun r1=>
 ret (r1.1,r1.2)
noncomputable def ti {S:Type} (hd:dE S) (k:Nat) (a_k:Tm) (p p' c1:Int) (ret:Bool×Int→Option S):Option S:=Gm hd k ret a_k p p' c1
def wH {S:Type} (hd:dE S) (k:Nat) (ret:Bool×Int→Option S) (t:Tm) (v42:Int) (x4:(Br Tm)) (more9:Int) (rec1:Int→Int→Int→Option S) (rec2:Int→Int→Option S) (e1_0'' v49:Int):Option S:=
 ab (decide ((v49:Int)<(x4.kids.length:Int))) (
 Option.bind (aq x4.kids v49) fun x5=>
 aa k (ti hd k (ac x5) 0 more9 e1_0'') fun r6=>
 ab (!r6.1) (
  ret (false,r6.2)) (
   rec2 r6.2 (IntKind.wrap .i64 (v49+1)))) (
  rec1 e1_0'' (IntKind.wrap .i64 (v42+1)) more9)
noncomputable def lg {S:Type} (hd:dE S) (k:Nat) (ret:Bool×Int→Option S) (rec1:Int→Int→Int→Option S) (t:Tm) (v42:Int) (x4:(Br Tm)) (more9:Int):Nat→Int→Int→Option S
 |0=>fun _ _=> .none
 |m+1=>fun e1_0'' v49=>wH hd k ret t v42 x4 more9 rec1 (lg hd k ret rec1 t v42 x4 more9 m) e1_0'' v49
def rX {S:Type} (hd:dE S) (k:Nat) (ret:Bool×Int→Option S) (t:Tm) (J2:Int→(Br Tm)→Int→Int→Int→Option S) (rec1:Int→Int→Int→Option S) (e1_0' v42 more9:Int):Option S:=
 ab (decide ((v42:Int)<(t.sys.length:Int))) (
 Option.bind (aq t.sys v42) fun x4=>
  J2 v42 x4 more9 e1_0' 0) (
 ret (true,e1_0'))
noncomputable def iY {S:Type} (hd:dE S) (k:Nat) (ret:Bool×Int→Option S) (t:Tm):Nat→Int→Int→Int→Option S
 |0=>fun _ _ _=> .none
 |m+1=>fun e1_0' v42 more9=>rX hd k ret t (fun v42 x4 more9 e1_0'' v49=>lg hd k ret (iY hd k ret t m) t v42 x4 more9 k e1_0'' v49) (iY hd k ret t m) e1_0' v42 more9
def rW {S:Type} (hd:dE S) (k:Nat) (ret:Bool×Int→Option S) (t:Tm) (J1:Int→Int→Int→Option S) (rec0:Int→Int→Option S) (e1_0 v17:Int):Option S:=
 ab (decide ((v17:Int)<(t.kids.length:Int))) (
 Option.bind (aq t.kids v17) fun x1=>
 aa k (gI k t.kind v17) fun r2=>
 aa k (ti hd k (ac x1) r2.1 r2.2 e1_0) fun r3=>
 ab (!r3.1) (
  ret (false,r3.2)) (
   rec0 r3.2 (IntKind.wrap .i64 (v17+1)))) (
 ab (t.kind==15) (
   J1 e1_0 0 1) (
   J1 e1_0 0 0))
noncomputable def nV {S:Type} (hd:dE S) (k:Nat) (ret:Bool×Int→Option S) (t:Tm):Nat→Int→Int→Option S
 |0=>fun _ _=> .none
 |m+1=>fun e1_0 v17=>rW hd k ret t (fun e1_0' v42 more9=>iY hd k ret t k e1_0' v42 more9) (nV hd k ret t m) e1_0 v17
noncomputable def Gc {S:Type} (hd:dE S) (k:Nat) (ret:Bool×Int→Option S) (J0:Int→Int→Option S) (t:Tm) (c1:Int):Option S:=
 J0 c1 0
noncomputable def gf {S:Type}:Nat→Tm→Int→(Bool×Int→Option S)→Option S
 |0=>fun _ _ _=> .none
 |k+1=>fun t c1 ret=>Gc (gf k) k ret (fun e1_0 v17=>nV (gf k) k ret t k e1_0 v17) t c1
noncomputable def P6 {S:Type} (k:Nat) (ret:Bool→Option S) (t:Tm) (most:Int):Option S:=
 aa k (pm (gf k) k (ac t) most) fun r1=>
 ret r1.1
noncomputable def yo {S:Type} (k:Nat) (t:Tm) (most:Int) (ret:Bool→Option S):Option S:=P6 k ret t most
def P5 {S:Type} (k:Nat) (ret:Int→Option S) (t:Tm):Option S:=
 jL k (ac t) 200 fun r1=>
 ab (!r1) (
 ret 62) (
 aa k (yo k (ac t) 20000) fun r2=>
 ab (!r2) (
  ret 221) (
  ret 0))
noncomputable def th {S:Type} (k:Nat) (t:Tm) (ret:Int→Option S):Option S:=P5 k ret t
def PY {S:Type} (k:Nat) (ret:Int→Option S) (kind:Int):Option S:=
 ab (kind==1) (
 ret 0) (
 ab (kind==2) (
  ret 0) (
  ab (kind==3) (
  ret 0) (
  ab (kind==19) (
   ret 0) (
   ab (kind==20) (
   ret 0) (
   ab (kind==24) (
    ret 0) (
    ab (kind==25) (
    ret 0) (
    ab (kind==21) (
     ret 0) (
     ab (kind==5) (
     ret 1) (
     ab (kind==9) (
      ret 1) (
      ab (kind==10) (
      ret 1) (
      ab (kind==23) (
       ret 1) (
       ab (kind==12) (
       ret 1) (
       ab (kind==16) (
        ret 1) (
        ab (kind==17) (
        ret 1) (
        ab (kind==18) (
         ret 1) (
         ab (kind==26) (
         ret 1) (
         ab (kind==4) (
          ret 2) (
          ab (kind==7) (
          ret 2) (
          ab (kind==6) (
           ret 2) (
           ab (kind==8) (
           ret 2) (
           ab (kind==14) (
            ret 2) (
            ab (kind==15) (
            ret 2) (
            ab (kind==28) (
             ret 2) (
             ab (kind==11) (
             ret 3) (
             ab (kind==13) (
              ret 3) (
              ab (kind==22) (
              ret 4) (
              ab (kind==27) (
               ret 5) (
               ret (-1)))))))))))))))))))))))))))))
noncomputable def yl {S:Type} (k:Nat) (kind:Int) (ret:Int→Option S):Option S:=PY k ret kind
def PZ {S:Type} (k:Nat) (ret:Int→Option S) (kind:Int):Option S:=
 ab (kind==15) (
 ret 1) (
 ab (kind==17) (
  ret 1) (
  ab (kind==18) (
  ret 1) (
  ab (kind==16) (
   ret 2) (
   ret 0))))
noncomputable def lX {S:Type} (k:Nat) (kind:Int) (ret:Int→Option S):Option S:=PZ k ret kind
def Bm {S:Type} (k:Nat) (ret:Bool→Option S) (s:ByteArray) (v8:Int) (x1:UInt8) (rec0:Int→Option S) (letter5:Bool):Option S:=
 ab (!letter5) (
 ab (v8==0) (
  ret false) (
  ab (decide (((x1.toNat:Int):Int)<48)) (
  ret false) (
  ab (decide (((x1.toNat:Int):Int)>57)) (
   ret false) (
     rec0 (IntKind.wrap .i64 (v8+1)))))) (
  rec0 (IntKind.wrap .i64 (v8+1)))
noncomputable def yX {S:Type} (k:Nat) (ret:Bool→Option S) (rec0:Int→Option S) (s:ByteArray) (v8:Int) (x1:UInt8):Nat→Bool→Option S
 |0=>fun _=> .none
 |_+1=>fun letter5=>Bm k ret s v8 x1 rec0 letter5
def sx {S:Type} (k:Nat) (ret:Bool→Option S) (s:ByteArray) (J1:Int→UInt8→Bool→Option S) (rec0:Int→Option S) (v8:Int):Option S:=
 ab (decide ((v8:Int)<(s.size:Int))) (
 Option.bind (aq s.data.toList v8) fun x1=>
 ab (decide (((x1.toNat:Int):Int)≥97)) (
  ab (decide (((x1.toNat:Int):Int)≤122)) (
    J1 v8 x1 true) (
  ab (decide (((x1.toNat:Int):Int)≥65)) (
   ab (decide (((x1.toNat:Int):Int)≤90)) (
      J1 v8 x1 true) (
      J1 v8 x1 ((x1.toNat:Int)==95))) (
     J1 v8 x1 ((x1.toNat:Int)==95)))) (
  ab (decide (((x1.toNat:Int):Int)≥65)) (
  ab (decide (((x1.toNat:Int):Int)≤90)) (
     J1 v8 x1 true) (
     J1 v8 x1 ((x1.toNat:Int)==95))) (
    J1 v8 x1 ((x1.toNat:Int)==95)))) (
 ret (!(s==ByteArray.empty)))
noncomputable def n4 {S:Type} (k:Nat) (ret:Bool→Option S) (s:ByteArray):Nat→Int→Option S
 |0=>fun _=> .none
 |m+1=>fun v8=>sx k ret s (fun v8 x1 letter5=>yX k ret (n4 k ret s m) s v8 x1 k letter5) (n4 k ret s m) v8
noncomputable def Gj {S:Type} (k:Nat) (ret:Bool→Option S) (J0:Int→Option S) (s:ByteArray):Option S:=
 J0 0
noncomputable def yn {S:Type} (k:Nat) (s:ByteArray) (ret:Bool→Option S):Option S:=Gj k ret (fun v8=>n4 k ret s k v8) s
noncomputable def Px {S:Type} (k:Nat) (ret:Bool→Option S) (s:Int):Option S:=
 ret ((bG .andNot .u32 s 16777215)==0)
noncomputable def pi {S:Type} (k:Nat) (s:Int) (ret:Bool→Option S):Option S:=Px k ret s
def OH {S:Type} (k:Nat) (ret:Bool→Option S) (c:Cl):Option S:=
 aa k (pi k c.pos) fun r1=>
 ab (r1) (
 aa k (pi k c.neg) fun r2=>
 ret r2) (
 ret false)
noncomputable def sN {S:Type} (k:Nat) (c:Cl) (ret:Bool→Option S):Option S:=OH k ret c
noncomputable def OG {S:Type} (k:Nat) (ret:Cl→Option S) (a b:Cl):Option S:=
 ret (Cl.mk (bG .or .u32 a.pos b.pos) (bG .or .u32 a.neg b.neg))
noncomputable def oX {S:Type} (k:Nat) (a b:Cl) (ret:Cl→Option S):Option S:=OG k ret a b
noncomputable def OB {S:Type} (k:Nat) (ret:Bool→Option S) (a b:Cl):Option S:=
 aa k (oX k a b) fun r1=>
 ret ((r1.pos==a.pos)&&((r1.neg==a.neg)&&true))
noncomputable def xe {S:Type} (k:Nat) (a b:Cl) (ret:Bool→Option S):Option S:=OB k ret a b
def OE {S:Type} (k:Nat) (ret:Bool→Option S) (d c0:Cl):Option S:=
 ab (!((c0.pos==d.pos)&&((c0.neg==d.neg)&&true))) (
 aa k (xe k c0 d) fun r1=>
 ret r1) (
 ret false)
noncomputable def xh {S:Type} (k:Nat) (d c0:Cl) (ret:Bool→Option S):Option S:=OE k ret d c0
def wD {S:Type} (k:Nat) (ret:Int→Option S) (c0:Cl) (s:List Cl) (rec0:Int→Option S) (v8:Int):Option S:=
 ab (decide ((v8:Int)<(s.length:Int))) (
 Option.bind (aq s v8) fun x1=>
 aa k (xh k x1 c0) fun r2=>
 ab (r2) (
  ret v8) (
   rec0 (IntKind.wrap .i64 (v8+1)))) (
 ret (-1))
noncomputable def ql {S:Type} (k:Nat) (ret:Int→Option S) (c0:Cl) (s:List Cl):Nat→Int→Option S
 |0=>fun _=> .none
 |m+1=>fun v8=>wD k ret c0 s (ql k ret c0 s m) v8
noncomputable def F7 {S:Type} (k:Nat) (ret:Int→Option S) (J0:Int→Option S) (s:List Cl) (c0:Cl):Option S:=
 J0 0
noncomputable def B7 {S:Type} (k:Nat) (s:List Cl) (c0:Cl) (ret:Int→Option S):Option S:=F7 k ret (fun v8=>ql k ret c0 s k v8) s c0
noncomputable def PR {S:Type} (k:Nat) (ret:Bool→Option S) (s:List Cl) (c0:Cl):Option S:=
 aa k (B7 k s c0) fun r1=>
 ret (decide ((r1:Int)≥0))
noncomputable def B5 {S:Type} (k:Nat) (s:List Cl) (c0:Cl) (ret:Bool→Option S):Option S:=PR k ret s c0
noncomputable def OD {S:Type} (k:Nat) (ret:Bool→Option S) (c:Cl) (c0:List Cl):Option S:=
 aa k (B5 k c0 c) fun r1=>
 ret r1
noncomputable def xg {S:Type} (k:Nat) (c:Cl) (c0:List Cl) (ret:Bool→Option S):Option S:=OD k ret c c0
def vD {S:Type} (k:Nat) (ret:List Cl×Int→Option S) (b5_0:List Cl) (rec1:Int→(List Cl)→Option S) (v36:Int) (kept9:List Cl):Option S:=
 ab (decide ((v36:Int)<(b5_0.length:Int))) (
 Option.bind (aq b5_0 v36) fun x4=>
 aa k (xg k x4 b5_0) fun r5=>
 ab (!r5) (
  Option.bind (aX 1099511627776 kept9.length [x4].length) fun x6=>
   rec1 (IntKind.wrap .i64 (v36+1)) (kept9++[x4])) (
   rec1 (IntKind.wrap .i64 (v36+1)) kept9)) (
 ab (decide (((kept9.length:Int):Int)>64)) (
  ret (([]:List Cl),3)) (
  ret (sortCl kept9,0)))
noncomputable def nK {S:Type} (k:Nat) (ret:List Cl×Int→Option S) (b5_0:List Cl):Nat→Int→(List Cl)→Option S
 |0=>fun _ _=> .none
 |m+1=>fun v36 kept9=>vD k ret b5_0 (nK k ret b5_0 m) v36 kept9
def rI {S:Type} (k:Nat) (ret:List Cl×Int→Option S) (l:List Cl) (J1:(List Cl)→Int→(List Cl)→Option S) (rec0:(List (Cl×Bool))→(List Cl)→Int→Option S) (b12_0:List (Cl×Bool)) (b5_0:List Cl) (v15:Int):Option S:=
 ab (decide ((v15:Int)<(l.length:Int))) (
 Option.bind (aq l v15) fun x1=>
 aa k (sN k x1) fun r2=>
 ab (!r2) (
  ret (([]:List Cl),2)) (
  ab (!((eh VV ET.C b12_0 x1).getD false)) (
  Option.bind (aX 1099511627776 b5_0.length [x1].length) fun x3=>
    rec0 (gj VV ET.C b12_0 x1 true) (b5_0++[x1]) (IntKind.wrap .i64 (v15+1))) (
    rec0 b12_0 b5_0 (IntKind.wrap .i64 (v15+1))))) (
  J1 b5_0 0 ([]:List Cl))
noncomputable def pK {S:Type} (k:Nat) (ret:List Cl×Int→Option S) (l:List Cl):Nat→(List (Cl×Bool))→(List Cl)→Int→Option S
 |0=>fun _ _ _=> .none
 |m+1=>fun b12_0 b5_0 v15=>rI k ret l (fun b5_0 v36 kept9=>nK k ret b5_0 k v36 kept9) (pK k ret l m) b12_0 b5_0 v15
noncomputable def Fe {S:Type} (k:Nat) (ret:List Cl×Int→Option S) (J0:(List (Cl×Bool))→(List Cl)→Int→Option S) (l:List Cl):Option S:=
 J0 ([]:List (Cl×Bool)) ([]:List Cl) 0
noncomputable def g9 {S:Type} (k:Nat) (l:List Cl) (ret:List Cl×Int→Option S):Option S:=Fe k ret (fun b12_0 b5_0 v15=>pK k ret l k b12_0 b5_0 v15) l
def wC {S:Type} (k:Nat) (ret:Bool→Option S) (s1 s2:List Cl) (rec0:Int→Option S) (v13:Int):Option S:=
 ab (decide ((v13:Int)<(s1.length:Int))) (
 Option.bind (aq s1 v13) fun x1=>
 Option.bind (aq s2 v13) fun x2=>
 ab (!((x1.pos==x2.pos)&&((x1.neg==x2.neg)&&true))) (
  ret false) (
   rec0 (IntKind.wrap .i64 (v13+1)))) (
 ret true)
noncomputable def qk {S:Type} (k:Nat) (ret:Bool→Option S) (s1 s2:List Cl):Nat→Int→Option S
 |0=>fun _=> .none
 |m+1=>fun v13=>wC k ret s1 s2 (qk k ret s1 s2 m) v13
def F6 {S:Type} (k:Nat) (ret:Bool→Option S) (J0:Int→Option S) (s1 s2:List Cl):Option S:=
 ab (!((s1.length:Int)==(s2.length:Int))) (
 ret false) (
  J0 0)
noncomputable def yk {S:Type} (k:Nat) (s1 s2:List Cl) (ret:Bool→Option S):Option S:=F6 k ret (fun v13=>qk k ret s1 s2 k v13) s1 s2
def O4 {S:Type} (k:Nat) (ret:Bool→Option S) (f:List Cl):Option S:=
 aa k (g9 k f) fun r1=>
 ab (r1.2==0) (
 aa k (yk k r1.1 f) fun r2=>
 ret r2) (
 ret false)
noncomputable def iO {S:Type} (k:Nat) (f:List Cl) (ret:Bool→Option S):Option S:=O4 k ret f
def PB {S:Type} (k:Nat) (ret:Bool→Option S) (i:Int):Option S:=
 ab (decide ((i:Int)≥0)) (
 ret (decide ((i:Int)<24))) (
 ret false)
noncomputable def ny {S:Type} (k:Nat) (i:Int) (ret:Bool→Option S):Option S:=PB k ret i
def Pz {S:Type} (k:Nat) (ret:Int→Option S) (s i:Int):Option S:=
 aa k (ny k i) fun r1=>
 ab (!r1) (
 ret (bG .and .u32 s 16777215)) (
 Option.bind (da (0≤(IntKind.wrap .u64 i))) fun x2=>
 ret (bG .andNot .u32 (bG .and .u32 s 16777215) (IntKind.wrap .u32 (1*2^min (Int.toNat (IntKind.wrap .u64 i)) 32))))
noncomputable def kP {S:Type} (k:Nat) (s i:Int) (ret:Int→Option S):Option S:=Pz k ret s i
def vQ {S:Type} (k:Nat) (ret:Int→Option S) (f:List Cl) (rec0:Int→Int→Option S) (s3 v8:Int):Option S:=
 ab (decide ((v8:Int)<(f.length:Int))) (
 Option.bind (aq f v8) fun x1=>
  rec0 (bG .or .u32 s3 (bG .or .u32 x1.pos x1.neg)) (IntKind.wrap .i64 (v8+1))) (
 aa k (kP k s3 (-1)) fun r2=>
 ret r2)
noncomputable def pQ {S:Type} (k:Nat) (ret:Int→Option S) (f:List Cl):Nat→Int→Int→Option S
 |0=>fun _ _=> .none
 |m+1=>fun s3 v8=>vQ k ret f (pQ k ret f m) s3 v8
noncomputable def Fz {S:Type} (k:Nat) (ret:Int→Option S) (J0:Int→Int→Option S) (f:List Cl):Option S:=
 J0 0 0
noncomputable def o8 {S:Type} (k:Nat) (f:List Cl) (ret:Int→Option S):Option S:=Fz k ret (fun s3 v8=>pQ k ret f k s3 v8) f
def P7 {S:Type} (k:Nat) (ret:Bool→Option S) (f:List Cl) (dims:Int):Option S:=
 ab (decide ((dims:Int)≥24)) (
 ret true) (
 aa k (o8 k f) fun r1=>
 Option.bind (da (0≤(IntKind.wrap .u64 dims))) fun x2=>
 ret ((Int.fdiv r1 (2^min (Int.toNat (IntKind.wrap .u64 dims)) 32))==0))
noncomputable def lY {S:Type} (k:Nat) (f:List Cl) (dims:Int) (ret:Bool→Option S):Option S:=P7 k ret f dims
noncomputable def OC {S:Type} (k:Nat) (ret:Bool→Option S) (c:Cl):Option S:=
 ret (!((bG .and .u32 c.pos c.neg)==0))
noncomputable def sM {S:Type} (k:Nat) (c:Cl) (ret:Bool→Option S):Option S:=OC k ret c
def wE {S:Type} (k:Nat) (ret:Int→Option S) (s:List Cl) (rec0:Int→Option S) (v8:Int):Option S:=
 ab (decide ((v8:Int)<(s.length:Int))) (
 Option.bind (aq s v8) fun x1=>
 aa k (sM k x1) fun r2=>
 ab (r2) (
  ret v8) (
   rec0 (IntKind.wrap .i64 (v8+1)))) (
 ret (-1))
noncomputable def qm {S:Type} (k:Nat) (ret:Int→Option S) (s:List Cl):Nat→Int→Option S
 |0=>fun _=> .none
 |m+1=>fun v8=>wE k ret s (qm k ret s m) v8
noncomputable def F8 {S:Type} (k:Nat) (ret:Int→Option S) (J0:Int→Option S) (s:List Cl):Option S:=
 J0 0
noncomputable def B8 {S:Type} (k:Nat) (s:List Cl) (ret:Int→Option S):Option S:=F8 k ret (fun v8=>qm k ret s k v8) s
noncomputable def PS {S:Type} (k:Nat) (ret:Bool→Option S) (s:List Cl):Option S:=
 aa k (B8 k s) fun r1=>
 ret (decide ((r1:Int)≥0))
noncomputable def B6 {S:Type} (k:Nat) (s:List Cl) (ret:Bool→Option S):Option S:=PS k ret s
def OT {S:Type} (k:Nat) (ret:Bool→Option S) (f:List Cl):Option S:=
 aa k (iO k f) fun r1=>
 ab (r1) (
 aa k (B6 k f) fun r2=>
 ret (!r2)) (
 ret false)
noncomputable def oZ {S:Type} (k:Nat) (f:List Cl) (ret:Bool→Option S):Option S:=OT k ret f
def wM {S:Type} (k:Nat) (ret:Bool→Option S) (t:Tm) (dims:Int) (rec1:Int→Option S) (v109:Int):Option S:=
 ab (decide ((v109:Int)<(t.sys.length:Int))) (
 Option.bind (aq t.sys v109) fun x12=>
 aa k (lX k t.kind) fun r13=>
 ab (!((x12.kids.length:Int)==r13)) (
  ret false) (
  aa k (oZ k x12.face) fun r14=>
  ab (!r14) (
  ret false) (
  aa k (lY k x12.face dims) fun r15=>
  ab (!r15) (
   ret false) (
     rec1 (IntKind.wrap .i64 (v109+1)))))) (
 ret ((t.r.length:Int)==0))
noncomputable def lj {S:Type} (k:Nat) (ret:Bool→Option S) (t:Tm) (dims:Int):Nat→Int→Option S
 |0=>fun _=> .none
 |m+1=>fun v109=>wM k ret t dims (lj k ret t dims m) v109
def sz {S:Type} (k:Nat) (ret:Bool→Option S) (t:Tm) (vars dims:Int) (J1:Int→Option S):Option S:=
 ab (t.kind==1) (
 ab ((t.r.length:Int)==0) (
  ab (decide ((t.n:Int)≥0)) (
  ab (decide ((vars:Int)<0)) (
   ret true) (
   ret (decide ((t.n:Int)<vars)))) (
  ret false)) (
  ret false)) (
 ab (t.kind==2) (
  ab ((t.r.length:Int)==0) (
  aa k (yn k t.name) fun r3=>
  ret r3) (
  ret false)) (
  ab (t.kind==13) (
  aa k (iO k t.r) fun r4=>
  ab (r4) (
   aa k (lY k t.r dims) fun r5=>
   ret r5) (
   ret false)) (
  ab (t.kind==21) (
   aa k (iO k t.r) fun r6=>
   ab (r6) (
   aa k (lY k t.r dims) fun r7=>
   ret r7) (
   ret false)) (
   ab (t.kind==26) (
   aa k (iO k t.r) fun r8=>
   ab (r8) (
    aa k (lY k t.r dims) fun r9=>
    ret r9) (
    ret false)) (
   ab (t.kind==14) (
    aa k (oZ k t.r) fun r10=>
    ab (r10) (
    aa k (lY k t.r dims) fun r11=>
    ret r11) (
    ret false)) (
       J1 0))))))
noncomputable def yY {S:Type} (k:Nat) (ret:Bool→Option S) (t:Tm) (vars dims:Int):Nat→Option S
 |0=> .none
 |_+1=>sz k ret t vars dims (fun v109=>lj k ret t dims k v109)
def Gk {S:Type} (k:Nat) (ret:Bool→Option S) (J0:Option S) (t:Tm) (vars dims:Int):Option S:=
 aa k (yl k t.kind) fun r1=>
 ab (!(r1==(t.kids.length:Int))) (
 ret false) (
 ab (!(t.kind==1)) (
  ab (!(t.n==0)) (
  ret false) (
  ab (!(t.kind==2)) (
   ab (!(t.name==ByteArray.empty)) (
   ret false) (
   aa k (lX k t.kind) fun r2=>
   ab (r2==0) (
    ab (decide (((t.sys.length:Int):Int)>0)) (
    ret false) (
        J0)) (
       J0))) (
   aa k (lX k t.kind) fun r16=>
   ab (r16==0) (
   ab (decide (((t.sys.length:Int):Int)>0)) (
    ret false) (
       J0)) (
      J0)))) (
  ab (!(t.kind==2)) (
  ab (!(t.name==ByteArray.empty)) (
   ret false) (
   aa k (lX k t.kind) fun r17=>
   ab (r17==0) (
   ab (decide (((t.sys.length:Int):Int)>0)) (
    ret false) (
       J0)) (
      J0))) (
  aa k (lX k t.kind) fun r18=>
  ab (r18==0) (
   ab (decide (((t.sys.length:Int):Int)>0)) (
   ret false) (
      J0)) (
     J0))))
noncomputable def tf {S:Type} (k:Nat) (t:Tm) (vars dims:Int) (ret:Bool→Option S):Option S:=Gk k ret (yY k ret t vars dims k) t vars dims
abbrev dD (S:Type):=Tm→Int→Int→Bool→(Bool→Option S)→Option S
def P3 {S:Type} (hd:dD S) (k:Nat) (ret:Bool→Option S) (a_k:Tm) (v d c0 c1:Int) (c2:Bool):Option S:=
 ab (decide ((c0:Int)<0)) (
 hd (ac a_k) (IntKind.wrap .i64 (c0+0)) (IntKind.wrap .i64 (c1+d)) c2 fun r1=>
 ret r1) (
 hd (ac a_k) (IntKind.wrap .i64 (c0+v)) (IntKind.wrap .i64 (c1+d)) c2 fun r2=>
 ret r2)
noncomputable def td {S:Type} (hd:dD S) (k:Nat) (a_k:Tm) (v d c0 c1:Int) (c2:Bool) (ret:Bool→Option S):Option S:=P3 hd k ret a_k v d c0 c1 c2
def wI {S:Type} (hd:dD S) (k:Nat) (ret:Bool→Option S) (c0 c1:Int) (c2:Bool) (t:Tm) (v42:Int) (x4:(Br Tm)) (more9:Int) (rec1:Int→Int→Option S) (rec2:Int→Option S) (v49:Int):Option S:=
 ab (decide ((v49:Int)<(x4.kids.length:Int))) (
 Option.bind (aq x4.kids v49) fun x5=>
 aa k (td hd k (ac x5) 0 more9 c0 c1 c2) fun r6=>
 ab (!r6) (
  ret false) (
   rec2 (IntKind.wrap .i64 (v49+1)))) (
  rec1 (IntKind.wrap .i64 (v42+1)) more9)
noncomputable def mr {S:Type} (hd:dD S) (k:Nat) (ret:Bool→Option S) (rec1:Int→Int→Option S) (c0 c1:Int) (c2:Bool) (t:Tm) (v42:Int) (x4:(Br Tm)) (more9:Int):Nat→Int→Option S
 |0=>fun _=> .none
 |m+1=>fun v49=>wI hd k ret c0 c1 c2 t v42 x4 more9 rec1 (mr hd k ret rec1 c0 c1 c2 t v42 x4 more9 m) v49
def rZ {S:Type} (hd:dD S) (k:Nat) (ret:Bool→Option S) (c0 c1:Int) (c2:Bool) (t:Tm) (J2:Int→(Br Tm)→Int→Int→Option S) (rec1:Int→Int→Option S) (v42 more9:Int):Option S:=
 ab (decide ((v42:Int)<(t.sys.length:Int))) (
 Option.bind (aq t.sys v42) fun x4=>
  J2 v42 x4 more9 0) (
 ret true)
noncomputable def iZ {S:Type} (hd:dD S) (k:Nat) (ret:Bool→Option S) (c0 c1:Int) (c2:Bool) (t:Tm):Nat→Int→Int→Option S
 |0=>fun _ _=> .none
 |m+1=>fun v42 more9=>rZ hd k ret c0 c1 c2 t (fun v42 x4 more9 v49=>mr hd k ret (iZ hd k ret c0 c1 c2 t m) c0 c1 c2 t v42 x4 more9 k v49) (iZ hd k ret c0 c1 c2 t m) v42 more9
def rY {S:Type} (hd:dD S) (k:Nat) (ret:Bool→Option S) (c0 c1:Int) (c2:Bool) (t:Tm) (J1:Int→Int→Option S) (rec0:Int→Option S) (v17:Int):Option S:=
 ab (decide ((v17:Int)<(t.kids.length:Int))) (
 Option.bind (aq t.kids v17) fun x1=>
 aa k (gI k t.kind v17) fun r2=>
 aa k (td hd k (ac x1) r2.1 r2.2 c0 c1 c2) fun r3=>
 ab (!r3) (
  ret false) (
   rec0 (IntKind.wrap .i64 (v17+1)))) (
 ab (t.kind==15) (
   J1 0 1) (
   J1 0 0))
noncomputable def nW {S:Type} (hd:dD S) (k:Nat) (ret:Bool→Option S) (c0 c1:Int) (c2:Bool) (t:Tm):Nat→Int→Option S
 |0=>fun _=> .none
 |m+1=>fun v17=>rY hd k ret c0 c1 c2 t (fun v42 more9=>iZ hd k ret c0 c1 c2 t k v42 more9) (nW hd k ret c0 c1 c2 t m) v17
noncomputable def Ge {S:Type} (hd:dD S) (k:Nat) (ret:Bool→Option S) (J0:Int→Option S) (t:Tm) (c0 c1:Int) (c2:Bool):Option S:=
 J0 0
noncomputable def ym {S:Type} (hd:dD S) (k:Nat) (t:Tm) (c0 c1:Int) (c2:Bool) (ret:Bool→Option S):Option S:=Ge hd k ret (fun v17=>nW hd k ret c0 c1 c2 t k v17) t c0 c1 c2
def P2 {S:Type} (hd:dD S) (k:Nat) (ret:Bool→Option S) (t:Tm) (vars dims:Int) (bound:Bool):Option S:=
 ab (bound) (
 ab (decide ((dims:Int)>24)) (
  ret false) (
  aa k (tf k (ac t) vars dims) fun r1=>
  ab (!r1) (
  ret false) (
  aa k (ym hd k (ac t) vars dims bound) fun r2=>
  ret r2))) (
 aa k (tf k (ac t) vars dims) fun r3=>
 ab (!r3) (
  ret false) (
  aa k (ym hd k (ac t) vars dims bound) fun r4=>
  ret r4))
noncomputable def gc {S:Type}:Nat→Tm→Int→Int→Bool→(Bool→Option S)→Option S
 |0=>fun _ _ _ _ _=> .none
 |k+1=>fun t vars dims bound ret=>P2 (gc k) k ret t vars dims bound
def PX {S:Type} (k:Nat) (ret:Int→Option S) (t:Tm):Option S:=
 aa k (th k (ac t)) fun r1=>
 ab (!(r1==0)) (
 ret r1) (
 gc k (ac t) (-1) 24 false fun r2=>
 ab (!r2) (
  ret 100) (
  ret 0))
noncomputable def gb {S:Type} (k:Nat) (t:Tm) (ret:Int→Option S):Option S:=PX k ret t
abbrev fK (S:Type):=Tm→(Tm→Option S)→Option S
def wG {S:Type} (hd:fK S) (k:Nat) (ret:List Tm→Option S) (l:List Tm) (rec0:(List Tm)→Int→Option S) (out3:List Tm) (v8:Int):Option S:=
 ab (decide ((v8:Int)<(l.length:Int))) (
 Option.bind (aq l v8) fun x1=>
 hd (ac x1) fun r2=>
 Option.bind (aX 1099511627776 out3.length [(ac r2)].length) fun x3=>
  rec0 (out3++[(ac r2)]) (IntKind.wrap .i64 (v8+1))) (
 ret out3)
noncomputable def qr {S:Type} (hd:fK S) (k:Nat) (ret:List Tm→Option S) (l:List Tm):Nat→(List Tm)→Int→Option S
 |0=>fun _ _=> .none
 |m+1=>fun out3 v8=>wG hd k ret l (qr hd k ret l m) out3 v8
noncomputable def Gb {S:Type} (hd:fK S) (k:Nat) (ret:List Tm→Option S) (J0:(List Tm)→Int→Option S) (l:List Tm):Option S:=
 J0 ([]:List Tm) 0
noncomputable def te {S:Type} (hd:fK S) (k:Nat) (l:List Tm) (ret:List Tm→Option S):Option S:=Gb hd k ret (fun out3 v8=>qr hd k ret l k out3 v8) l
def wF {S:Type} (hd:fK S) (k:Nat) (ret:Tm→Option S) (t:Tm) (r1:List Cl) (r2:List Tm) (rec0:(List (Br Tm))→Int→Option S) (b3_5:List (Br Tm)) (v22:Int):Option S:=
 ab (decide ((v22:Int)<(t.sys.length:Int))) (
 Option.bind (aq t.sys v22) fun x3=>
 qL x3.face fun r4=>
 aa k (te hd k x3.kids) fun r5=>
 Option.bind (aX 1099511627776 b3_5.length [(Br.mk r4 r5)].length) fun x6=>
  rec0 (b3_5++[(Br.mk r4 r5)]) (IntKind.wrap .i64 (v22+1))) (
 ret (Tm.mk t.kind t.n t.name r1 r2 b3_5))
noncomputable def qn {S:Type} (hd:fK S) (k:Nat) (ret:Tm→Option S) (t:Tm) (r1:List Cl) (r2:List Tm):Nat→(List (Br Tm))→Int→Option S
 |0=>fun _ _=> .none
 |m+1=>fun b3_5 v22=>wF hd k ret t r1 r2 (qn hd k ret t r1 r2 m) b3_5 v22
noncomputable def F9 {S:Type} (hd:fK S) (k:Nat) (ret:Tm→Option S) (J0:(List Cl)→(List Tm)→(List (Br Tm))→Int→Option S) (t:Tm):Option S:=
 qL t.r fun r1=>
 aa k (te hd k t.kids) fun r2=>
 J0 r1 r2 ([]:List (Br Tm)) 0
noncomputable def du {S:Type}:Nat→Tm→(Tm→Option S)→Option S
 |0=>fun _ _=> .none
 |k+1=>fun t ret=>F9 (du k) k ret (fun r1 r2 b3_5 v22=>qn (du k) k ret t r1 r2 k b3_5 v22) t
def PO {S:Type} (k:Nat) (ret:Tm×Int→Option S) (t:Tm) (a_e c0:Int):Option S:=
 ab (c0==0) (
 ab (!(a_e==0)) (
  ret ((Tm.mk 0 0 ByteArray.empty [] [] []),a_e)) (
  ret ((ac t),a_e))) (
 ab (!(c0==0)) (
  ret ((Tm.mk 0 0 ByteArray.empty [] [] []),c0)) (
  ret ((ac t),c0)))
noncomputable def f_ {S:Type} (k:Nat) (t:Tm) (a_e c0:Int) (ret:Tm×Int→Option S):Option S:=PO k ret t a_e c0
noncomputable def jy {S:Type} (k:Nat) (ret:Bool→Option S) (c0:Int):Option S:=
 ret (c0==0)
noncomputable def cY {S:Type} (k:Nat) (c0:Int) (ret:Bool→Option S):Option S:=jy k ret c0
noncomputable def PE {S:Type} (k:Nat) (ret:Tm×Bool×Int×Int→Option S) (t:Tm) (c0:Int):Option S:=
 aa k (gb k (ac t)) fun r1=>
 aa k (f_ k (ac t) r1 c0) fun r2=>
 du k (ac r2.1) fun r3=>
 aa k (cY k r2.2) fun r4=>
 ret ((ac r3),r4,r2.2,r2.2)
noncomputable def f8 {S:Type} (k:Nat) (t:Tm) (c0:Int) (ret:Tm×Bool×Int×Int→Option S):Option S:=PE k ret t c0
def vW {S:Type} (k:Nat) (ret:Int→Option S) (l:List (List Cl)) (rec0:Int→Option S) (v7:Int):Option S:=
 ab (decide ((v7:Int)<(l.length:Int))) (
 Option.bind (aq l v7) fun x1=>
 aa k (iO k x1) fun r2=>
 ab (!r2) (
  ret 2) (
   rec0 (IntKind.wrap .i64 (v7+1)))) (
 ret 0)
noncomputable def pV {S:Type} (k:Nat) (ret:Int→Option S) (l:List (List Cl)):Nat→Int→Option S
 |0=>fun _=> .none
 |m+1=>fun v7=>vW k ret l (pV k ret l m) v7
noncomputable def FG {S:Type} (k:Nat) (ret:Int→Option S) (J0:Int→Option S) (l:List (List Cl)):Option S:=
 J0 0
noncomputable def o_ {S:Type} (k:Nat) (l:List (List Cl)) (ret:Int→Option S):Option S:=FG k ret (fun v7=>pV k ret l k v7) l
noncomputable def FA {S:Type} (k:Nat) (ret:List Cl→Option S):Option S:=
 ret ([]:List Cl)
noncomputable def sV {S:Type} (k:Nat) (ret:List Cl→Option S):Option S:=FA k ret
noncomputable def PA {S:Type} (k:Nat) (ret:Int→Option S) (i:Int):Option S:=
 Option.bind (da (0≤(IntKind.wrap .u64 (if 24<i then 24 else i)))) fun x1=>
 ret (IntKind.wrap .u32 (IntKind.wrap .u64 ((IntKind.wrap .u64 (1*2^min (Int.toNat (IntKind.wrap .u64 (if 24<i then 24 else i))) 64))-1)))
noncomputable def pj {S:Type} (k:Nat) (i:Int) (ret:Int→Option S):Option S:=PA k ret i
def Al {S:Type} (k:Nat) (ret:Int×Int→Option S) (s a_from a_by:Int):Option S:=
 ab (decide ((a_from:Int)<0)) (
 ret (0,2)) (
 ab (decide ((a_by:Int)<0)) (
  ret (0,2)) (
  aa k (pj k a_from) fun r1=>
  aa k (pj k a_from) fun r2=>
  ab ((IntKind.wrap .u64 (bG .andNot .u32 (bG .and .u32 s 16777215) r2))==0) (
  ret (bG .and .u32 (bG .and .u32 s 16777215) r1,0)) (
  ab (decide ((a_by:Int)≥24)) (
   ret (0,10)) (
   Option.bind (da (0≤(IntKind.wrap .u64 a_by))) fun x3=>
   ab (decide ((IntKind.wrap .u64 ((IntKind.wrap .u64 (bG .andNot .u32 (bG .and .u32 s 16777215) r2))*2^min (Int.toNat (IntKind.wrap .u64 a_by)) 64):Int)>16777215)) (
   ret (0,10)) (
   Option.bind (da (0≤(IntKind.wrap .u64 a_by))) fun x4=>
   ret (bG .or .u32 (bG .and .u32 (bG .and .u32 s 16777215) r1) (IntKind.wrap .u32 (IntKind.wrap .u64 ((IntKind.wrap .u64 (bG .andNot .u32 (bG .and .u32 s 16777215) r2))*2^min (Int.toNat (IntKind.wrap .u64 a_by)) 64))),0))))))
noncomputable def lW {S:Type} (k:Nat) (s a_from a_by:Int) (ret:Int×Int→Option S):Option S:=Al k ret s a_from a_by
def OF {S:Type} (k:Nat) (ret:Cl×Int→Option S) (c:Cl) (a_from a_by:Int):Option S:=
 aa k (sN k c) fun r1=>
 ab (!r1) (
 ret ((Cl.mk 0 0),2)) (
 aa k (lW k c.pos a_from a_by) fun r2=>
 ab (!(r2.2==0)) (
  ret ((Cl.mk 0 0),r2.2)) (
  aa k (lW k c.neg a_from a_by) fun r3=>
  ab (!(r3.2==0)) (
  ret ((Cl.mk 0 0),r3.2)) (
  ret ((Cl.mk r2.1 r3.1),0))))
noncomputable def xj {S:Type} (k:Nat) (c:Cl) (a_from a_by:Int) (ret:Cl×Int→Option S):Option S:=OF k ret c a_from a_by
noncomputable def O0 {S:Type} (k:Nat) (ret:List Cl×Int→Option S) (a_have:List Cl) (c:Cl) (c0 c1:Int):Option S:=
 aa k (xj k c c0 c1) fun r1=>
 Option.bind (aX 1099511627776 a_have.length [r1.1].length) fun x2=>
 ret (a_have++[r1.1],r1.2)
noncomputable def BV {S:Type} (k:Nat) (a_have:List Cl) (c:Cl) (c0 c1:Int) (ret:List Cl×Int→Option S):Option S:=O0 k ret a_have c c0 c1
def vT {S:Type} (k:Nat) (ret:List Cl×Int→Option S) (c0 c1:Int) (l:List Cl) (rec0:(List Cl)→Int→Option S) (v1:List Cl) (v15:Int):Option S:=
 ab (decide ((v15:Int)<(l.length:Int))) (
 Option.bind (aq l v15) fun x1=>
 aa k (BV k v1 x1 c0 c1) fun r2=>
 ab (!(r2.2==0)) (
  ret (([]:List Cl),r2.2)) (
   rec0 r2.1 (IntKind.wrap .i64 (v15+1)))) (
 ret (v1,0))
noncomputable def pT {S:Type} (k:Nat) (ret:List Cl×Int→Option S) (c0 c1:Int) (l:List Cl):Nat→(List Cl)→Int→Option S
 |0=>fun _ _=> .none
 |m+1=>fun v1 v15=>vT k ret c0 c1 l (pT k ret c0 c1 l m) v1 v15
noncomputable def FD {S:Type} (k:Nat) (ret:List Cl×Int→Option S) (J0:(List Cl)→Int→Option S) (l a_from:List Cl) (c0 c1:Int):Option S:=
 J0 a_from 0
noncomputable def xE {S:Type} (k:Nat) (l a_from:List Cl) (c0 c1:Int) (ret:List Cl×Int→Option S):Option S:=FD k ret (fun v1 v15=>pT k ret c0 c1 l k v1 v15) l a_from c0 c1
def OZ {S:Type} (k:Nat) (ret:List Cl×Int→Option S) (f:List Cl) (a_from a_by:Int):Option S:=
 aa k (o_ k [f]) fun r1=>
 ab (!(r1==0)) (
 ret (([]:List Cl),r1)) (
 aa k (sV k) fun r2=>
 aa k (xE k f r2 a_from a_by) fun r3=>
 ab (!(r3.2==0)) (
  ret (([]:List Cl),r3.2)) (
  aa k (g9 k r3.1) fun r4=>
  ret (r4.1,r4.2)))
noncomputable def kN {S:Type} (k:Nat) (f:List Cl) (a_from a_by:Int) (ret:List Cl×Int→Option S):Option S:=OZ k ret f a_from a_by
def Pu {S:Type} (k:Nat) (ret:Pan Int (List Cl)→Option S) (l_0 l_1:Int) (f:List Cl) (a_from:Int):Option S:=
 ab (l_1==0) (
 Option.bind (aX 1099511627776 0 f.length) fun x1=>
 ret (.ok f)) (
 ab (decide ((a_from:Int)≥24)) (
  Option.bind (aX 1099511627776 0 f.length) fun x2=>
  ret (.ok f)) (
  aa k (kN k f a_from l_1) fun r3=>
  ab (!(r3.2==0)) (
  ret (.pan r3.2)) (
  ret (.ok r3.1))))
noncomputable def sY {S:Type} (k:Nat) (l_0 l_1:Int) (f:List Cl) (a_from:Int) (ret:Pan Int (List Cl)→Option S):Option S:=Pu k ret l_0 l_1 f a_from
abbrev gC (S:Type):=Int→Int→Tm→Int→Int→(Pan Int Tm→Option S)→Option S
def wq {S:Type} (hd:gC S) (k:Nat) (ret:Pan Int Tm→Option S) (r12:List Cl) (l_0 l_1:Int) (t:Tm) (b9_1:Int) (r2:List Cl) (b9_4:List Tm) (b9_5:List (Br Tm)) (x10:(Br Tm)) (more14 v d v90:Int) (rec2:(List (Br Tm))→Int→Int→Option S) (rec3:(List Tm)→Int→Option S) (b17_1:List Tm) (v103:Int):Option S:=
 ab (decide ((v103:Int)<(x10.kids.length:Int))) (
 Option.bind (aq x10.kids v103) fun x14=>
 hd l_0 l_1 (ac x14) v (IntKind.wrap .i64 (d+more14)) fun r16=>Pan.elim r16 (fun r16=>
  Option.bind (aX 1099511627776 b17_1.length [(ac r16)].length) fun x18=>
   rec3 (b17_1++[(ac r16)]) (IntKind.wrap .i64 (v103+1))) (fun e17=>
  ret (.pan e17))) (
 Option.bind (aX 1099511627776 b9_5.length [(Br.mk r12 b17_1)].length) fun x19=>
  rec2 (b9_5++[(Br.mk r12 b17_1)]) more14 (IntKind.wrap .i64 (v90+1)))
noncomputable def mq {S:Type} (hd:gC S) (k:Nat) (ret:Pan Int Tm→Option S) (rec2:(List (Br Tm))→Int→Int→Option S) (r12:List Cl) (l_0 l_1:Int) (t:Tm) (b9_1:Int) (r2:List Cl) (b9_4:List Tm) (b9_5:List (Br Tm)) (x10:(Br Tm)) (more14 v d v90:Int):Nat→(List Tm)→Int→Option S
 |0=>fun _ _=> .none
 |m+1=>fun b17_1 v103=>wq hd k ret r12 l_0 l_1 t b9_1 r2 b9_4 b9_5 x10 more14 v d v90 rec2 (mq hd k ret rec2 r12 l_0 l_1 t b9_1 r2 b9_4 b9_5 x10 more14 v d v90 m) b17_1 v103
def rP {S:Type} (hd:gC S) (k:Nat) (ret:Pan Int Tm→Option S) (l_0 l_1:Int) (t:Tm) (b9_1:Int) (r2:List Cl) (b9_4:List Tm) (v d:Int) (J3:(List Cl)→(List (Br Tm))→(Br Tm)→Int→Int→(List Tm)→Int→Option S) (rec2:(List (Br Tm))→Int→Int→Option S) (b9_5:List (Br Tm)) (more14 v90:Int):Option S:=
 ab (decide ((v90:Int)<(t.sys.length:Int))) (
 Option.bind (aq t.sys v90) fun x10=>
 aa k (sY k l_0 l_1 x10.face d) fun r12=>Pan.elim r12 (fun r12=>
   J3 r12 b9_5 x10 more14 v90 ([]:List Tm) 0) (fun e13=>
  ret (.pan e13))) (
 ret (.ok (Tm.mk t.kind b9_1 t.name r2 b9_4 b9_5)))
noncomputable def iX {S:Type} (hd:gC S) (k:Nat) (ret:Pan Int Tm→Option S) (l_0 l_1:Int) (t:Tm) (b9_1:Int) (r2:List Cl) (b9_4:List Tm) (v d:Int):Nat→(List (Br Tm))→Int→Int→Option S
 |0=>fun _ _ _=> .none
 |m+1=>fun b9_5 more14 v90=>rP hd k ret l_0 l_1 t b9_1 r2 b9_4 v d (fun r12 b9_5 x10 more14 v90 b17_1 v103=>mq hd k ret (iX hd k ret l_0 l_1 t b9_1 r2 b9_4 v d m) r12 l_0 l_1 t b9_1 r2 b9_4 b9_5 x10 more14 v d v90 k b17_1 v103) (iX hd k ret l_0 l_1 t b9_1 r2 b9_4 v d m) b9_5 more14 v90
def rO {S:Type} (hd:gC S) (k:Nat) (ret:Pan Int Tm→Option S) (l_0 l_1:Int) (t:Tm) (b9_1:Int) (r2:List Cl) (v d:Int) (J2:(List Tm)→(List (Br Tm))→Int→Int→Option S) (rec1:(List Tm)→Int→Option S) (b9_4:List Tm) (v57:Int):Option S:=
 ab (decide ((v57:Int)<(t.kids.length:Int))) (
 Option.bind (aq t.kids v57) fun x4=>
 aa k (gI k t.kind v57) fun r5=>
 hd l_0 l_1 (ac x4) (IntKind.wrap .i64 (v+r5.1)) (IntKind.wrap .i64 (d+r5.2)) fun r7=>Pan.elim r7 (fun r7=>
  Option.bind (aX 1099511627776 b9_4.length [(ac r7)].length) fun x9=>
   rec1 (b9_4++[(ac r7)]) (IntKind.wrap .i64 (v57+1))) (fun e8=>
  ret (.pan e8))) (
 ab (t.kind==15) (
   J2 b9_4 ([]:List (Br Tm)) 1 0) (
   J2 b9_4 ([]:List (Br Tm)) 0 0))
noncomputable def lb {S:Type} (hd:gC S) (k:Nat) (ret:Pan Int Tm→Option S) (l_0 l_1:Int) (t:Tm) (b9_1:Int) (r2:List Cl) (v d:Int):Nat→(List Tm)→Int→Option S
 |0=>fun _ _=> .none
 |m+1=>fun b9_4 v57=>rO hd k ret l_0 l_1 t b9_1 r2 v d (fun b9_4 b9_5 more14 v90=>iX hd k ret l_0 l_1 t b9_1 r2 b9_4 v d k b9_5 more14 v90) (lb hd k ret l_0 l_1 t b9_1 r2 v d m) b9_4 v57
noncomputable def Bk {S:Type} (hd:gC S) (k:Nat) (ret:Pan Int Tm→Option S) (l_0 l_1:Int) (t:Tm) (r2:List Cl) (v d:Int) (J1:Int→(List Tm)→Int→Option S) (b9_1:Int):Option S:=
 J1 b9_1 ([]:List Tm) 0
noncomputable def tH {S:Type} (hd:gC S) (k:Nat) (ret:Pan Int Tm→Option S) (l_0 l_1:Int) (t:Tm) (r2:List Cl) (v d:Int):Nat→Int→Option S
 |0=>fun _=> .none
 |_+1=>fun b9_1=>Bk hd k ret l_0 l_1 t r2 v d (fun b9_1 b9_4 v57=>lb hd k ret l_0 l_1 t b9_1 r2 v d k b9_4 v57) b9_1
def FU {S:Type} (hd:gC S) (k:Nat) (ret:Pan Int Tm→Option S) (J0:(List Cl)→Int→Option S) (l_0 l_1:Int) (t:Tm) (v d:Int):Option S:=
 aa k (sY k l_0 l_1 t.r d) fun r2=>Pan.elim r2 (fun r2=>
 ab (t.kind==1) (
  ab (decide ((t.n:Int)≥v)) (
  ab (decide ((t.n:Int)>(IntKind.wrap .i64 (1000000000-l_0)))) (
   ret (.pan 100)) (
     J0 r2 (IntKind.wrap .i64 (t.n+l_0)))) (
    J0 r2 t.n)) (
   J0 r2 t.n)) (fun e3=>
 ret (.pan e3))
noncomputable def dt {S:Type}:Nat→Int→Int→Tm→Int→Int→(Pan Int Tm→Option S)→Option S
 |0=>fun _ _ _ _ _ _=> .none
 |k+1=>fun l_0 l_1 t v d ret=>FU (dt k) k ret (fun r2 b9_1=>tH (dt k) k ret l_0 l_1 t r2 v d k b9_1) l_0 l_1 t v d
noncomputable def Pr {S:Type} (k:Nat) (ret:Pan Int Tm→Option S) (c0 c1:Int) (c2:Tm):Option S:=
 dt k c1 0 (ac c2) 0 0 fun r2=>Pan.elim r2 (fun r2=>
 dt k 0 c0 (ac r2) 0 0 fun r5=>Pan.elim r5 (fun r5=>
  ret (.ok (ac r5))) (fun e6=>
  ret (.pan e6))) (fun e3=>
 ret (.pan e3))
noncomputable def xV {S:Type} (k:Nat) (c0 c1:Int) (c2:Tm) (ret:Pan Int Tm→Option S):Option S:=Pr k ret c0 c1 c2
def wm {S:Type} (k:Nat) (ret:Tm×Int→Option S) (c0 c1:Int) (c2:Tm) (numbers:List Int) (rec0:Int→Option S) (v19:Int):Option S:=
 ab (decide ((v19:Int)<(numbers.length:Int))) (
 Option.bind (aq numbers v19) fun x2=>
 ab (decide ((x2:Int)<0)) (
  ret ((Tm.mk 0 0 ByteArray.empty [] [] []),2)) (
   rec0 (IntKind.wrap .i64 (v19+1)))) (
 aa k (xV k c0 c1 (ac c2)) fun r4=>Pan.elim r4 (fun r4=>
  ret ((ac r4),0)) (fun e5=>
  ret ((Tm.mk 0 0 ByteArray.empty [] [] []),e5)))
noncomputable def nQ {S:Type} (k:Nat) (ret:Tm×Int→Option S) (c0 c1:Int) (c2:Tm) (numbers:List Int):Nat→Int→Option S
 |0=>fun _=> .none
 |m+1=>fun v19=>wm k ret c0 c1 c2 numbers (nQ k ret c0 c1 c2 numbers m) v19
def Ak {S:Type} (k:Nat) (ret:Tm×Int→Option S) (J0:Int→Option S) (t:Tm) (numbers:List Int) (c0 c1:Int) (c2:Tm):Option S:=
 aa k (gb k (ac t)) fun r1=>
 ab (!(r1==0)) (
 ret ((Tm.mk 0 0 ByteArray.empty [] [] []),r1)) (
  J0 0)
noncomputable def x_ {S:Type} (k:Nat) (t:Tm) (numbers:List Int) (c0 c1:Int) (c2:Tm) (ret:Tm×Int→Option S):Option S:=Ak k ret (fun v19=>nQ k ret c0 c1 c2 numbers k v19) t numbers c0 c1 c2
noncomputable def FR {S:Type} (k:Nat) (ret:Tm×Int→Option S) (t:Tm) (vars dims:Int):Option S:=
 aa k (x_ k (ac t) [vars,dims,IntKind.wrap .i64 (1000000-vars)] dims vars (ac t)) fun r1=>
 ret ((ac r1.1),r1.2)
noncomputable def lS {S:Type} (k:Nat) (t:Tm) (vars dims:Int) (ret:Tm×Int→Option S):Option S:=FR k ret t vars dims
def PN {S:Type} (k:Nat) (ret:Tm×Int→Option S) (t:Tm) (vars dims c0:Int):Option S:=
 aa k (cY k c0) fun r1=>
 ab (!r1) (
 ret ((Tm.mk 0 0 ByteArray.empty [] [] []),c0)) (
 aa k (lS k (ac t) vars dims) fun r2=>
 aa k (f_ k (ac r2.1) r2.2 c0) fun r3=>
 ret ((ac r3.1),r3.2))
noncomputable def eu {S:Type} (k:Nat) (t:Tm) (vars dims c0:Int) (ret:Tm×Int→Option S):Option S:=PN k ret t vars dims c0
noncomputable def FW {S:Type} (k:Nat) (ret:Int×Int×ByteArray→Option S) (a_n:Int):Option S:=
 ret (1,a_n,ByteArray.empty)
noncomputable def s8 {S:Type} (k:Nat) (a_n:Int) (ret:Int×Int×ByteArray→Option S):Option S:=FW k ret a_n
def Ov {S:Type} (k:Nat) (ret:Int→Option S) (a_e c0:Int):Option S:=
 ab (c0==0) (
 ret a_e) (
 ret c0)
noncomputable def jJ {S:Type} (k:Nat) (a_e c0:Int) (ret:Int→Option S):Option S:=Ov k ret a_e c0
def vC {S:Type} (k:Nat) (ret:Int→Option S) (l:List Tm) (rec0:Int→Int→Option S) (b7_0 v10:Int):Option S:=
 ab (decide ((v10:Int)<(l.length:Int))) (
 Option.bind (aq l v10) fun x1=>
 aa k (gb k (ac x1)) fun r2=>
 aa k (jJ k r2 b7_0) fun r3=>
  rec0 r3 (IntKind.wrap .i64 (v10+1))) (
 ret b7_0)
noncomputable def pJ {S:Type} (k:Nat) (ret:Int→Option S) (l:List Tm):Nat→Int→Int→Option S
 |0=>fun _ _=> .none
 |m+1=>fun b7_0 v10=>vC k ret l (pJ k ret l m) b7_0 v10
noncomputable def E_ {S:Type} (k:Nat) (ret:Int→Option S) (J0:Int→Int→Option S) (l:List Tm):Option S:=
 J0 0 0
noncomputable def lP {S:Type} (k:Nat) (l:List Tm) (ret:Int→Option S):Option S:=E_ k ret (fun b7_0 v10=>pJ k ret l k b7_0 v10) l
noncomputable def gZ {S:Type} (k:Nat) (ret:Bool→Option S) (c0:Int):Option S:=
 ret (c0==0)
noncomputable def dm {S:Type} (k:Nat) (c0:Int) (ret:Bool→Option S):Option S:=gZ k ret c0
def Oz {S:Type} (k:Nat) (ret:List Cl×Int→Option S) (f:List Cl) (c0:Int):Option S:=
 aa k (dm k c0) fun r1=>
 ab (!r1) (
 ret (([]:List Cl),c0)) (
 aa k (kN k f 0 1) fun r2=>
 aa k (jJ k r2.2 c0) fun r3=>
 ret (r2.1,r3))
noncomputable def sL {S:Type} (k:Nat) (f:List Cl) (c0:Int) (ret:List Cl×Int→Option S):Option S:=Oz k ret f c0
noncomputable def OW {S:Type} (k:Nat) (ret:List Cl×Int→Option S) (f g:List Cl):Option S:=
 Option.bind (aX 1099511627776 ([]:List Cl).length f.length) fun x1=>
 Option.bind (aX 1099511627776 (([]:List Cl)++f).length g.length) fun x2=>
 aa k (g9 k ((([]:List Cl)++f)++g)) fun r3=>
 ret (r3.1,r3.2)
noncomputable def xv {S:Type} (k:Nat) (f g:List Cl) (ret:List Cl×Int→Option S):Option S:=OW k ret f g
noncomputable def Ps {S:Type} (k:Nat) (ret:Pan Int Tm→Option S) (c0:Int) (c1:Tm) (c2:Int):Option S:=
 dt k 0 c0 (ac c1) 0 (if 24<c2 then 24 else c2) fun r2=>Pan.elim r2 (fun r2=>
 ret (.ok (ac r2))) (fun e3=>
 ret (.pan e3))
noncomputable def xW {S:Type} (k:Nat) (c0:Int) (c1:Tm) (c2:Int) (ret:Pan Int Tm→Option S):Option S:=Ps k ret c0 c1 c2
def wj {S:Type} (k:Nat) (ret:Tm×Int→Option S) (c0:Int) (c1:Tm) (c2:Int) (numbers:List Int) (rec0:Int→Option S) (v19:Int):Option S:=
 ab (decide ((v19:Int)<(numbers.length:Int))) (
 Option.bind (aq numbers v19) fun x2=>
 ab (decide ((x2:Int)<0)) (
  ret ((Tm.mk 0 0 ByteArray.empty [] [] []),2)) (
   rec0 (IntKind.wrap .i64 (v19+1)))) (
 aa k (xW k c0 (ac c1) c2) fun r4=>Pan.elim r4 (fun r4=>
  ret ((ac r4),0)) (fun e5=>
  ret ((Tm.mk 0 0 ByteArray.empty [] [] []),e5)))
noncomputable def nO {S:Type} (k:Nat) (ret:Tm×Int→Option S) (c0:Int) (c1:Tm) (c2:Int) (numbers:List Int):Nat→Int→Option S
 |0=>fun _=> .none
 |m+1=>fun v19=>wj k ret c0 c1 c2 numbers (nO k ret c0 c1 c2 numbers m) v19
def Ai {S:Type} (k:Nat) (ret:Tm×Int→Option S) (J0:Int→Option S) (t:Tm) (numbers:List Int) (c0:Int) (c1:Tm) (c2:Int):Option S:=
 aa k (gb k (ac t)) fun r1=>
 ab (!(r1==0)) (
 ret ((Tm.mk 0 0 ByteArray.empty [] [] []),r1)) (
  J0 0)
noncomputable def xY {S:Type} (k:Nat) (t:Tm) (numbers:List Int) (c0:Int) (c1:Tm) (c2:Int) (ret:Tm×Int→Option S):Option S:=Ai k ret (fun v19=>nO k ret c0 c1 c2 numbers k v19) t numbers c0 c1 c2
noncomputable def FS {S:Type} (k:Nat) (ret:Tm×Int→Option S) (t:Tm) (a_from a_by:Int):Option S:=
 aa k (xY k (ac t) [a_from,a_by] a_by (ac t) a_from) fun r1=>
 ret ((ac r1.1),r1.2)
noncomputable def lU {S:Type} (k:Nat) (t:Tm) (a_from a_by:Int) (ret:Tm×Int→Option S):Option S:=FS k ret t a_from a_by
def Py {S:Type} (k:Nat) (ret:Int→Option S) (s i:Int):Option S:=
 aa k (ny k i) fun r1=>
 ab (!r1) (
 ret (bG .and .u32 s 16777215)) (
 Option.bind (da (0≤(IntKind.wrap .u64 i))) fun x2=>
 ret (bG .or .u32 (bG .and .u32 s 16777215) (IntKind.wrap .u32 (1*2^min (Int.toNat (IntKind.wrap .u64 i)) 32))))
noncomputable def jK {S:Type} (k:Nat) (s i:Int) (ret:Int→Option S):Option S:=Py k ret s i
noncomputable def agT {S:Type} (k:Nat) (ret:Int→Option S) (a_x:Int):Option S:=
 Option.bind (aq (ByteArray.mk #[0,1,1,2,1,2,2,3,1,2,2,3,2,3,3,4,1,2,2,3,2,3,3,4,2,3,3,4,3,4,4,5,1,2,2,3,2,3,3,4,2,3,3,4,3,4,4,5,2,3,3,4,3,4,4,5,3,4,4,5,4,5,5,6,1,2,2,3,2,3,3,4,2,3,3,4,3,4,4,5,2,3,3,4,3,4,4,5,3,4,4,5,4,5,5,6,2,3,3,4,3,4,4,5,3,4,4,5,4,5,5,6,3,4,4,5,4,5,5,6,4,5,5,6,5,6,6,7,1,2,2,3,2,3,3,4,2,3,3,4,3,4,4,5,2,3,3,4,3,4,4,5,3,4,4,5,4,5,5,6,2,3,3,4,3,4,4,5,3,4,4,5,4,5,5,6,3,4,4,5,4,5,5,6,4,5,5,6,5,6,6,7,2,3,3,4,3,4,4,5,3,4,4,5,4,5,5,6,3,4,4,5,4,5,5,6,4,5,5,6,5,6,6,7,3,4,4,5,4,5,5,6,4,5,5,6,5,6,6,7,4,5,5,6,5,6,6,7,5,6,6,7,6,7,7,8]).data.toList (Int.fdiv a_x (2^min (Int.toNat 24) 32))) fun x1=>
 Option.bind (aq (ByteArray.mk #[0,1,1,2,1,2,2,3,1,2,2,3,2,3,3,4,1,2,2,3,2,3,3,4,2,3,3,4,3,4,4,5,1,2,2,3,2,3,3,4,2,3,3,4,3,4,4,5,2,3,3,4,3,4,4,5,3,4,4,5,4,5,5,6,1,2,2,3,2,3,3,4,2,3,3,4,3,4,4,5,2,3,3,4,3,4,4,5,3,4,4,5,4,5,5,6,2,3,3,4,3,4,4,5,3,4,4,5,4,5,5,6,3,4,4,5,4,5,5,6,4,5,5,6,5,6,6,7,1,2,2,3,2,3,3,4,2,3,3,4,3,4,4,5,2,3,3,4,3,4,4,5,3,4,4,5,4,5,5,6,2,3,3,4,3,4,4,5,3,4,4,5,4,5,5,6,3,4,4,5,4,5,5,6,4,5,5,6,5,6,6,7,2,3,3,4,3,4,4,5,3,4,4,5,4,5,5,6,3,4,4,5,4,5,5,6,4,5,5,6,5,6,6,7,3,4,4,5,4,5,5,6,4,5,5,6,5,6,6,7,4,5,5,6,5,6,6,7,5,6,6,7,6,7,7,8]).data.toList (bG .and .u32 (Int.fdiv a_x (2^min (Int.toNat 16) 32)) 255)) fun x2=>
 Option.bind (aq (ByteArray.mk #[0,1,1,2,1,2,2,3,1,2,2,3,2,3,3,4,1,2,2,3,2,3,3,4,2,3,3,4,3,4,4,5,1,2,2,3,2,3,3,4,2,3,3,4,3,4,4,5,2,3,3,4,3,4,4,5,3,4,4,5,4,5,5,6,1,2,2,3,2,3,3,4,2,3,3,4,3,4,4,5,2,3,3,4,3,4,4,5,3,4,4,5,4,5,5,6,2,3,3,4,3,4,4,5,3,4,4,5,4,5,5,6,3,4,4,5,4,5,5,6,4,5,5,6,5,6,6,7,1,2,2,3,2,3,3,4,2,3,3,4,3,4,4,5,2,3,3,4,3,4,4,5,3,4,4,5,4,5,5,6,2,3,3,4,3,4,4,5,3,4,4,5,4,5,5,6,3,4,4,5,4,5,5,6,4,5,5,6,5,6,6,7,2,3,3,4,3,4,4,5,3,4,4,5,4,5,5,6,3,4,4,5,4,5,5,6,4,5,5,6,5,6,6,7,3,4,4,5,4,5,5,6,4,5,5,6,5,6,6,7,4,5,5,6,5,6,6,7,5,6,6,7,6,7,7,8]).data.toList (bG .and .u32 (Int.fdiv a_x (2^min (Int.toNat 8) 32)) 255)) fun x3=>
 Option.bind (aq (ByteArray.mk #[0,1,1,2,1,2,2,3,1,2,2,3,2,3,3,4,1,2,2,3,2,3,3,4,2,3,3,4,3,4,4,5,1,2,2,3,2,3,3,4,2,3,3,4,3,4,4,5,2,3,3,4,3,4,4,5,3,4,4,5,4,5,5,6,1,2,2,3,2,3,3,4,2,3,3,4,3,4,4,5,2,3,3,4,3,4,4,5,3,4,4,5,4,5,5,6,2,3,3,4,3,4,4,5,3,4,4,5,4,5,5,6,3,4,4,5,4,5,5,6,4,5,5,6,5,6,6,7,1,2,2,3,2,3,3,4,2,3,3,4,3,4,4,5,2,3,3,4,3,4,4,5,3,4,4,5,4,5,5,6,2,3,3,4,3,4,4,5,3,4,4,5,4,5,5,6,3,4,4,5,4,5,5,6,4,5,5,6,5,6,6,7,2,3,3,4,3,4,4,5,3,4,4,5,4,5,5,6,3,4,4,5,4,5,5,6,4,5,5,6,5,6,6,7,3,4,4,5,4,5,5,6,4,5,5,6,5,6,6,7,4,5,5,6,5,6,6,7,5,6,6,7,6,7,7,8]).data.toList (bG .and .u32 a_x 255)) fun x4=>
 ret (IntKind.wrap .i64 (IntKind.wrap .u8 ((IntKind.wrap .u8 ((IntKind.wrap .u8 ((x1.toNat:Int)+(x2.toNat:Int)))+(x3.toNat:Int)))+(x4.toNat:Int))))
noncomputable def Hg {S:Type} (k:Nat) (a_x:Int) (ret:Int→Option S):Option S:=agT k ret a_x
noncomputable def FV {S:Type} (k:Nat) (ret:Int→Option S) (s:Int):Option S:=
 aa k (Hg k (bG .and .u32 s 16777215)) fun r1=>
 ret r1
noncomputable def lV {S:Type} (k:Nat) (s:Int) (ret:Int→Option S):Option S:=FV k ret s
noncomputable def OI {S:Type} (k:Nat) (ret:Bool→Option S) (i:Int):Option S:=
 aa k (jK k 0 i) fun r1=>
 aa k (lV k r1) fun r2=>
 ret (r2==1)
noncomputable def xk {S:Type} (k:Nat) (i:Int) (ret:Bool→Option S):Option S:=OI k ret i
def Fs {S:Type} (k:Nat) (ret:Int→Option S) (t:Tm) (i:Int) (a_r:List Cl):Option S:=
 aa k (gb k (ac t)) fun r1=>
 ab (!(r1==0)) (
 ret r1) (
 aa k (xk k i) fun r2=>
 ab (!r2) (
  ret 2) (
  aa k (iO k a_r) fun r3=>
  ab (!r3) (
  ret 2) (
  ret 0)))
noncomputable def xp {S:Type} (k:Nat) (t:Tm) (i:Int) (a_r:List Cl) (ret:Int→Option S):Option S:=Fs k ret t i a_r
noncomputable def ON {S:Type} (k:Nat) (ret:Unit→Option S) (c0:Int) (c1:List Cl):Option S:=
 ret ()
noncomputable def BP {S:Type} (k:Nat) (c0:Int) (c1:List Cl) (ret:Unit→Option S):Option S:=ON k ret c0 c1
noncomputable def OO {S:Type} (k:Nat) (ret:Unit→Option S) (c0:Int) (c1:List Cl):Option S:=
 ret ()
noncomputable def BQ {S:Type} (k:Nat) (c0:Int) (c1:List Cl) (ret:Unit→Option S):Option S:=OO k ret c0 c1
noncomputable def OK {S:Type} (k:Nat) (ret:Int×List Cl→Option S) (i:Int) (a_r:List Cl):Option S:=
 aa k (BP k i a_r) fun r1=>
 aa k (BQ k i a_r) fun r2=>
 ret (i,a_r)
noncomputable def BO {S:Type} (k:Nat) (i:Int) (a_r:List Cl) (ret:Int×List Cl→Option S):Option S:=OK k ret i a_r
def Pw {S:Type} (k:Nat) (ret:Bool→Option S) (s i:Int):Option S:=
 aa k (ny k i) fun r1=>
 ab (r1) (
 Option.bind (da (0≤(IntKind.wrap .u64 i))) fun x2=>
 ret ((bG .and .u32 (Int.fdiv s (2^min (Int.toNat (IntKind.wrap .u64 i)) 32)) 1)==1)) (
 ret false)
noncomputable def iP {S:Type} (k:Nat) (s i:Int) (ret:Bool→Option S):Option S:=Pw k ret s i
noncomputable def Fh {S:Type} (k:Nat) (ret:List Cl→Option S) (f:List Cl):Option S:=
 Option.bind (aX 1099511627776 0 f.length) fun x1=>
 ret f
noncomputable def sO {S:Type} (k:Nat) (f:List Cl) (ret:List Cl→Option S):Option S:=Fh k ret f
noncomputable def OV {S:Type} (k:Nat) (ret:Bool→Option S) (i:Int):Option S:=
 aa k (jK k 0 i) fun r1=>
 aa k (lV k r1) fun r2=>
 ret (r2==1)
noncomputable def xu {S:Type} (k:Nat) (i:Int) (ret:Bool→Option S):Option S:=OV k ret i
noncomputable def OU {S:Type} (k:Nat) (ret:Cl×Bool→Option S) (c:Cl):Option S:=
 aa k (sM k c) fun r1=>
 ret (c,!r1)
noncomputable def sU {S:Type} (k:Nat) (c:Cl) (ret:Cl×Bool→Option S):Option S:=OU k ret c
def vO {S:Type} (k:Nat) (ret:List Cl→Option S) (l:List Cl) (rec0:Int→(List Cl)→Option S) (v12:Int) (out5:List Cl):Option S:=
 ab (decide ((v12:Int)<(l.length:Int))) (
 Option.bind (aq l v12) fun x1=>
 aa k (sU k x1) fun r2=>
 ab (r2.2) (
  Option.bind (aX 1099511627776 out5.length [r2.1].length) fun x3=>
   rec0 (IntKind.wrap .i64 (v12+1)) (out5++[r2.1])) (
   rec0 (IntKind.wrap .i64 (v12+1)) out5)) (
 ret out5)
noncomputable def pO {S:Type} (k:Nat) (ret:List Cl→Option S) (l:List Cl):Nat→Int→(List Cl)→Option S
 |0=>fun _ _=> .none
 |m+1=>fun v12 out5=>vO k ret l (pO k ret l m) v12 out5
noncomputable def Fw {S:Type} (k:Nat) (ret:List Cl→Option S) (J0:Int→(List Cl)→Option S) (l:List Cl):Option S:=
 J0 0 ([]:List Cl)
noncomputable def xx {S:Type} (k:Nat) (l:List Cl) (ret:List Cl→Option S):Option S:=Fw k ret (fun v12 out5=>pO k ret l k v12 out5) l
def OR {S:Type} (k:Nat) (ret:List Cl×Int→Option S) (f:List Cl):Option S:=
 aa k (iO k f) fun r1=>
 ab (!r1) (
 ret (([]:List Cl),2)) (
 aa k (xx k f) fun r2=>
 aa k (g9 k r2) fun r3=>
 ret (r3.1,r3.2))
noncomputable def sS {S:Type} (k:Nat) (f:List Cl) (ret:List Cl×Int→Option S):Option S:=OR k ret f
noncomputable def OX {S:Type} (k:Nat) (ret:Cl×Bool→Option S) (b c0:Cl):Option S:=
 aa k (oX k c0 b) fun r1=>
 aa k (sU k r1) fun r2=>
 ret (r2.1,r2.2)
noncomputable def xy {S:Type} (k:Nat) (b c0:Cl) (ret:Cl×Bool→Option S):Option S:=OX k ret b c0
def vM {S:Type} (k:Nat) (ret:List Cl→Option S) (c0:Cl) (l:List Cl) (rec0:Int→(List Cl)→Option S) (v12:Int) (out5:List Cl):Option S:=
 ab (decide ((v12:Int)<(l.length:Int))) (
 Option.bind (aq l v12) fun x1=>
 aa k (xy k x1 c0) fun r2=>
 ab (r2.2) (
  Option.bind (aX 1099511627776 out5.length [r2.1].length) fun x3=>
   rec0 (IntKind.wrap .i64 (v12+1)) (out5++[r2.1])) (
   rec0 (IntKind.wrap .i64 (v12+1)) out5)) (
 ret out5)
noncomputable def pN {S:Type} (k:Nat) (ret:List Cl→Option S) (c0:Cl) (l:List Cl):Nat→Int→(List Cl)→Option S
 |0=>fun _ _=> .none
 |m+1=>fun v12 out5=>vM k ret c0 l (pN k ret c0 l m) v12 out5
noncomputable def Fv {S:Type} (k:Nat) (ret:List Cl→Option S) (J0:Int→(List Cl)→Option S) (l:List Cl) (c0:Cl):Option S:=
 J0 0 ([]:List Cl)
noncomputable def xw {S:Type} (k:Nat) (l:List Cl) (c0:Cl) (ret:List Cl→Option S):Option S:=Fv k ret (fun v12 out5=>pN k ret c0 l k v12 out5) l c0
def vP {S:Type} (k:Nat) (ret:List Cl×Int→Option S) (g f:List Cl) (rec0:Int→(List Cl)→Option S) (v11:Int) (out6:List Cl):Option S:=
 ab (decide ((v11:Int)<(f.length:Int))) (
 Option.bind (aq f v11) fun x1=>
 aa k (xw k g x1) fun r2=>
 Option.bind (aX 1099511627776 out6.length r2.length) fun x3=>
  rec0 (IntKind.wrap .i64 (v11+1)) (out6++r2)) (
 aa k (g9 k out6) fun r4=>
 ret (r4.1,r4.2))
noncomputable def pP {S:Type} (k:Nat) (ret:List Cl×Int→Option S) (g f:List Cl):Nat→Int→(List Cl)→Option S
 |0=>fun _ _=> .none
 |m+1=>fun v11 out6=>vP k ret g f (pP k ret g f m) v11 out6
noncomputable def Fy {S:Type} (k:Nat) (ret:List Cl×Int→Option S) (J0:Int→(List Cl)→Option S) (f g:List Cl):Option S:=
 J0 0 ([]:List Cl)
noncomputable def o0 {S:Type} (k:Nat) (f g:List Cl) (ret:List Cl×Int→Option S):Option S:=Fy k ret (fun v11 out6=>pP k ret g f k v11 out6) f g
noncomputable def Ah {S:Type} (k:Nat) (ret:List Cl→Option S):Option S:=
 ret [(Cl.mk 0 0)]
noncomputable def nr {S:Type} (k:Nat) (ret:List Cl→Option S):Option S:=Ah k ret
def vV {S:Type} (k:Nat) (ret:List Cl×Int→Option S) (r5:List Int) (rec1:Int→(List Cl)→Option S) (v28:Int) (out4':List Cl):Option S:=
 ab (decide ((v28:Int)<(r5.length:Int))) (
 Option.bind (aq r5 v28) fun x6=>
 aa k (jK k 0 x6) fun r7=>
 Option.bind (aX 1099511627776 out4'.length [(Cl.mk r7 0)].length) fun x8=>
  rec1 (IntKind.wrap .i64 (v28+1)) (out4'++[(Cl.mk r7 0)])) (
 aa k (g9 k out4') fun r9=>
 ret (r9.1,r9.2))
noncomputable def nM {S:Type} (k:Nat) (ret:List Cl×Int→Option S) (r5:List Int):Nat→Int→(List Cl)→Option S
 |0=>fun _ _=> .none
 |m+1=>fun v28 out4'=>vV k ret r5 (nM k ret r5 m) v28 out4'
def rL {S:Type} (k:Nat) (ret:List Cl×Int→Option S) (c:Cl) (r1:List Int) (J1:(List Int)→Int→(List Cl)→Option S) (rec0:Int→(List Cl)→Option S) (v13:Int) (out4:List Cl):Option S:=
 ab (decide ((v13:Int)<(r1.length:Int))) (
 Option.bind (aq r1 v13) fun x2=>
 aa k (jK k 0 x2) fun r3=>
 Option.bind (aX 1099511627776 out4.length [(Cl.mk 0 r3)].length) fun x4=>
  rec0 (IntKind.wrap .i64 (v13+1)) (out4++[(Cl.mk 0 r3)])) (
 ut c.neg fun r5=>
  J1 r5 0 out4)
noncomputable def pU {S:Type} (k:Nat) (ret:List Cl×Int→Option S) (c:Cl) (r1:List Int):Nat→Int→(List Cl)→Option S
 |0=>fun _ _=> .none
 |m+1=>fun v13 out4=>rL k ret c r1 (fun r5 v28 out4'=>nM k ret r5 k v28 out4') (pU k ret c r1 m) v13 out4
noncomputable def FF {S:Type} (k:Nat) (ret:List Cl×Int→Option S) (J0:(List Int)→Int→(List Cl)→Option S) (c:Cl):Option S:=
 ut c.pos fun r1=>
 J0 r1 0 ([]:List Cl)
noncomputable def xG {S:Type} (k:Nat) (c:Cl) (ret:List Cl×Int→Option S):Option S:=FF k ret (fun r1 v13 out4=>pU k ret c r1 k v13 out4) c
def vU {S:Type} (k:Nat) (ret:List Cl×Int→Option S) (x1:Cl) (g f:List Cl) (v13:Int) (rec0:Int→(List Cl)→Option S) (rec1:Int→(List Cl)→Option S) (v19:Int) (out6':List Cl):Option S:=
 ab (decide ((v19:Int)<(g.length:Int))) (
 Option.bind (aq g v19) fun x2=>
 aa k (oX k x1 x2) fun r3=>
 Option.bind (aX 1099511627776 out6'.length [r3].length) fun x4=>
  rec1 (IntKind.wrap .i64 (v19+1)) (out6'++[r3])) (
  rec0 (IntKind.wrap .i64 (v13+1)) out6')
noncomputable def nL {S:Type} (k:Nat) (ret:List Cl×Int→Option S) (rec0:Int→(List Cl)→Option S) (x1:Cl) (g f:List Cl) (v13:Int):Nat→Int→(List Cl)→Option S
 |0=>fun _ _=> .none
 |m+1=>fun v19 out6'=>vU k ret x1 g f v13 rec0 (nL k ret rec0 x1 g f v13 m) v19 out6'
def rK {S:Type} (k:Nat) (ret:List Cl×Int→Option S) (g f:List Cl) (J1:Cl→Int→Int→(List Cl)→Option S) (rec0:Int→(List Cl)→Option S) (v13:Int) (out6:List Cl):Option S:=
 ab (decide ((v13:Int)<(f.length:Int))) (
 Option.bind (aq f v13) fun x1=>
  J1 x1 v13 0 out6) (
 aa k (g9 k out6) fun r5=>
 ret (r5.1,r5.2))
noncomputable def mo {S:Type} (k:Nat) (ret:List Cl×Int→Option S) (g f:List Cl):Nat→Int→(List Cl)→Option S
 |0=>fun _ _=> .none
 |m+1=>fun v13 out6=>rK k ret g f (fun x1 v13 v19 out6'=>nL k ret (mo k ret g f m) x1 g f v13 k v19 out6') (mo k ret g f m) v13 out6
noncomputable def FE {S:Type} (k:Nat) (ret:List Cl×Int→Option S) (J0:Int→(List Cl)→Option S) (f g:List Cl):Option S:=
 J0 0 ([]:List Cl)
noncomputable def kO {S:Type} (k:Nat) (f g:List Cl) (ret:List Cl×Int→Option S):Option S:=FE k ret (fun v13 out6=>mo k ret g f k v13 out6) f g
def O7 {S:Type} (k:Nat) (ret:List Cl×Int→Option S) (a_have:List Cl) (c:Cl):Option S:=
 aa k (xG k c) fun r1=>
 ab (!(r1.2==0)) (
 ret (([]:List Cl),r1.2)) (
 aa k (kO k a_have r1.1) fun r2=>
 ret (r2.1,r2.2))
noncomputable def xF {S:Type} (k:Nat) (a_have:List Cl) (c:Cl) (ret:List Cl×Int→Option S):Option S:=O7 k ret a_have c
def vS {S:Type} (k:Nat) (ret:List Cl×Int→Option S) (l:List Cl) (rec0:(List Cl)→Int→Option S) (v1:List Cl) (v15:Int):Option S:=
 ab (decide ((v15:Int)<(l.length:Int))) (
 Option.bind (aq l v15) fun x1=>
 aa k (xF k v1 x1) fun r2=>
 ab (!(r2.2==0)) (
  ret (([]:List Cl),r2.2)) (
   rec0 r2.1 (IntKind.wrap .i64 (v15+1)))) (
 ret (v1,0))
noncomputable def pS {S:Type} (k:Nat) (ret:List Cl×Int→Option S) (l:List Cl):Nat→(List Cl)→Int→Option S
 |0=>fun _ _=> .none
 |m+1=>fun v1 v15=>vS k ret l (pS k ret l m) v1 v15
noncomputable def FC {S:Type} (k:Nat) (ret:List Cl×Int→Option S) (J0:(List Cl)→Int→Option S) (l a_from:List Cl):Option S:=
 J0 a_from 0
noncomputable def BX {S:Type} (k:Nat) (l a_from:List Cl) (ret:List Cl×Int→Option S):Option S:=FC k ret (fun v1 v15=>pS k ret l k v1 v15) l a_from
noncomputable def O6 {S:Type} (k:Nat) (ret:List Cl×Int→Option S) (f:List Cl):Option S:=
 aa k (nr k) fun r1=>
 aa k (BX k f r1) fun r2=>
 ret (r2.1,r2.2)
noncomputable def o9 {S:Type} (k:Nat) (f:List Cl) (ret:List Cl×Int→Option S):Option S:=O6 k ret f
def O1 {S:Type} (k:Nat) (ret:List Cl×Int→Option S) (f:List Cl):Option S:=
 aa k (o_ k [f]) fun r1=>
 ab (!(r1==0)) (
 ret (([]:List Cl),r1)) (
 aa k (o9 k f) fun r2=>
 ret (r2.1,r2.2))
noncomputable def xA {S:Type} (k:Nat) (f:List Cl) (ret:List Cl×Int→Option S):Option S:=O1 k ret f
def OS {S:Type} (k:Nat) (ret:List Cl×Int→Option S) (f:List Cl):Option S:=
 aa k (xA k f) fun r1=>
 ab (!(r1.2==0)) (
 ret (([]:List Cl),r1.2)) (
 aa k (sS k r1.1) fun r2=>
 ret (r2.1,r2.2))
noncomputable def xq {S:Type} (k:Nat) (f:List Cl) (ret:List Cl×Int→Option S):Option S:=OS k ret f
def vL {S:Type} (k:Nat) (ret:List Cl×Int→Option S) (i:Int) (a_r f:List Cl) (v29:Int) (v8:List Cl) (rec0:Int→(List Cl)→Option S) (g11:List Cl) (v13:Int):Option S:=
 ab (v13==0) (
 aa k (xv k v8 g11) fun r10=>
 ab (!(r10.2==0)) (
  ret (([]:List Cl),r10.2)) (
   rec0 (IntKind.wrap .i64 (v29+1)) r10.1)) (
 ab (!(v13==0)) (
  ret (([]:List Cl),v13)) (
   rec0 (IntKind.wrap .i64 (v29+1)) v8))
noncomputable def pM {S:Type} (k:Nat) (ret:List Cl×Int→Option S) (rec0:Int→(List Cl)→Option S) (i:Int) (a_r f:List Cl) (v29:Int) (v8:List Cl):Nat→(List Cl)→Int→Option S
 |0=>fun _ _=> .none
 |_+1=>fun g11 v13=>vL k ret i a_r f v29 v8 rec0 g11 v13
def rJ {S:Type} (k:Nat) (ret:List Cl×Int→Option S) (i:Int) (a_r f:List Cl) (J1:Int→(List Cl)→(List Cl)→Int→Option S) (rec0:Int→(List Cl)→Option S) (v29:Int) (v8:List Cl):Option S:=
 ab (decide ((v29:Int)<(f.length:Int))) (
 Option.bind (aq f v29) fun x4=>
 aa k (kP k x4.pos i) fun r5=>
 aa k (kP k x4.neg i) fun r6=>
 aa k (iP k x4.pos i) fun r7=>
 ab (r7) (
  aa k (sS k a_r) fun r8=>
  ab (r8.2==0) (
  aa k (o0 k [(Cl.mk r5 r6)] r8.1) fun r9=>
    J1 v29 v8 r9.1 r9.2) (
    J1 v29 v8 [(Cl.mk r5 r6)] r8.2)) (
  aa k (iP k x4.neg i) fun r11=>
  ab (r11) (
  aa k (xq k a_r) fun r12=>
  ab (r12.2==0) (
   aa k (o0 k [(Cl.mk r5 r6)] r12.1) fun r13=>
     J1 v29 v8 r13.1 r13.2) (
     J1 v29 v8 [(Cl.mk r5 r6)] r12.2)) (
    J1 v29 v8 [(Cl.mk r5 r6)] 0))) (
 ret (v8,0))
noncomputable def mn {S:Type} (k:Nat) (ret:List Cl×Int→Option S) (i:Int) (a_r f:List Cl):Nat→Int→(List Cl)→Option S
 |0=>fun _ _=> .none
 |m+1=>fun v29 v8=>rJ k ret i a_r f (fun v29 v8 g11 v13=>pM k ret (mn k ret i a_r f m) i a_r f v29 v8 k g11 v13) (mn k ret i a_r f m) v29 v8
def Ft {S:Type} (k:Nat) (ret:List Cl×Int→Option S) (J0:Int→(List Cl)→Option S) (f:List Cl) (i:Int) (a_r:List Cl):Option S:=
 aa k (oZ k f) fun r1=>
 ab (!r1) (
 ret (([]:List Cl),2)) (
 aa k (xu k i) fun r2=>
 ab (!r2) (
  ret (([]:List Cl),2)) (
  aa k (iO k a_r) fun r3=>
  ab (!r3) (
  ret (([]:List Cl),2)) (
    J0 0 [])))
noncomputable def xt {S:Type} (k:Nat) (f:List Cl) (i:Int) (a_r:List Cl) (ret:List Cl×Int→Option S):Option S:=Ft k ret (fun v29 v8=>mn k ret i a_r f k v29 v8) f i a_r
def OM {S:Type} (k:Nat) (ret:List Cl×Int→Option S) (f:List Cl) (depth c0:Int) (c1:List Cl):Option S:=
 aa k (o8 k f) fun r1=>
 aa k (iP k r1 (IntKind.wrap .i64 (c0+depth))) fun r2=>
 ab (!r2) (
 aa k (sO k f) fun r3=>
 ret (r3,0)) (
 aa k (kN k c1 0 depth) fun r4=>
 ab (!(r4.2==0)) (
  ret (([]:List Cl),r4.2)) (
  aa k (xt k f (IntKind.wrap .i64 (c0+depth)) r4.1) fun r5=>
  ret (r5.1,r5.2)))
noncomputable def sP {S:Type} (k:Nat) (f:List Cl) (depth c0:Int) (c1:List Cl) (ret:List Cl×Int→Option S):Option S:=OM k ret f depth c0 c1
def OY {S:Type} (k:Nat) (ret:List Cl×Int→Option S) (i:Int):Option S:=
 aa k (jK k 0 i) fun r1=>
 aa k (lV k r1) fun r2=>
 ab (r2==0) (
 ret (([]:List Cl),2)) (
 aa k (jK k 0 i) fun r3=>
 ret ([(Cl.mk r3 0)],0))
noncomputable def xz {S:Type} (k:Nat) (i:Int) (ret:List Cl×Int→Option S):Option S:=OY k ret i
noncomputable def O5 {S:Type} (k:Nat) (ret:List Cl×Int→Option S) (f g:List Cl):Option S:=
 Option.bind (aX 1099511627776 ([]:List Cl).length f.length) fun x1=>
 Option.bind (aX 1099511627776 (([]:List Cl)++f).length g.length) fun x2=>
 aa k (g9 k ((([]:List Cl)++f)++g)) fun r3=>
 ret (r3.1,r3.2)
noncomputable def nu {S:Type} (k:Nat) (f g:List Cl) (ret:List Cl×Int→Option S):Option S:=O5 k ret f g
def O3 {S:Type} (k:Nat) (ret:List Cl×Int→Option S) (a_have:List Cl) (c:Cl) (c0:Int) (c1:List Cl):Option S:=
 aa k (kP k c.pos c0) fun r1=>
 aa k (kP k c.neg c0) fun r2=>
 aa k (iP k c.pos c0) fun r3=>
 ab (r3) (
 aa k (kO k [(Cl.mk r1 r2)] c1) fun r4=>
 ab (!(r4.2==0)) (
  ret (([]:List Cl),r4.2)) (
  aa k (iP k c.neg c0) fun r5=>
  ab (r5) (
  aa k (o9 k c1) fun r6=>
  ab (!(r6.2==0)) (
   ret (([]:List Cl),r6.2)) (
   aa k (kO k r4.1 r6.1) fun r7=>
   ab (!(r7.2==0)) (
   ret (([]:List Cl),r7.2)) (
   aa k (nu k a_have r7.1) fun r8=>
   ret (r8.1,r8.2)))) (
  aa k (nu k a_have r4.1) fun r9=>
  ret (r9.1,r9.2)))) (
 aa k (iP k c.neg c0) fun r10=>
 ab (r10) (
  aa k (o9 k c1) fun r11=>
  ab (!(r11.2==0)) (
  ret (([]:List Cl),r11.2)) (
  aa k (kO k [(Cl.mk r1 r2)] r11.1) fun r12=>
  ab (!(r12.2==0)) (
   ret (([]:List Cl),r12.2)) (
   aa k (nu k a_have r12.1) fun r13=>
   ret (r13.1,r13.2)))) (
  aa k (nu k a_have [(Cl.mk r1 r2)]) fun r14=>
  ret (r14.1,r14.2)))
noncomputable def xD {S:Type} (k:Nat) (a_have:List Cl) (c:Cl) (c0:Int) (c1:List Cl) (ret:List Cl×Int→Option S):Option S:=O3 k ret a_have c c0 c1
def vR {S:Type} (k:Nat) (ret:List Cl×Int→Option S) (c0:Int) (c1 l:List Cl) (rec0:(List Cl)→Int→Option S) (v1:List Cl) (v15:Int):Option S:=
 ab (decide ((v15:Int)<(l.length:Int))) (
 Option.bind (aq l v15) fun x1=>
 aa k (xD k v1 x1 c0 c1) fun r2=>
 ab (!(r2.2==0)) (
  ret (([]:List Cl),r2.2)) (
   rec0 r2.1 (IntKind.wrap .i64 (v15+1)))) (
 ret (v1,0))
noncomputable def pR {S:Type} (k:Nat) (ret:List Cl×Int→Option S) (c0:Int) (c1 l:List Cl):Nat→(List Cl)→Int→Option S
 |0=>fun _ _=> .none
 |m+1=>fun v1 v15=>vR k ret c0 c1 l (pR k ret c0 c1 l m) v1 v15
noncomputable def FB {S:Type} (k:Nat) (ret:List Cl×Int→Option S) (J0:(List Cl)→Int→Option S) (l a_from:List Cl) (c0:Int) (c1:List Cl):Option S:=
 J0 a_from 0
noncomputable def BW {S:Type} (k:Nat) (l a_from:List Cl) (c0:Int) (c1:List Cl) (ret:List Cl×Int→Option S):Option S:=FB k ret (fun v1 v15=>pR k ret c0 c1 l k v1 v15) l a_from c0 c1
def O2 {S:Type} (k:Nat) (ret:List Cl×Int→Option S) (f:List Cl) (i:Int) (a_r:List Cl):Option S:=
 aa k (o_ k [f,a_r]) fun r1=>
 ab (!(r1==0)) (
 ret (([]:List Cl),r1)) (
 aa k (xz k i) fun r2=>
 ab (!(r2.2==0)) (
  ret (([]:List Cl),r2.2)) (
  aa k (sV k) fun r3=>
  aa k (BW k f r3 i a_r) fun r4=>
  ret (r4.1,r4.2)))
noncomputable def xB {S:Type} (k:Nat) (f:List Cl) (i:Int) (a_r:List Cl) (ret:List Cl×Int→Option S):Option S:=O2 k ret f i a_r
def OL {S:Type} (k:Nat) (ret:List Cl×Int→Option S) (f:List Cl) (depth c0:Int) (c1:List Cl):Option S:=
 aa k (o8 k f) fun r1=>
 aa k (iP k r1 (IntKind.wrap .i64 (c0+depth))) fun r2=>
 ab (!r2) (
 aa k (sO k f) fun r3=>
 ret (r3,0)) (
 aa k (kN k c1 0 depth) fun r4=>
 ab (!(r4.2==0)) (
  ret (([]:List Cl),r4.2)) (
  aa k (xB k f (IntKind.wrap .i64 (c0+depth)) r4.1) fun r5=>
  ret (r5.1,r5.2)))
noncomputable def xl {S:Type} (k:Nat) (f:List Cl) (depth c0:Int) (c1:List Cl) (ret:List Cl×Int→Option S):Option S:=OL k ret f depth c0 c1
def OP {S:Type} (k:Nat) (ret:List Cl×Int→Option S) (t:Tm) (depth c0:Int) (c1:List Cl):Option S:=
 ab (t.kind==14) (
 aa k (sP k t.r depth c0 c1) fun r1=>
 ret (r1.1,r1.2)) (
 aa k (xl k t.r depth c0 c1) fun r2=>
 ret (r2.1,r2.2))
noncomputable def xm {S:Type} (k:Nat) (t:Tm) (depth c0:Int) (c1:List Cl) (ret:List Cl×Int→Option S):Option S:=OP k ret t depth c0 c1
noncomputable def Fo {S:Type} (k:Nat) (ret:Int→Option S) (i:Int) (c0:Tm):Option S:=
 aa k (gI k c0.kind i) fun r1=>
 ret r1.2
noncomputable def sQ {S:Type} (k:Nat) (i:Int) (c0:Tm) (ret:Int→Option S):Option S:=Fo k ret i c0
noncomputable def Fp {S:Type} (k:Nat) (ret:Int→Option S) (p c0:Int):Option S:=
 ret c0
noncomputable def sR {S:Type} (k:Nat) (p c0:Int) (ret:Int→Option S):Option S:=Fp k ret p c0
abbrev dj (S:Type):=Tm→Int→Int→(List Cl)→(Tm×Int→Option S)→Option S
def vH {S:Type} (hd:dj S) (k:Nat) (ret:List Tm×Int→Option S) (c0:Int) (c1:List Cl) (c4:Int) (l:List Tm) (depth:Int) (rec0:(List Tm)→Int→Option S) (out10:List Tm) (v17:Int):Option S:=
 ab (decide ((v17:Int)<(l.length:Int))) (
 Option.bind (aq l v17) fun x1=>
 aa k (sR k v17 c4) fun r2=>
 hd (ac x1) (IntKind.wrap .i64 (depth+r2)) c0 c1 fun r3=>
 ab (!(r3.2==0)) (
  ret (([]:List Tm),r3.2)) (
  Option.bind (aX 1099511627776 out10.length [(ac r3.1)].length) fun x4=>
   rec0 (out10++[(ac r3.1)]) (IntKind.wrap .i64 (v17+1)))) (
 ret (out10,0))
noncomputable def ml {S:Type} (hd:dj S) (k:Nat) (ret:List Tm×Int→Option S) (c0:Int) (c1:List Cl) (c4:Int) (l:List Tm) (depth:Int):Nat→(List Tm)→Int→Option S
 |0=>fun _ _=> .none
 |m+1=>fun out10 v17=>vH hd k ret c0 c1 c4 l depth (ml hd k ret c0 c1 c4 l depth m) out10 v17
noncomputable def Fk {S:Type} (hd:dj S) (k:Nat) (ret:List Tm×Int→Option S) (J0:(List Tm)→Int→Option S) (l:List Tm) (depth c0:Int) (c1:List Cl) (c4:Int):Option S:=
 J0 ([]:List Tm) 0
noncomputable def BT {S:Type} (hd:dj S) (k:Nat) (l:List Tm) (depth c0:Int) (c1:List Cl) (c4:Int) (ret:List Tm×Int→Option S):Option S:=Fk hd k ret (fun out10 v17=>ml hd k ret c0 c1 c4 l depth k out10 v17) l depth c0 c1 c4
def vI {S:Type} (hd:dj S) (k:Nat) (ret:List Tm×Int→Option S) (c0:Int) (c1:List Cl) (c4:Tm) (l:List Tm) (depth:Int) (rec0:(List Tm)→Int→Option S) (out10:List Tm) (v17:Int):Option S:=
 ab (decide ((v17:Int)<(l.length:Int))) (
 Option.bind (aq l v17) fun x1=>
 aa k (sQ k v17 (ac c4)) fun r2=>
 hd (ac x1) (IntKind.wrap .i64 (depth+r2)) c0 c1 fun r3=>
 ab (!(r3.2==0)) (
  ret (([]:List Tm),r3.2)) (
  Option.bind (aX 1099511627776 out10.length [(ac r3.1)].length) fun x4=>
   rec0 (out10++[(ac r3.1)]) (IntKind.wrap .i64 (v17+1)))) (
 ret (out10,0))
noncomputable def mm {S:Type} (hd:dj S) (k:Nat) (ret:List Tm×Int→Option S) (c0:Int) (c1:List Cl) (c4:Tm) (l:List Tm) (depth:Int):Nat→(List Tm)→Int→Option S
 |0=>fun _ _=> .none
 |m+1=>fun out10 v17=>vI hd k ret c0 c1 c4 l depth (mm hd k ret c0 c1 c4 l depth m) out10 v17
noncomputable def Fl {S:Type} (hd:dj S) (k:Nat) (ret:List Tm×Int→Option S) (J0:(List Tm)→Int→Option S) (l:List Tm) (depth c0:Int) (c1:List Cl) (c4:Tm):Option S:=
 J0 ([]:List Tm) 0
noncomputable def BU {S:Type} (hd:dj S) (k:Nat) (l:List Tm) (depth c0:Int) (c1:List Cl) (c4:Tm) (ret:List Tm×Int→Option S):Option S:=Fl hd k ret (fun out10 v17=>mm hd k ret c0 c1 c4 l depth k out10 v17) l depth c0 c1 c4
def vJ {S:Type} (hd:dj S) (k:Nat) (ret:Tm×Int→Option S) (c0:Int) (c1:List Cl) (t:Tm) (r1:List Cl×Int) (r2:List Tm×Int) (depth:Int) (rec0:Int→(List (Br Tm))→Int→Option S) (b10_0:Int) (b8_5:List (Br Tm)) (v55:Int):Option S:=
 ab (decide ((v55:Int)<(t.sys.length:Int))) (
 Option.bind (aq t.sys v55) fun x3=>
 aa k (sP k x3.face depth c0 c1) fun r4=>
 ab (!(r4.2==0)) (
  ret ((Tm.mk 0 0 ByteArray.empty [] [] []),r4.2)) (
  ab ((r4.1.length:Int)==0) (
    rec0 b10_0 b8_5 (IntKind.wrap .i64 (v55+1))) (
  aa k (BT hd k x3.kids depth c0 c1 b10_0) fun r5=>
  ab (!(r5.2==0)) (
   ret ((Tm.mk 0 0 ByteArray.empty [] [] []),r5.2)) (
   Option.bind (aX 1099511627776 b8_5.length [(Br.mk r4.1 r5.1)].length) fun x6=>
     rec0 b10_0 (b8_5++[(Br.mk r4.1 r5.1)]) (IntKind.wrap .i64 (v55+1)))))) (
 ret ((Tm.mk t.kind t.n t.name r1.1 r2.1 b8_5),0))
noncomputable def gO {S:Type} (hd:dj S) (k:Nat) (ret:Tm×Int→Option S) (c0:Int) (c1:List Cl) (t:Tm) (r1:List Cl×Int) (r2:List Tm×Int) (depth:Int):Nat→Int→(List (Br Tm))→Int→Option S
 |0=>fun _ _ _=> .none
 |m+1=>fun b10_0 b8_5 v55=>vJ hd k ret c0 c1 t r1 r2 depth (gO hd k ret c0 c1 t r1 r2 depth m) b10_0 b8_5 v55
def Fq {S:Type} (hd:dj S) (k:Nat) (ret:Tm×Int→Option S) (J0:(List Cl×Int)→(List Tm×Int)→Int→(List (Br Tm))→Int→Option S) (t:Tm) (depth c0:Int) (c1:List Cl):Option S:=
 aa k (xm k (ac t) depth c0 c1) fun r1=>
 ab (!(r1.2==0)) (
 ret ((Tm.mk 0 0 ByteArray.empty [] [] []),r1.2)) (
 aa k (BU hd k t.kids depth c0 c1 (ac t)) fun r2=>
 ab (!(r2.2==0)) (
  ret ((Tm.mk 0 0 ByteArray.empty [] [] []),r2.2)) (
  ab (t.kind==15) (
    J0 r1 r2 1 ([]:List (Br Tm)) 0) (
    J0 r1 r2 0 ([]:List (Br Tm)) 0)))
noncomputable def er {S:Type}:Nat→Tm→Int→Int→(List Cl)→(Tm×Int→Option S)→Option S
 |0=>fun _ _ _ _ _=> .none
 |k+1=>fun t depth c0 c1 ret=>Fq (er k) k ret (fun r1 r2 b10_0 b8_5 v55=>gO (er k) k ret c0 c1 t r1 r2 depth k b10_0 b8_5 v55) t depth c0 c1
noncomputable def OJ {S:Type} (k:Nat) (ret:Int→Option S) (i:Int):Option S:=
 ret i
noncomputable def BN {S:Type} (k:Nat) (i:Int) (ret:Int→Option S):Option S:=OJ k ret i
def Pv {S:Type} (k:Nat) (ret:Int→Option S) (s i:Int):Option S:=
 aa k (ny k i) fun r1=>
 ab (!r1) (
 ret (bG .and .u32 s 16777215)) (
 aa k (pj k i) fun r2=>
 Option.bind (da (0≤(IntKind.wrap .u64 (IntKind.wrap .i64 (i+1))))) fun x3=>
 Option.bind (da (0≤(IntKind.wrap .u64 i))) fun x4=>
 ret (bG .or .u32 (bG .and .u32 (bG .and .u32 s 16777215) r2) (IntKind.wrap .u32 ((Int.fdiv (bG .and .u32 s 16777215) (2^min (Int.toNat (IntKind.wrap .u64 (IntKind.wrap .i64 (i+1)))) 32))*2^min (Int.toNat (IntKind.wrap .u64 i)) 32))))
noncomputable def ph {S:Type} (k:Nat) (s i:Int) (ret:Int→Option S):Option S:=Pv k ret s i
def vE {S:Type} (k:Nat) (ret:List Cl×Int→Option S) (c0 depth:Int) (f:List Cl) (rec0:Int→(List Cl)→Option S) (v12:Int) (out7:List Cl):Option S:=
 ab (decide ((v12:Int)<(f.length:Int))) (
 Option.bind (aq f v12) fun x1=>
 aa k (ph k x1.pos (IntKind.wrap .i64 (c0+depth))) fun r2=>
 aa k (ph k x1.neg (IntKind.wrap .i64 (c0+depth))) fun r3=>
 Option.bind (aX 1099511627776 out7.length [(Cl.mk r2 r3)].length) fun x4=>
  rec0 (IntKind.wrap .i64 (v12+1)) (out7++[(Cl.mk r2 r3)])) (
 aa k (g9 k out7) fun r5=>
 ret (r5.1,r5.2))
noncomputable def pL {S:Type} (k:Nat) (ret:List Cl×Int→Option S) (c0 depth:Int) (f:List Cl):Nat→Int→(List Cl)→Option S
 |0=>fun _ _=> .none
 |m+1=>fun v12 out7=>vE k ret c0 depth f (pL k ret c0 depth f m) v12 out7
noncomputable def Fg {S:Type} (k:Nat) (ret:List Cl×Int→Option S) (J0:Int→(List Cl)→Option S) (f:List Cl) (depth c0:Int):Option S:=
 J0 0 ([]:List Cl)
noncomputable def oY {S:Type} (k:Nat) (f:List Cl) (depth c0:Int) (ret:List Cl×Int→Option S):Option S:=Fg k ret (fun v12 out7=>pL k ret c0 depth f k v12 out7) f depth c0
def OQ {S:Type} (k:Nat) (ret:List Cl×Int→Option S) (t:Tm) (depth c0:Int):Option S:=
 ab (t.kind==14) (
 aa k (oY k t.r depth c0) fun r1=>
 ret (r1.1,r1.2)) (
 aa k (oY k t.r depth c0) fun r2=>
 ret (r2.1,r2.2))
noncomputable def xo {S:Type} (k:Nat) (t:Tm) (depth c0:Int) (ret:List Cl×Int→Option S):Option S:=OQ k ret t depth c0
abbrev dk (S:Type):=Tm→Int→Int→(Tm×Int→Option S)→Option S
def vF {S:Type} (hd:dk S) (k:Nat) (ret:List Tm×Int→Option S) (c0 c1:Int) (l:List Tm) (depth:Int) (rec0:(List Tm)→Int→Option S) (out10:List Tm) (v17:Int):Option S:=
 ab (decide ((v17:Int)<(l.length:Int))) (
 Option.bind (aq l v17) fun x1=>
 aa k (sR k v17 c1) fun r2=>
 hd (ac x1) (IntKind.wrap .i64 (depth+r2)) c0 fun r3=>
 ab (!(r3.2==0)) (
  ret (([]:List Tm),r3.2)) (
  Option.bind (aX 1099511627776 out10.length [(ac r3.1)].length) fun x4=>
   rec0 (out10++[(ac r3.1)]) (IntKind.wrap .i64 (v17+1)))) (
 ret (out10,0))
noncomputable def mi {S:Type} (hd:dk S) (k:Nat) (ret:List Tm×Int→Option S) (c0 c1:Int) (l:List Tm) (depth:Int):Nat→(List Tm)→Int→Option S
 |0=>fun _ _=> .none
 |m+1=>fun out10 v17=>vF hd k ret c0 c1 l depth (mi hd k ret c0 c1 l depth m) out10 v17
noncomputable def Fi {S:Type} (hd:dk S) (k:Nat) (ret:List Tm×Int→Option S) (J0:(List Tm)→Int→Option S) (l:List Tm) (depth c0 c1:Int):Option S:=
 J0 ([]:List Tm) 0
noncomputable def BR {S:Type} (hd:dk S) (k:Nat) (l:List Tm) (depth c0 c1:Int) (ret:List Tm×Int→Option S):Option S:=Fi hd k ret (fun out10 v17=>mi hd k ret c0 c1 l depth k out10 v17) l depth c0 c1
def vG {S:Type} (hd:dk S) (k:Nat) (ret:List Tm×Int→Option S) (c0:Int) (c1:Tm) (l:List Tm) (depth:Int) (rec0:(List Tm)→Int→Option S) (out10:List Tm) (v17:Int):Option S:=
 ab (decide ((v17:Int)<(l.length:Int))) (
 Option.bind (aq l v17) fun x1=>
 aa k (sQ k v17 (ac c1)) fun r2=>
 hd (ac x1) (IntKind.wrap .i64 (depth+r2)) c0 fun r3=>
 ab (!(r3.2==0)) (
  ret (([]:List Tm),r3.2)) (
  Option.bind (aX 1099511627776 out10.length [(ac r3.1)].length) fun x4=>
   rec0 (out10++[(ac r3.1)]) (IntKind.wrap .i64 (v17+1)))) (
 ret (out10,0))
noncomputable def mj {S:Type} (hd:dk S) (k:Nat) (ret:List Tm×Int→Option S) (c0:Int) (c1:Tm) (l:List Tm) (depth:Int):Nat→(List Tm)→Int→Option S
 |0=>fun _ _=> .none
 |m+1=>fun out10 v17=>vG hd k ret c0 c1 l depth (mj hd k ret c0 c1 l depth m) out10 v17
noncomputable def Fj {S:Type} (hd:dk S) (k:Nat) (ret:List Tm×Int→Option S) (J0:(List Tm)→Int→Option S) (l:List Tm) (depth c0:Int) (c1:Tm):Option S:=
 J0 ([]:List Tm) 0
noncomputable def BS {S:Type} (hd:dk S) (k:Nat) (l:List Tm) (depth c0:Int) (c1:Tm) (ret:List Tm×Int→Option S):Option S:=Fj hd k ret (fun out10 v17=>mj hd k ret c0 c1 l depth k out10 v17) l depth c0 c1
def vK {S:Type} (hd:dk S) (k:Nat) (ret:Tm×Int→Option S) (c0:Int) (t:Tm) (r1:List Cl×Int) (r2:List Tm×Int) (depth:Int) (rec0:Int→(List (Br Tm))→Int→Option S) (b10_0:Int) (b8_5:List (Br Tm)) (v55:Int):Option S:=
 ab (decide ((v55:Int)<(t.sys.length:Int))) (
 Option.bind (aq t.sys v55) fun x3=>
 aa k (oY k x3.face depth c0) fun r4=>
 ab (!(r4.2==0)) (
  ret ((Tm.mk 0 0 ByteArray.empty [] [] []),r4.2)) (
  ab ((r4.1.length:Int)==0) (
    rec0 b10_0 b8_5 (IntKind.wrap .i64 (v55+1))) (
  aa k (BR hd k x3.kids depth c0 b10_0) fun r5=>
  ab (!(r5.2==0)) (
   ret ((Tm.mk 0 0 ByteArray.empty [] [] []),r5.2)) (
   Option.bind (aX 1099511627776 b8_5.length [(Br.mk r4.1 r5.1)].length) fun x6=>
     rec0 b10_0 (b8_5++[(Br.mk r4.1 r5.1)]) (IntKind.wrap .i64 (v55+1)))))) (
 ret ((Tm.mk t.kind t.n t.name r1.1 r2.1 b8_5),0))
noncomputable def gP {S:Type} (hd:dk S) (k:Nat) (ret:Tm×Int→Option S) (c0:Int) (t:Tm) (r1:List Cl×Int) (r2:List Tm×Int) (depth:Int):Nat→Int→(List (Br Tm))→Int→Option S
 |0=>fun _ _ _=> .none
 |m+1=>fun b10_0 b8_5 v55=>vK hd k ret c0 t r1 r2 depth (gP hd k ret c0 t r1 r2 depth m) b10_0 b8_5 v55
def Fr {S:Type} (hd:dk S) (k:Nat) (ret:Tm×Int→Option S) (J0:(List Cl×Int)→(List Tm×Int)→Int→(List (Br Tm))→Int→Option S) (t:Tm) (depth c0:Int):Option S:=
 aa k (xo k (ac t) depth c0) fun r1=>
 ab (!(r1.2==0)) (
 ret ((Tm.mk 0 0 ByteArray.empty [] [] []),r1.2)) (
 aa k (BS hd k t.kids depth c0 (ac t)) fun r2=>
 ab (!(r2.2==0)) (
  ret ((Tm.mk 0 0 ByteArray.empty [] [] []),r2.2)) (
  ab (t.kind==15) (
    J0 r1 r2 1 ([]:List (Br Tm)) 0) (
    J0 r1 r2 0 ([]:List (Br Tm)) 0)))
noncomputable def ee {S:Type}:Nat→Tm→Int→Int→(Tm×Int→Option S)→Option S
 |0=>fun _ _ _ _=> .none
 |k+1=>fun t depth c0 ret=>Fr (ee k) k ret (fun r1 r2 b10_0 b8_5 v55=>gP (ee k) k ret c0 t r1 r2 depth k b10_0 b8_5 v55) t depth c0
def Ff {S:Type} (k:Nat) (ret:Tm×Int→Option S) (t:Tm) (i:Int) (a_r:List Cl):Option S:=
 aa k (xp k (ac t) i a_r) fun r1=>
 ab (!(r1==0)) (
 ret ((Tm.mk 0 0 ByteArray.empty [] [] []),r1)) (
 aa k (kN k a_r i 1) fun r2=>
 ab (!(r2.2==0)) (
  ret ((Tm.mk 0 0 ByteArray.empty [] [] []),r2.2)) (
  aa k (BO k i r2.1) fun r3=>
  er k (ac t) 0 r3.1 r3.2 fun r4=>
  ab (!(r4.2==0)) (
  ret ((Tm.mk 0 0 ByteArray.empty [] [] []),r4.2)) (
  aa k (BN k i) fun r5=>
  ee k (ac r4.1) 0 r5 fun r6=>
  ret ((ac r6.1),r6.2))))
noncomputable def kM {S:Type} (k:Nat) (t:Tm) (i:Int) (a_r:List Cl) (ret:Tm×Int→Option S):Option S:=Ff k ret t i a_r
def Fa {S:Type} (k:Nat) (ret:Tm×Int→Option S) (line:Tm) (a_r:List Cl) (c0:Int):Option S:=
 aa k (dm k c0) fun r1=>
 ab (!r1) (
 ret ((Tm.mk 0 0 ByteArray.empty [] [] []),c0)) (
 aa k (lU k (ac line) 1 2) fun r2=>
 aa k (jJ k r2.2 c0) fun r3=>
 aa k (dm k r3) fun r4=>
 ab (!r4) (
  ret ((Tm.mk 0 0 ByteArray.empty [] [] []),r3)) (
  aa k (kM k (ac r2.1) 0 a_r) fun r5=>
  aa k (jJ k r5.2 r3) fun r6=>
  ret ((ac r5.1),r6)))
noncomputable def lQ {S:Type} (k:Nat) (line:Tm) (a_r:List Cl) (c0:Int) (ret:Tm×Int→Option S):Option S:=Fa k ret line a_r c0
def Fc {S:Type} (k:Nat) (ret:Tm×Int→Option S) (t:Tm) (vars dims c0:Int):Option S:=
 aa k (dm k c0) fun r1=>
 ab (!r1) (
 ret ((Tm.mk 0 0 ByteArray.empty [] [] []),c0)) (
 aa k (lS k (ac t) vars dims) fun r2=>
 aa k (jJ k r2.2 c0) fun r3=>
 ret ((ac r2.1),r3))
noncomputable def de {S:Type} (k:Nat) (t:Tm) (vars dims c0:Int) (ret:Tm×Int→Option S):Option S:=Fc k ret t vars dims c0
noncomputable def mR {S:Type} (k:Nat) (ret:Int×Int×ByteArray×List Tm→Option S) (kind:Int) (kids:List Tm):Option S:=
 ret (kind,0,ByteArray.empty,kids)
noncomputable def ck {S:Type} (k:Nat) (kind:Int) (kids:List Tm) (ret:Int×Int×ByteArray×List Tm→Option S):Option S:=mR k ret kind kids
def Fb {S:Type} (k:Nat) (ret:Tm×Int×Int→Option S) (t:Tm) (c0:Int):Option S:=
 aa k (dm k c0) fun r1=>
 ab (r1) (
 aa k (gb k (ac t)) fun r2=>
 aa k (jJ k r2 c0) fun r3=>
 aa k (dm k r3) fun r4=>
 ab (!r4) (
  ret ((Tm.mk 0 0 ByteArray.empty [] [] []),r3,r3)) (
  ret ((ac t),0,r3))) (
 aa k (dm k c0) fun r5=>
 ab (!r5) (
  ret ((Tm.mk 0 0 ByteArray.empty [] [] []),c0,c0)) (
  ret ((ac t),0,c0)))
noncomputable def eK {S:Type} (k:Nat) (t:Tm) (c0:Int) (ret:Tm×Int×Int→Option S):Option S:=Fb k ret t c0
noncomputable def Pt {S:Type} (k:Nat) (ret:Pan Int Tm→Option S) (c0:Int) (c1:Tm) (c2:Int):Option S:=
 dt k c0 0 (ac c1) (if 2000000000<c2 then 2000000000 else c2) 0 fun r2=>Pan.elim r2 (fun r2=>
 ret (.ok (ac r2))) (fun e3=>
 ret (.pan e3))
noncomputable def xX {S:Type} (k:Nat) (c0:Int) (c1:Tm) (c2:Int) (ret:Pan Int Tm→Option S):Option S:=Pt k ret c0 c1 c2
def wk {S:Type} (k:Nat) (ret:Tm×Int→Option S) (c0:Int) (c1:Tm) (c2:Int) (numbers:List Int) (rec0:Int→Option S) (v19:Int):Option S:=
 ab (decide ((v19:Int)<(numbers.length:Int))) (
 Option.bind (aq numbers v19) fun x2=>
 ab (decide ((x2:Int)<0)) (
  ret ((Tm.mk 0 0 ByteArray.empty [] [] []),2)) (
   rec0 (IntKind.wrap .i64 (v19+1)))) (
 aa k (xX k c0 (ac c1) c2) fun r4=>Pan.elim r4 (fun r4=>
  ret ((ac r4),0)) (fun e5=>
  ret ((Tm.mk 0 0 ByteArray.empty [] [] []),e5)))
noncomputable def nP {S:Type} (k:Nat) (ret:Tm×Int→Option S) (c0:Int) (c1:Tm) (c2:Int) (numbers:List Int):Nat→Int→Option S
 |0=>fun _=> .none
 |m+1=>fun v19=>wk k ret c0 c1 c2 numbers (nP k ret c0 c1 c2 numbers m) v19
def Aj {S:Type} (k:Nat) (ret:Tm×Int→Option S) (J0:Int→Option S) (t:Tm) (numbers:List Int) (c0:Int) (c1:Tm) (c2:Int):Option S:=
 aa k (gb k (ac t)) fun r1=>
 ab (!(r1==0)) (
 ret ((Tm.mk 0 0 ByteArray.empty [] [] []),r1)) (
  J0 0)
noncomputable def xZ {S:Type} (k:Nat) (t:Tm) (numbers:List Int) (c0:Int) (c1:Tm) (c2:Int) (ret:Tm×Int→Option S):Option S:=Aj k ret (fun v19=>nP k ret c0 c1 c2 numbers k v19) t numbers c0 c1 c2
noncomputable def FT {S:Type} (k:Nat) (ret:Tm×Int→Option S) (t:Tm) (a_from a_by:Int):Option S:=
 aa k (xZ k (ac t) [a_from,a_by,IntKind.wrap .i64 (1000000-a_by)] a_by (ac t) a_from) fun r1=>
 ret ((ac r1.1),r1.2)
noncomputable def pf {S:Type} (k:Nat) (t:Tm) (a_from a_by:Int) (ret:Tm×Int→Option S):Option S:=FT k ret t a_from a_by
def PC {S:Type} (k:Nat) (ret:Tm×Int→Option S) (t:Tm) (vars dims c0:Int):Option S:=
 aa k (cY k c0) fun r1=>
 ab (!r1) (
 ret ((Tm.mk 0 0 ByteArray.empty [] [] []),c0)) (
 aa k (pf k (ac t) 1 vars) fun r2=>
 aa k (f_ k (ac r2.1) r2.2 c0) fun r3=>
 aa k (cY k r3.2) fun r4=>
 ab (!r4) (
  ret ((Tm.mk 0 0 ByteArray.empty [] [] []),r3.2)) (
  aa k (lU k (ac r3.1) 0 dims) fun r5=>
  aa k (f_ k (ac r5.1) r5.2 r3.2) fun r6=>
  ret ((ac r6.1),r6.2)))
noncomputable def ya {S:Type} (k:Nat) (t:Tm) (vars dims c0:Int) (ret:Tm×Int→Option S):Option S:=PC k ret t vars dims c0
abbrev dC (S:Type):=Tm→(Int→Option S)→Option S
noncomputable def Ga {S:Type} (hd:dC S) (k:Nat) (ret:Bool×Int→Option S) (a_k:Tm) (p p' c0:Int):Option S:=
 hd (ac a_k) fun r1=>
 ret (true,IntKind.wrap .i64 (c0+r1))
noncomputable def tc {S:Type} (hd:dC S) (k:Nat) (a_k:Tm) (p p' c0:Int) (ret:Bool×Int→Option S):Option S:=Ga hd k ret a_k p p' c0
def wK {S:Type} (hd:dC S) (k:Nat) (ret:Bool×Int→Option S) (t:Tm) (v42:Int) (x4:(Br Tm)) (more9:Int) (rec1:Int→Int→Int→Option S) (rec2:Int→Int→Option S) (e0_0'' v49:Int):Option S:=
 ab (decide ((v49:Int)<(x4.kids.length:Int))) (
 Option.bind (aq x4.kids v49) fun x5=>
 aa k (tc hd k (ac x5) 0 more9 e0_0'') fun r6=>
 ab (!r6.1) (
  ret (false,r6.2)) (
   rec2 r6.2 (IntKind.wrap .i64 (v49+1)))) (
  rec1 e0_0'' (IntKind.wrap .i64 (v42+1)) more9)
noncomputable def nY {S:Type} (hd:dC S) (k:Nat) (ret:Bool×Int→Option S) (rec1:Int→Int→Int→Option S) (t:Tm) (v42:Int) (x4:(Br Tm)) (more9:Int):Nat→Int→Int→Option S
 |0=>fun _ _=> .none
 |m+1=>fun e0_0'' v49=>wK hd k ret t v42 x4 more9 rec1 (nY hd k ret rec1 t v42 x4 more9 m) e0_0'' v49
def si {S:Type} (hd:dC S) (k:Nat) (ret:Bool×Int→Option S) (t:Tm) (J2:Int→(Br Tm)→Int→Int→Int→Option S) (rec1:Int→Int→Int→Option S) (e0_0' v42 more9:Int):Option S:=
 ab (decide ((v42:Int)<(t.sys.length:Int))) (
 Option.bind (aq t.sys v42) fun x4=>
  J2 v42 x4 more9 e0_0' 0) (
 ret (true,e0_0'))
noncomputable def lh {S:Type} (hd:dC S) (k:Nat) (ret:Bool×Int→Option S) (t:Tm):Nat→Int→Int→Int→Option S
 |0=>fun _ _ _=> .none
 |m+1=>fun e0_0' v42 more9=>si hd k ret t (fun v42 x4 more9 e0_0'' v49=>nY hd k ret (lh hd k ret t m) t v42 x4 more9 k e0_0'' v49) (lh hd k ret t m) e0_0' v42 more9
def sh {S:Type} (hd:dC S) (k:Nat) (ret:Bool×Int→Option S) (t:Tm) (J1:Int→Int→Int→Option S) (rec0:Int→Int→Option S) (e0_0 v17:Int):Option S:=
 ab (decide ((v17:Int)<(t.kids.length:Int))) (
 Option.bind (aq t.kids v17) fun x1=>
 aa k (gI k t.kind v17) fun r2=>
 aa k (tc hd k (ac x1) r2.1 r2.2 e0_0) fun r3=>
 ab (!r3.1) (
  ret (false,r3.2)) (
   rec0 r3.2 (IntKind.wrap .i64 (v17+1)))) (
 ab (t.kind==15) (
   J1 e0_0 0 1) (
   J1 e0_0 0 0))
noncomputable def qv {S:Type} (hd:dC S) (k:Nat) (ret:Bool×Int→Option S) (t:Tm):Nat→Int→Int→Option S
 |0=>fun _ _=> .none
 |m+1=>fun e0_0 v17=>sh hd k ret t (fun e0_0' v42 more9=>lh hd k ret t k e0_0' v42 more9) (qv hd k ret t m) e0_0 v17
noncomputable def Gg {S:Type} (hd:dC S) (k:Nat) (ret:Bool×Int→Option S) (J0:Int→Int→Option S) (t:Tm) (c0:Int):Option S:=
 J0 c0 0
noncomputable def B_ {S:Type} (hd:dC S) (k:Nat) (t:Tm) (c0:Int) (ret:Bool×Int→Option S):Option S:=Gg hd k ret (fun e0_0 v17=>qv hd k ret t k e0_0 v17) t c0
noncomputable def P1 {S:Type} (hd:dC S) (k:Nat) (ret:Int→Option S) (t:Tm):Option S:=
 aa k (B_ hd k (ac t) 1) fun r1=>
 ret r1.2
noncomputable def kR {S:Type}:Nat→Tm→(Int→Option S)→Option S
 |0=>fun _ _=> .none
 |k+1=>fun t ret=>P1 (kR k) k ret t
abbrev gD (S:Type):=Tm→Int→(Int→Option S)→Option S
def ww {S:Type} (hd:gD S) (k:Nat) (ret:Int→Option S) (a_n:Int) (t:Tm) (v49:Int) (x4:(Br Tm)) (rec2:Int→Int→Option S) (rec3:Int→Int→Option S) (sum5'' v56:Int):Option S:=
 ab (decide ((v56:Int)<(x4.kids.length:Int))) (
 Option.bind (aq x4.kids v56) fun x5=>
 hd (ac x5) a_n fun r6=>
  rec3 (IntKind.wrap .i64 (sum5''+r6)) (IntKind.wrap .i64 (v56+1))) (
  rec2 (IntKind.wrap .i64 (v49+1)) sum5'')
noncomputable def nS {S:Type} (hd:gD S) (k:Nat) (ret:Int→Option S) (rec2:Int→Int→Option S) (a_n:Int) (t:Tm) (v49:Int) (x4:(Br Tm)):Nat→Int→Int→Option S
 |0=>fun _ _=> .none
 |m+1=>fun sum5'' v56=>ww hd k ret a_n t v49 x4 rec2 (nS hd k ret rec2 a_n t v49 x4 m) sum5'' v56
def rR {S:Type} (hd:gD S) (k:Nat) (ret:Int→Option S) (a_n:Int) (t:Tm) (J3:Int→(Br Tm)→Int→Int→Option S) (rec2:Int→Int→Option S) (v49 sum5':Int):Option S:=
 ab (decide ((v49:Int)<(t.sys.length:Int))) (
 Option.bind (aq t.sys v49) fun x4=>
  J3 v49 x4 sum5' 0) (
 ret sum5')
noncomputable def lc {S:Type} (hd:gD S) (k:Nat) (ret:Int→Option S) (a_n:Int) (t:Tm):Nat→Int→Int→Option S
 |0=>fun _ _=> .none
 |m+1=>fun v49 sum5'=>rR hd k ret a_n t (fun v49 x4 sum5'' v56=>nS hd k ret (lc hd k ret a_n t m) a_n t v49 x4 k sum5'' v56) (lc hd k ret a_n t m) v49 sum5'
def rQ {S:Type} (hd:gD S) (k:Nat) (ret:Int→Option S) (t:Tm) (a_n:Int) (J2:Int→Int→Option S) (rec1:Int→Int→Option S) (v26 sum5:Int):Option S:=
 ab (decide ((v26:Int)<(t.kids.length:Int))) (
 Option.bind (aq t.kids v26) fun x1=>
 aa k (gI k t.kind v26) fun r2=>
 hd (ac x1) (IntKind.wrap .i64 (a_n+r2.1)) fun r3=>
  rec1 (IntKind.wrap .i64 (v26+1)) (IntKind.wrap .i64 (sum5+r3))) (
  J2 0 sum5)
noncomputable def nR {S:Type} (hd:gD S) (k:Nat) (ret:Int→Option S) (t:Tm) (a_n:Int):Nat→Int→Int→Option S
 |0=>fun _ _=> .none
 |m+1=>fun v26 sum5=>rQ hd k ret t a_n (fun v49 sum5'=>lc hd k ret a_n t k v49 sum5') (nR hd k ret t a_n m) v26 sum5
noncomputable def ws {S:Type} (hd:gD S) (k:Nat) (ret:Int→Option S) (t:Tm) (a_n:Int) (J1:Int→Int→Option S):Option S:=
 J1 0 0
noncomputable def yW {S:Type} (hd:gD S) (k:Nat) (ret:Int→Option S) (t:Tm) (a_n:Int):Nat→Option S
 |0=> .none
 |_+1=>ws hd k ret t a_n (fun v26 sum5=>nR hd k ret t a_n k v26 sum5)
def Am {S:Type} (hd:gD S) (k:Nat) (ret:Int→Option S) (J0:Option S) (t:Tm) (a_n:Int):Option S:=
 ab (t.kind==1) (
 ab (t.n==a_n) (
  ret 1) (
   J0)) (
  J0)
noncomputable def hU {S:Type}:Nat→Tm→Int→(Int→Option S)→Option S
 |0=>fun _ _ _=> .none
 |k+1=>fun t a_n ret=>Am (hU k) k ret (yW (hU k) k ret t a_n k) t a_n
def PQ {S:Type} (k:Nat) (ret:Int→Option S) (t:Tm):Option S:=
 ab (t.kind==15) (
 ret 1) (
 ret 0)
noncomputable def yj {S:Type} (k:Nat) (t:Tm) (ret:Int→Option S):Option S:=PQ k ret t
abbrev iE (S:Type):=Tm→Int→Tm→Int→Int→(Pan Int Tm→Option S)→Option S
def wx {S:Type} (hd:iE S) (k:Nat) (ret:Pan Int Tm→Option S) (t:Tm) (b13_4:List Tm) (b13_5:List (Br Tm)) (x9:(Br Tm)) (u:Tm) (a_n vars dims v99:Int) (rec1:(List (Br Tm))→Int→Option S) (rec2:(List Tm)→Int→Option S) (b20_1:List Tm) (v110:Int):Option S:=
 ab (decide ((v110:Int)<(x9.kids.length:Int))) (
 Option.bind (aq x9.kids v110) fun x11=>
 aa k (yj k (ac t)) fun r12=>
 hd (ac x11) a_n (ac u) vars (IntKind.wrap .i64 (dims+r12)) fun r14=>Pan.elim r14 (fun r14=>
  Option.bind (aX 1099511627776 b20_1.length [(ac r14)].length) fun x16=>
   rec2 (b20_1++[(ac r14)]) (IntKind.wrap .i64 (v110+1))) (fun e15=>
  ret (.pan e15))) (
 Option.bind (aX 1099511627776 b13_5.length [(Br.mk x9.face b20_1)].length) fun x17=>
  rec1 (b13_5++[(Br.mk x9.face b20_1)]) (IntKind.wrap .i64 (v99+1)))
noncomputable def nT {S:Type} (hd:iE S) (k:Nat) (ret:Pan Int Tm→Option S) (rec1:(List (Br Tm))→Int→Option S) (t:Tm) (b13_4:List Tm) (b13_5:List (Br Tm)) (x9:(Br Tm)) (u:Tm) (a_n vars dims v99:Int):Nat→(List Tm)→Int→Option S
 |0=>fun _ _=> .none
 |m+1=>fun b20_1 v110=>wx hd k ret t b13_4 b13_5 x9 u a_n vars dims v99 rec1 (nT hd k ret rec1 t b13_4 b13_5 x9 u a_n vars dims v99 m) b20_1 v110
def rT {S:Type} (hd:iE S) (k:Nat) (ret:Pan Int Tm→Option S) (t:Tm) (b13_4:List Tm) (u:Tm) (a_n vars dims:Int) (J2:(List (Br Tm))→(Br Tm)→Int→(List Tm)→Int→Option S) (rec1:(List (Br Tm))→Int→Option S) (b13_5:List (Br Tm)) (v99:Int):Option S:=
 ab (decide ((v99:Int)<(t.sys.length:Int))) (
 Option.bind (aq t.sys v99) fun x9=>
 Option.bind (aX 1099511627776 0 x9.face.length) fun x10=>
  J2 b13_5 x9 v99 ([]:List Tm) 0) (
 ret (.ok (Tm.mk t.kind 0 t.name t.r b13_4 b13_5)))
noncomputable def ld {S:Type} (hd:iE S) (k:Nat) (ret:Pan Int Tm→Option S) (t:Tm) (b13_4:List Tm) (u:Tm) (a_n vars dims:Int):Nat→(List (Br Tm))→Int→Option S
 |0=>fun _ _=> .none
 |m+1=>fun b13_5 v99=>rT hd k ret t b13_4 u a_n vars dims (fun b13_5 x9 v99 b20_1 v110=>nT hd k ret (ld hd k ret t b13_4 u a_n vars dims m) t b13_4 b13_5 x9 u a_n vars dims v99 k b20_1 v110) (ld hd k ret t b13_4 u a_n vars dims m) b13_5 v99
def rS {S:Type} (hd:iE S) (k:Nat) (ret:Pan Int Tm→Option S) (t u:Tm) (a_n vars dims:Int) (J1:(List Tm)→(List (Br Tm))→Int→Option S) (rec0:(List Tm)→Int→Option S) (b13_4:List Tm) (v68:Int):Option S:=
 ab (decide ((v68:Int)<(t.kids.length:Int))) (
 Option.bind (aq t.kids v68) fun x3=>
 aa k (gI k t.kind v68) fun r4=>
 hd (ac x3) a_n (ac u) (IntKind.wrap .i64 (vars+r4.1)) (IntKind.wrap .i64 (dims+r4.2)) fun r6=>Pan.elim r6 (fun r6=>
  Option.bind (aX 1099511627776 b13_4.length [(ac r6)].length) fun x8=>
   rec0 (b13_4++[(ac r6)]) (IntKind.wrap .i64 (v68+1))) (fun e7=>
  ret (.pan e7))) (
  J1 b13_4 ([]:List (Br Tm)) 0)
noncomputable def qf {S:Type} (hd:iE S) (k:Nat) (ret:Pan Int Tm→Option S) (t u:Tm) (a_n vars dims:Int):Nat→(List Tm)→Int→Option S
 |0=>fun _ _=> .none
 |m+1=>fun b13_4 v68=>rS hd k ret t u a_n vars dims (fun b13_4 b13_5 v99=>ld hd k ret t b13_4 u a_n vars dims k b13_5 v99) (qf hd k ret t u a_n vars dims m) b13_4 v68
def FY {S:Type} (hd:iE S) (k:Nat) (ret:Pan Int Tm→Option S) (J0:(List Tm)→Int→Option S) (t:Tm) (a_n:Int) (u:Tm) (vars dims:Int):Option S:=
 ab (t.kind==1) (
 ab (t.n==(IntKind.wrap .i64 (a_n+vars))) (
  aa k (lS k (ac u) vars dims) fun r1=>
  ab (!(r1.2==0)) (
  ret (.pan r1.2)) (
  ret (.ok (ac r1.1)))) (
  ab (decide ((t.n:Int)>(IntKind.wrap .i64 (a_n+vars)))) (
  ret (.ok (Tm.mk 1 (IntKind.wrap .i64 (t.n-1)) ByteArray.empty [] [] []))) (
  ret (.ok (ac t))))) (
 Option.bind (aX 1099511627776 0 t.r.length) fun x2=>
  J0 ([]:List Tm) 0)
noncomputable def hY {S:Type}:Nat→Tm→Int→Tm→Int→Int→(Pan Int Tm→Option S)→Option S
 |0=>fun _ _ _ _ _ _=> .none
 |k+1=>fun t a_n u vars dims ret=>FY (hY k) k ret (fun b13_4 v68=>qf (hY k) k ret t u a_n vars dims k b13_4 v68) t a_n u vars dims
abbrev dB (S:Type):=Tm→(Int→Option S)→Option S
noncomputable def F_ {S:Type} (hd:dB S) (k:Nat) (ret:Bool×Int→Option S) (a_k:Tm) (p p' c0:Int):Option S:=
 hd (ac a_k) fun r1=>
 ret (true,if r1>c0 then r1 else c0)
noncomputable def ta {S:Type} (hd:dB S) (k:Nat) (a_k:Tm) (p p' c0:Int) (ret:Bool×Int→Option S):Option S:=F_ hd k ret a_k p p' c0
def wL {S:Type} (hd:dB S) (k:Nat) (ret:Bool×Int→Option S) (t:Tm) (v42:Int) (x4:(Br Tm)) (more9:Int) (rec1:Int→Int→Int→Option S) (rec2:Int→Int→Option S) (e0_0'' v49:Int):Option S:=
 ab (decide ((v49:Int)<(x4.kids.length:Int))) (
 Option.bind (aq x4.kids v49) fun x5=>
 aa k (ta hd k (ac x5) 0 more9 e0_0'') fun r6=>
 ab (!r6.1) (
  ret (false,r6.2)) (
   rec2 r6.2 (IntKind.wrap .i64 (v49+1)))) (
  rec1 e0_0'' (IntKind.wrap .i64 (v42+1)) more9)
noncomputable def nZ {S:Type} (hd:dB S) (k:Nat) (ret:Bool×Int→Option S) (rec1:Int→Int→Int→Option S) (t:Tm) (v42:Int) (x4:(Br Tm)) (more9:Int):Nat→Int→Int→Option S
 |0=>fun _ _=> .none
 |m+1=>fun e0_0'' v49=>wL hd k ret t v42 x4 more9 rec1 (nZ hd k ret rec1 t v42 x4 more9 m) e0_0'' v49
def sn {S:Type} (hd:dB S) (k:Nat) (ret:Bool×Int→Option S) (t:Tm) (J2:Int→(Br Tm)→Int→Int→Int→Option S) (rec1:Int→Int→Int→Option S) (e0_0' v42 more9:Int):Option S:=
 ab (decide ((v42:Int)<(t.sys.length:Int))) (
 Option.bind (aq t.sys v42) fun x4=>
  J2 v42 x4 more9 e0_0' 0) (
 ret (true,e0_0'))
noncomputable def li {S:Type} (hd:dB S) (k:Nat) (ret:Bool×Int→Option S) (t:Tm):Nat→Int→Int→Int→Option S
 |0=>fun _ _ _=> .none
 |m+1=>fun e0_0' v42 more9=>sn hd k ret t (fun v42 x4 more9 e0_0'' v49=>nZ hd k ret (li hd k ret t m) t v42 x4 more9 k e0_0'' v49) (li hd k ret t m) e0_0' v42 more9
def sk {S:Type} (hd:dB S) (k:Nat) (ret:Bool×Int→Option S) (t:Tm) (J1:Int→Int→Int→Option S) (rec0:Int→Int→Option S) (e0_0 v17:Int):Option S:=
 ab (decide ((v17:Int)<(t.kids.length:Int))) (
 Option.bind (aq t.kids v17) fun x1=>
 aa k (gI k t.kind v17) fun r2=>
 aa k (ta hd k (ac x1) r2.1 r2.2 e0_0) fun r3=>
 ab (!r3.1) (
  ret (false,r3.2)) (
   rec0 r3.2 (IntKind.wrap .i64 (v17+1)))) (
 ab (t.kind==15) (
   J1 e0_0 0 1) (
   J1 e0_0 0 0))
noncomputable def qw {S:Type} (hd:dB S) (k:Nat) (ret:Bool×Int→Option S) (t:Tm):Nat→Int→Int→Option S
 |0=>fun _ _=> .none
 |m+1=>fun e0_0 v17=>sk hd k ret t (fun e0_0' v42 more9=>li hd k ret t k e0_0' v42 more9) (qw hd k ret t m) e0_0 v17
noncomputable def Gi {S:Type} (hd:dB S) (k:Nat) (ret:Bool×Int→Option S) (J0:Int→Int→Option S) (t:Tm) (c0:Int):Option S:=
 J0 c0 0
noncomputable def Ca {S:Type} (hd:dB S) (k:Nat) (t:Tm) (c0:Int) (ret:Bool×Int→Option S):Option S:=Gi hd k ret (fun e0_0 v17=>qw hd k ret t k e0_0 v17) t c0
noncomputable def PW {S:Type} (hd:dB S) (k:Nat) (ret:Int→Option S) (t:Tm):Option S:=
 aa k (Ca hd k (ac t) 0) fun r1=>
 ret (IntKind.wrap .i64 (r1.2+1))
noncomputable def kQ {S:Type}:Nat→Tm→(Int→Option S)→Option S
 |0=>fun _ _=> .none
 |k+1=>fun t ret=>PW (kQ k) k ret t
def PP {S:Type} (k:Nat) (ret:Tm×Int→Option S) (t:Tm) (a_n:Int) (u:Tm):Option S:=
 aa k (gb k (ac t)) fun r1=>
 ab (!(r1==0)) (
 ret ((Tm.mk 0 0 ByteArray.empty [] [] []),r1)) (
 aa k (gb k (ac u)) fun r2=>
 ab (!(r2==0)) (
  ret ((Tm.mk 0 0 ByteArray.empty [] [] []),r2)) (
  ab (decide ((a_n:Int)<0)) (
  ret ((Tm.mk 0 0 ByteArray.empty [] [] []),2)) (
  kR k (ac t) fun r3=>
  hU k (ac t) (if 1099511627776<a_n then 1099511627776 else a_n) fun r4=>
  kR k (ac u) fun r5=>
  ab (decide ((IntKind.wrap .i64 (r3+(IntKind.wrap .i64 (r4*(IntKind.wrap .i64 (r5-1))))):Int)>20000)) (
   ret ((Tm.mk 0 0 ByteArray.empty [] [] []),221)) (
   hY k (ac t) (if 1099511627776<a_n then 1099511627776 else a_n) (ac u) 0 0 fun r7=>Pan.elim r7 (fun r7=>
   kQ k (ac r7) fun r9=>
   ab (decide ((r9:Int)>200)) (
    ret ((Tm.mk 0 0 ByteArray.empty [] [] []),62)) (
    ret ((ac r7),0))) (fun e8=>
   ret ((Tm.mk 0 0 ByteArray.empty [] [] []),e8))))))
noncomputable def yi {S:Type} (k:Nat) (t:Tm) (a_n:Int) (u:Tm) (ret:Tm×Int→Option S):Option S:=PP k ret t a_n u
def PK {S:Type} (k:Nat) (ret:Tm×Int→Option S) (t u:Tm) (c0:Int):Option S:=
 aa k (cY k c0) fun r1=>
 ab (!r1) (
 ret ((Tm.mk 0 0 ByteArray.empty [] [] []),c0)) (
 aa k (yi k (ac t) 0 (ac u)) fun r2=>
 aa k (f_ k (ac r2.1) r2.2 c0) fun r3=>
 ret ((ac r3.1),r3.2))
noncomputable def yf {S:Type} (k:Nat) (t u:Tm) (c0:Int) (ret:Tm×Int→Option S):Option S:=PK k ret t u c0
def PM {S:Type} (k:Nat) (ret:Tm×Int→Option S) (t:Tm) (a_r:List Cl) (c0:Int):Option S:=
 aa k (cY k c0) fun r1=>
 ab (!r1) (
 ret ((Tm.mk 0 0 ByteArray.empty [] [] []),c0)) (
 aa k (kM k (ac t) 0 a_r) fun r2=>
 aa k (f_ k (ac r2.1) r2.2 c0) fun r3=>
 ret ((ac r3.1),r3.2))
noncomputable def yh {S:Type} (k:Nat) (t:Tm) (a_r:List Cl) (c0:Int) (ret:Tm×Int→Option S):Option S:=PM k ret t a_r c0
noncomputable def kr {S:Type} (k:Nat) (ret:Int×Int×ByteArray×List Tm→Option S) (kind:Int) (kids:List Tm):Option S:=
 ret (kind,0,ByteArray.empty,kids)
noncomputable def dI {S:Type} (k:Nat) (kind:Int) (kids:List Tm) (ret:Int×Int×ByteArray×List Tm→Option S):Option S:=kr k ret kind kids
noncomputable def FX {S:Type} (k:Nat) (ret:Int×Int×ByteArray×List Cl×List Tm→Option S) (kind:Int) (a_r:List Cl) (kids:List Tm):Option S:=
 ret (kind,0,ByteArray.empty,a_r,kids)
noncomputable def s9 {S:Type} (k:Nat) (kind:Int) (a_r:List Cl) (kids:List Tm) (ret:Int×Int×ByteArray×List Cl×List Tm→Option S):Option S:=FX k ret kind a_r kids
def PL {S:Type} (k:Nat) (ret:List Cl×Int→Option S) (f:List Cl) (a_by c0:Int):Option S:=
 aa k (cY k c0) fun r1=>
 ab (!r1) (
 ret (([]:List Cl),c0)) (
 aa k (kN k f 0 a_by) fun r2=>
 aa k (f_ k (Tm.mk 0 0 ByteArray.empty [] [] []) r2.2 c0) fun r3=>
 ret (r2.1,r3.2))
noncomputable def yg {S:Type} (k:Nat) (f:List Cl) (a_by c0:Int) (ret:List Cl×Int→Option S):Option S:=PL k ret f a_by c0
noncomputable def ko {S:Type} (k:Nat) (ret:(Br Tm)→Option S) (f:List Cl) (kids:List Tm):Option S:=
 ret (Br.mk f kids)
noncomputable def dU {S:Type} (k:Nat) (f:List Cl) (kids:List Tm) (ret:(Br Tm)→Option S):Option S:=ko k ret f kids
def PJ {S:Type} (k:Nat) (ret:Tm×Int→Option S) (t:Tm) (a_by c0:Int):Option S:=
 aa k (cY k c0) fun r1=>
 ab (!r1) (
 ret ((Tm.mk 0 0 ByteArray.empty [] [] []),c0)) (
 aa k (lU k (ac t) 1 a_by) fun r2=>
 aa k (f_ k (ac r2.1) r2.2 c0) fun r3=>
 ret ((ac r3.1),r3.2))
noncomputable def ye {S:Type} (k:Nat) (t:Tm) (a_by c0:Int) (ret:Tm×Int→Option S):Option S:=PJ k ret t a_by c0
noncomputable def OA {S:Type} (k:Nat) (ret:Int×Int×ByteArray×List Tm×List (Br Tm)→Option S) (sys:List (Br Tm)):Option S:=
 aa k (ck k 3 ([]:List Tm)) fun r1=>
 aa k (ck k 3 ([]:List Tm)) fun r2=>
 ret (15,0,ByteArray.empty,[(Tm.mk r1.1 r1.2.1 r1.2.2.1 [] r1.2.2.2 []),(Tm.mk r2.1 r2.2.1 r2.2.2.1 [] r2.2.2.2 [])],sys)
noncomputable def oW {S:Type} (k:Nat) (sys:List (Br Tm)) (ret:Int×Int×ByteArray×List Tm×List (Br Tm)→Option S):Option S:=OA k ret sys
def Ox {S:Type} (k:Nat) (ret:Tm×Int→Option S) (line:Tm) (c0:Int):Option S:=
 aa k (dm k c0) fun r1=>
 ab (!r1) (
 ret ((Tm.mk 0 0 ByteArray.empty [] [] []),c0)) (
 aa k (nr k) fun r2=>
 aa k (kM k (ac line) 0 r2) fun r3=>
 aa k (jJ k r3.2 c0) fun r4=>
 ret ((ac r3.1),r4))
noncomputable def xd {S:Type} (k:Nat) (line:Tm) (c0:Int) (ret:Tm×Int→Option S):Option S:=Ox k ret line c0
def oN {S:Type} (k:Nat) (ret:Tm×Int→Option S) (r3:Tm) (r9:Int×Int×ByteArray×List Tm) (r6:Tm) (rec0:Int→(List (Br Tm))→Int→Option S) (b19000_0:Int) (b9_5:List (Br Tm)) (v38:Int):Option S:=
 ab (decide ((v38:Int)<(r6.sys.length:Int))) (
 Option.bind (aq r6.sys v38) fun x10=>
 aa k (dm k b19000_0) fun r11=>
 ab (!r11) (
  aa k (eK k (Tm.mk r9.1 r9.2.1 r9.2.2.1 [] r9.2.2.2 b9_5) b19000_0) fun r12=>
  ret ((ac r12.1),r12.2.1)) (
  aa k (lQ k (ac r3) [(Cl.mk 1 0),(Cl.mk 2 0)] b19000_0) fun r13=>
  Option.bind (aq x10.kids 0) fun x14=>
  aa k (ck k 14 [(ac r13.1),(ac x14)]) fun r15=>
  Option.bind (aX 1099511627776 b9_5.length [(Br.mk x10.face [(Tm.mk r15.1 r15.2.1 r15.2.2.1 [(Cl.mk 1 0)] r15.2.2.2 [])])].length) fun x16=>
   rec0 r13.2 (b9_5++[(Br.mk x10.face [(Tm.mk r15.1 r15.2.1 r15.2.2.1 [(Cl.mk 1 0)] r15.2.2.2 [])])]) (IntKind.wrap .i64 (v38+1)))) (
 aa k (eK k (Tm.mk r9.1 r9.2.1 r9.2.2.1 [] r9.2.2.2 b9_5) b19000_0) fun r17=>
 ret ((ac r17.1),r17.2.1))
noncomputable def k_ {S:Type} (k:Nat) (ret:Tm×Int→Option S) (r3:Tm) (r9:Int×Int×ByteArray×List Tm) (r6:Tm):Nat→Int→(List (Br Tm))→Int→Option S
 |0=>fun _ _ _=> .none
 |m+1=>fun b19000_0 b9_5 v38=>oN k ret r3 r9 r6 (k_ k ret r3 r9 r6 m) b19000_0 b9_5 v38
noncomputable def E8 {S:Type} (k:Nat) (ret:Tm×Int→Option S) (J0:Tm→(Int×Int×ByteArray×List Tm)→Tm→Int→(List (Br Tm))→Int→Option S) (line a:Tm) (sys:List (Br Tm)):Option S:=
 aa k (oW k sys) fun r1=>
 aa k (lP k [(ac line),(ac a),(Tm.mk r1.1 r1.2.1 r1.2.2.1 [] r1.2.2.2.1 r1.2.2.2.2)]) fun r2=>
 du k (ac line) fun r3=>
 du k (ac a) fun r4=>
 aa k (oW k sys) fun r5=>
 du k (Tm.mk r5.1 r5.2.1 r5.2.2.1 [] r5.2.2.2.1 r5.2.2.2.2) fun r6=>
 aa k (xd k (ac r3) r2) fun r7=>
 aa k (ck k 14 [(ac r3),(ac r4)]) fun r8=>
 aa k (ck k 15 [(ac r7.1),(Tm.mk r8.1 r8.2.1 r8.2.2.1 [] r8.2.2.2 [])]) fun r9=>
 J0 r3 r9 r6 r7.2 ([]:List (Br Tm)) 0
noncomputable def w9 {S:Type} (k:Nat) (line a:Tm) (sys:List (Br Tm)) (ret:Tm×Int→Option S):Option S:=E8 k ret (fun r3 r9 r6 b19000_0 b9_5 v38=>k_ k ret r3 r9 r6 k b19000_0 b9_5 v38) line a sys
def PD {S:Type} (k:Nat) (ret:Tm×Int→Option S) (line a:Tm) (sys:List (Br Tm)) (c0:Int):Option S:=
 aa k (cY k c0) fun r1=>
 ab (!r1) (
 ret ((Tm.mk 0 0 ByteArray.empty [] [] []),c0)) (
 aa k (w9 k (ac line) (ac a) sys) fun r2=>
 aa k (f_ k (ac r2.1) r2.2 c0) fun r3=>
 ret ((ac r3.1),r3.2))
noncomputable def yb {S:Type} (k:Nat) (line a:Tm) (sys:List (Br Tm)) (c0:Int) (ret:Tm×Int→Option S):Option S:=PD k ret line a sys c0
end
end Go.Proofs.YtgajalidbabccaaGreatDoor
namespace Go.Proofs.YtgajalidbabccaaGreatDoor
open Go PI
set_option linter.unusedVariables false
set_option maxRecDepth 100000
noncomputable section
noncomputable def PF {S:Type} (k:Nat) (ret:Tm×Int→Option S) (t:Tm) (c0:Int):Option S:=
 aa k (nr k) fun r1=>
 aa k (yh k (ac t) r1 c0) fun r2=>
 ret ((ac r2.1),r2.2)
noncomputable def yc {S:Type} (k:Nat) (t:Tm) (c0:Int) (ret:Tm×Int→Option S):Option S:=PF k ret t c0
noncomputable def mS {S:Type} (k:Nat) (ret:Int×Int×ByteArray×List Tm×List (Br Tm)→Option S) (kind:Int) (l:List (Br Tm)) (kids:List Tm):Option S:=
 ret (kind,0,ByteArray.empty,kids,l)
noncomputable def dV {S:Type} (k:Nat) (kind:Int) (l:List (Br Tm)) (kids:List Tm) (ret:Int×Int×ByteArray×List Tm×List (Br Tm)→Option S):Option S:=mS k ret kind l kids
noncomputable def Pf {S:Type} (k:Nat) (ret:(Br Tm)→Option S) (b:(Br Tm)):Option S:=
 Option.bind (aq b.kids 1) fun x1=>
 aa k (dU k b.face [(ac x1)]) fun r2=>
 ret r2
noncomputable def B2 {S:Type} (k:Nat) (b:(Br Tm)) (ret:(Br Tm)→Option S):Option S:=Pf k ret b
def v6 {S:Type} (k:Nat) (ret:List (Br Tm)→Option S) (l:List (Br Tm)) (rec0:Int→(List (Br Tm))→Option S) (v10:Int) (out5:List (Br Tm)):Option S:=
 ab (decide ((v10:Int)<(l.length:Int))) (
 Option.bind (aq l v10) fun x1=>
 aa k (B2 k x1) fun r2=>
 Option.bind (aX 1099511627776 out5.length [r2].length) fun x3=>
  rec0 (IntKind.wrap .i64 (v10+1)) (out5++[r2])) (
 ret out5)
noncomputable def pZ {S:Type} (k:Nat) (ret:List (Br Tm)→Option S) (l:List (Br Tm)):Nat→Int→(List (Br Tm))→Option S
 |0=>fun _ _=> .none
 |m+1=>fun v10 out5=>v6 k ret l (pZ k ret l m) v10 out5
noncomputable def FI {S:Type} (k:Nat) (ret:List (Br Tm)→Option S) (J0:Int→(List (Br Tm))→Option S) (l:List (Br Tm)):Option S:=
 J0 0 ([]:List (Br Tm))
noncomputable def B0 {S:Type} (k:Nat) (l:List (Br Tm)) (ret:List (Br Tm)→Option S):Option S:=FI k ret (fun v10 out5=>pZ k ret l k v10 out5) l
noncomputable def Pe {S:Type} (k:Nat) (ret:List (Br Tm)→Option S) (g:Tm):Option S:=
 aa k (B0 k g.sys) fun r1=>
 ret r1
noncomputable def xL {S:Type} (k:Nat) (g:Tm) (ret:List (Br Tm)→Option S):Option S:=Pe k ret g
noncomputable def FJ {S:Type} (k:Nat) (ret:Int×Int×ByteArray×List Tm×List (Br Tm)→Option S) (a:Tm) (es:List (Br Tm)):Option S:=
 aa k (dV k 18 es [(ac a)]) fun r1=>
 ret (r1.1,r1.2.1,r1.2.2.1,r1.2.2.2.1,r1.2.2.2.2)
noncomputable def nw {S:Type} (k:Nat) (a:Tm) (es:List (Br Tm)) (ret:Int×Int×ByteArray×List Tm×List (Br Tm)→Option S):Option S:=FJ k ret a es
noncomputable def Pd {S:Type} (k:Nat) (ret:Int×Int×ByteArray×List Tm→Option S) (a_e:Tm):Option S:=
 aa k (dI k 9 [(ac a_e)]) fun r1=>
 ret (r1.1,r1.2.1,r1.2.2.1,r1.2.2.2)
noncomputable def B1 {S:Type} (k:Nat) (a_e:Tm) (ret:Int×Int×ByteArray×List Tm→Option S):Option S:=Pd k ret a_e
noncomputable def Ag {S:Type} (k:Nat) (ret:Int×Int×ByteArray→Option S) (a_n:Int):Option S:=
 ret (1,a_n,ByteArray.empty)
noncomputable def fN {S:Type} (k:Nat) (a_n:Int) (ret:Int×Int×ByteArray→Option S):Option S:=Ag k ret a_n
noncomputable def Oy {S:Type} (k:Nat) (ret:Int×Int×ByteArray×List Tm×Int→Option S) (t a f y:Tm) (c0:Int):Option S:=
 aa k (de k (ac a) 1 1 c0) fun r1=>
 aa k (de k (ac y) 1 0 r1.2) fun r2=>
 aa k (de k (ac f) 1 0 r2.2) fun r3=>
 aa k (fN k 0) fun r4=>
 aa k (ck k 6 [(ac r3.1),(Tm.mk r4.1 r4.2.1 r4.2.2 [] [] [])]) fun r5=>
 aa k (ck k 11 [(ac r1.1),(ac r2.1),(Tm.mk r5.1 r5.2.1 r5.2.2.1 [] r5.2.2.2 [])]) fun r6=>
 aa k (ck k 7 [(ac t),(Tm.mk r6.1 r6.2.1 r6.2.2.1 [] r6.2.2.2 [])]) fun r7=>
 ret (r7.1,r7.2.1,r7.2.2.1,r7.2.2.2,r3.2)
noncomputable def sK {S:Type} (k:Nat) (t a f y:Tm) (c0:Int) (ret:Int×Int×ByteArray×List Tm×Int→Option S):Option S:=Oy k ret t a f y c0
def wy {S:Type} (k:Nat) (ret:Bool→Option S) (a b:List Cl) (rec0:Int→Option S) (i5:Int):Option S:=
 ab (decide ((i5:Int)<(a.length:Int))) (
 Option.bind (aq a i5) fun x1=>
 Option.bind (aq b i5) fun x2=>
 ab (!((x1.pos==x2.pos)&&((x1.neg==x2.neg)&&true))) (
  ret false) (
   rec0 (IntKind.wrap .i64 (i5+1)))) (
 ret true)
noncomputable def qh {S:Type} (k:Nat) (ret:Bool→Option S) (a b:List Cl):Nat→Int→Option S
 |0=>fun _=> .none
 |m+1=>fun i5=>wy k ret a b (qh k ret a b m) i5
def FZ {S:Type} (k:Nat) (ret:Bool→Option S) (J0:Int→Option S) (a b:List Cl):Option S:=
 ab (!((a.length:Int)==(b.length:Int))) (
 ret false) (
  J0 0)
noncomputable def pk {S:Type} (k:Nat) (a b:List Cl) (ret:Bool→Option S):Option S:=FZ k ret (fun i5=>qh k ret a b k i5) a b
abbrev fJ (S:Type):=Tm→Tm→(Bool→Option S)→Option S
def wB {S:Type} (hd:fJ S) (k:Nat) (ret:Bool→Option S) (a b:List Tm) (rec0:Int→Option S) (i5:Int):Option S:=
 ab (decide ((i5:Int)<(a.length:Int))) (
 Option.bind (aq a i5) fun x1=>
 Option.bind (aq b i5) fun x2=>
 hd (ac x1) (ac x2) fun r3=>
 ab (!r3) (
  ret false) (
   rec0 (IntKind.wrap .i64 (i5+1)))) (
 ret true)
noncomputable def qj {S:Type} (hd:fJ S) (k:Nat) (ret:Bool→Option S) (a b:List Tm):Nat→Int→Option S
 |0=>fun _=> .none
 |m+1=>fun i5=>wB hd k ret a b (qj hd k ret a b m) i5
def F5 {S:Type} (hd:fJ S) (k:Nat) (ret:Bool→Option S) (J0:Int→Option S) (a b:List Tm):Option S:=
 ab (!((a.length:Int)==(b.length:Int))) (
 ret false) (
  J0 0)
noncomputable def s_ {S:Type} (hd:fJ S) (k:Nat) (a b:List Tm) (ret:Bool→Option S):Option S:=F5 hd k ret (fun i5=>qj hd k ret a b k i5) a b
def wA {S:Type} (hd:fJ S) (k:Nat) (ret:Bool→Option S) (a b:Tm) (rec0:Int→Option S) (i5:Int):Option S:=
 ab (decide ((i5:Int)<(a.sys.length:Int))) (
 Option.bind (aq a.sys i5) fun x3=>
 Option.bind (aq b.sys i5) fun x4=>
 aa k (pk k x3.face x4.face) fun r5=>
 ab (!r5) (
  ret false) (
  Option.bind (aq a.sys i5) fun x6=>
  Option.bind (aq b.sys i5) fun x7=>
  aa k (s_ hd k x6.kids x7.kids) fun r8=>
  ab (!r8) (
  ret false) (
    rec0 (IntKind.wrap .i64 (i5+1))))) (
 ret true)
noncomputable def qi {S:Type} (hd:fJ S) (k:Nat) (ret:Bool→Option S) (a b:Tm):Nat→Int→Option S
 |0=>fun _=> .none
 |m+1=>fun i5=>wA hd k ret a b (qi hd k ret a b m) i5
def F1 {S:Type} (hd:fJ S) (k:Nat) (ret:Bool→Option S) (J0:Int→Option S) (a b:Tm):Option S:=
 ab (!(a.kind==b.kind)) (
 ret false) (
 ab (!(a.n==b.n)) (
  ret false) (
  ab (!(a.name==b.name)) (
  ret false) (
  aa k (pk k a.r b.r) fun r1=>
  ab (!r1) (
   ret false) (
   aa k (s_ hd k a.kids b.kids) fun r2=>
   ab (!r2) (
   ret false) (
   ab (!((a.sys.length:Int)==(b.sys.length:Int))) (
    ret false) (
       J0 0))))))
noncomputable def cZ {S:Type}:Nat→Tm→Tm→(Bool→Option S)→Option S
 |0=>fun _ _ _=> .none
 |k+1=>fun a b ret=>F1 (cZ k) k ret (fun i5=>qi (cZ k) k ret a b k i5) a b
abbrev Tf (S:Type):=Tm→(Tm→Option S)→Option S
abbrev Tg (S:Type):=Tm→(Int→Option S)→Option S
abbrev Th (S:Type):=Tm→(Int→Option S)→Option S
abbrev Te (S:Type):=Tm→Int→Int→Bool→(Bool→Option S)→Option S
abbrev Ti (S:Type):=Tm→Int→Int→Int→Int→(Tm→Option S)→Option S
abbrev Tn (S:Type):=Tm→Int→(List Cl)→Int→Bool→(Tm→Option S)→Option S
noncomputable def Pq {S:Type} (k:Nat) (ret:Bool→Option S) (t:Tm):Option S:=
 hZ k (ac t) 100 fun r1=>
 ret (decide ((r1:Int)>100))
noncomputable def xS {S:Type} (k:Nat) (t:Tm) (ret:Bool→Option S):Option S:=Pq k ret t
noncomputable def agR {S:Type} (k:Nat) (ret:Int×Int×ByteArray×List Tm→Option S) (kind:Int) (kids:List Tm):Option S:=
 ret (kind,0,ByteArray.empty,kids)
noncomputable def gH {S:Type} (k:Nat) (kind:Int) (kids:List Tm) (ret:Int×Int×ByteArray×List Tm→Option S):Option S:=agR k ret kind kids
noncomputable def Pi {S:Type} (k:Nat) (ret:List Tm×Int→Option S) (u:Tm) (c1_0 c1_1 c1_2:Int) (c1_3:ByteArray) (c1_4:List Cl) (c1_5:List Tm) (c1_6 c1_7:List (Br Tm)):Option S:=
 aa k (eu k (ac u) 1 0 c1_0) fun r1=>
 aa k (s8 k 0) fun r2=>
 aa k (dI k 6 [(ac r1.1),(Tm.mk r2.1 r2.2.1 r2.2.2 [] [] [])]) fun r3=>
 ret ([(Tm.mk r3.1 r3.2.1 r3.2.2.1 [] r3.2.2.2 [])],r1.2)
noncomputable def xN {S:Type} (k:Nat) (u:Tm) (c1_0 c1_1 c1_2:Int) (c1_3:ByteArray) (c1_4:List Cl) (c1_5:List Tm) (c1_6 c1_7:List (Br Tm)) (ret:List Tm×Int→Option S):Option S:=Pi k ret u c1_0 c1_1 c1_2 c1_3 c1_4 c1_5 c1_6 c1_7
def wa {S:Type} (k:Nat) (ret:List (Br Tm)×Int→Option S) (c0_1 c0_2:Int) (c0_3:ByteArray) (c0_4:List Cl) (c0_5:List Tm) (c0_6 c0_7:List (Br Tm)) (rec0:Int→Int→(List (Br Tm))→Option S) (e0_0 v13:Int) (out5:List (Br Tm)):Option S:=
 ab (decide ((v13:Int)<(c0_7.length:Int))) (
 Option.bind (aq c0_7 v13) fun x1=>
 Option.bind (aq x1.kids 0) fun x2=>
 aa k (xN k (ac x2) e0_0 c0_1 c0_2 c0_3 c0_4 c0_5 c0_6 c0_7) fun r3=>
 aa k (dU k x1.face r3.1) fun r4=>
 Option.bind (aX 1099511627776 out5.length [r4].length) fun x5=>
  rec0 r3.2 (IntKind.wrap .i64 (v13+1)) (out5++[r4])) (
 ret (out5,e0_0))
noncomputable def p8 {S:Type} (k:Nat) (ret:List (Br Tm)×Int→Option S) (c0_1 c0_2:Int) (c0_3:ByteArray) (c0_4:List Cl) (c0_5:List Tm) (c0_6 c0_7:List (Br Tm)):Nat→Int→Int→(List (Br Tm))→Option S
 |0=>fun _ _ _=> .none
 |m+1=>fun e0_0 v13 out5=>wa k ret c0_1 c0_2 c0_3 c0_4 c0_5 c0_6 c0_7 (p8 k ret c0_1 c0_2 c0_3 c0_4 c0_5 c0_6 c0_7 m) e0_0 v13 out5
noncomputable def FL {S:Type} (k:Nat) (ret:List (Br Tm)×Int→Option S) (J0:Int→Int→(List (Br Tm))→Option S) (c0_0 c0_1 c0_2:Int) (c0_3:ByteArray) (c0_4:List Cl) (c0_5:List Tm) (c0_6 c0_7:List (Br Tm)):Option S:=
 J0 c0_0 0 ([]:List (Br Tm))
noncomputable def pc {S:Type} (k:Nat) (c0_0 c0_1 c0_2:Int) (c0_3:ByteArray) (c0_4:List Cl) (c0_5:List Tm) (c0_6 c0_7:List (Br Tm)) (ret:List (Br Tm)×Int→Option S):Option S:=FL k ret (fun e0_0 v13 out5=>p8 k ret c0_1 c0_2 c0_3 c0_4 c0_5 c0_6 c0_7 k e0_0 v13 out5) c0_0 c0_1 c0_2 c0_3 c0_4 c0_5 c0_6 c0_7
noncomputable def Pj {S:Type} (k:Nat) (ret:Int×Int×ByteArray×List Tm×Int→Option S) (t:Tm) (c0_0 c0_1 c0_2:Int) (c0_3:ByteArray) (c0_4:List Cl) (c0_5:List Tm) (c0_6 c0_7:List (Br Tm)):Option S:=
 aa k (eu k (Tm.mk c0_1 c0_2 c0_3 c0_4 c0_5 c0_6) 1 0 c0_0) fun r1=>
 aa k (s8 k 0) fun r2=>
 aa k (dI k 6 [(ac r1.1),(Tm.mk r2.1 r2.2.1 r2.2.2 [] [] [])]) fun r3=>
 aa k (pc k r1.2 c0_1 c0_2 c0_3 c0_4 c0_5 c0_6 c0_7) fun r4=>
 Option.bind (aq t.kids 1) fun x5=>
 aa k (dV k 15 r4.1 [(ac x5),(Tm.mk r3.1 r3.2.1 r3.2.2.1 [] r3.2.2.2 [])]) fun r6=>
 aa k (dI k 5 [(Tm.mk r6.1 r6.2.1 r6.2.2.1 [] r6.2.2.2.1 r6.2.2.2.2)]) fun r7=>
 ret (r7.1,r7.2.1,r7.2.2.1,r7.2.2.2,r4.2)
noncomputable def xO {S:Type} (k:Nat) (t:Tm) (c0_0 c0_1 c0_2:Int) (c0_3:ByteArray) (c0_4:List Cl) (c0_5:List Tm) (c0_6 c0_7:List (Br Tm)) (ret:Int×Int×ByteArray×List Tm×Int→Option S):Option S:=Pj k ret t c0_0 c0_1 c0_2 c0_3 c0_4 c0_5 c0_6 c0_7
noncomputable def Pk {S:Type} (k:Nat) (ret:List Tm→Option S) (u:Tm) (c0:Int):Option S:=
 aa k (dI k c0 [(ac u)]) fun r1=>
 ret [(Tm.mk r1.1 r1.2.1 r1.2.2.1 [] r1.2.2.2 [])]
noncomputable def B3 {S:Type} (k:Nat) (u:Tm) (c0:Int) (ret:List Tm→Option S):Option S:=Pk k ret u c0
def we {S:Type} (k:Nat) (ret:List (Br Tm)→Option S) (c0_0 c0_1 c0_2:Int) (c0_3:ByteArray) (c0_4:List Cl) (c0_5:List Tm) (c0_6 c0_7:List (Br Tm)) (c1:Int) (rec0:Int→(List (Br Tm))→Option S) (v13:Int) (out5:List (Br Tm)):Option S:=
 ab (decide ((v13:Int)<(c0_7.length:Int))) (
 Option.bind (aq c0_7 v13) fun x1=>
 Option.bind (aq x1.kids 0) fun x2=>
 aa k (B3 k (ac x2) c1) fun r3=>
 aa k (dU k x1.face r3) fun r4=>
 Option.bind (aX 1099511627776 out5.length [r4].length) fun x5=>
  rec0 (IntKind.wrap .i64 (v13+1)) (out5++[r4])) (
 ret out5)
noncomputable def qb {S:Type} (k:Nat) (ret:List (Br Tm)→Option S) (c0_0 c0_1 c0_2:Int) (c0_3:ByteArray) (c0_4:List Cl) (c0_5:List Tm) (c0_6 c0_7:List (Br Tm)) (c1:Int):Nat→Int→(List (Br Tm))→Option S
 |0=>fun _ _=> .none
 |m+1=>fun v13 out5=>we k ret c0_0 c0_1 c0_2 c0_3 c0_4 c0_5 c0_6 c0_7 c1 (qb k ret c0_0 c0_1 c0_2 c0_3 c0_4 c0_5 c0_6 c0_7 c1 m) v13 out5
noncomputable def FO {S:Type} (k:Nat) (ret:List (Br Tm)→Option S) (J0:Int→(List (Br Tm))→Option S) (c0_0 c0_1 c0_2:Int) (c0_3:ByteArray) (c0_4:List Cl) (c0_5:List Tm) (c0_6 c0_7:List (Br Tm)) (c1:Int):Option S:=
 J0 0 ([]:List (Br Tm))
noncomputable def pe {S:Type} (k:Nat) (c0_0 c0_1 c0_2:Int) (c0_3:ByteArray) (c0_4:List Cl) (c0_5:List Tm) (c0_6 c0_7:List (Br Tm)) (c1:Int) (ret:List (Br Tm)→Option S):Option S:=FO k ret (fun v13 out5=>qb k ret c0_0 c0_1 c0_2 c0_3 c0_4 c0_5 c0_6 c0_7 c1 k v13 out5) c0_0 c0_1 c0_2 c0_3 c0_4 c0_5 c0_6 c0_7 c1
noncomputable def Pl {S:Type} (k:Nat) (ret:Int×Int×ByteArray×List Tm×List (Br Tm)→Option S) (kind c1_0 c1_1 c1_2:Int) (c1_3:ByteArray) (c1_4:List Cl) (c1_5:List Tm) (c1_6 c1_7:List (Br Tm)):Option S:=
 aa k (dI k kind [(Tm.mk c1_1 c1_2 c1_3 c1_4 c1_5 c1_6)]) fun r1=>
 aa k (pe k c1_0 c1_1 c1_2 c1_3 c1_4 c1_5 c1_6 c1_7 kind) fun r2=>
 ret (r1.1,r1.2.1,r1.2.2.1,r1.2.2.2,r2)
noncomputable def sX {S:Type} (k:Nat) (kind c1_0 c1_1 c1_2:Int) (c1_3:ByteArray) (c1_4:List Cl) (c1_5:List Tm) (c1_6 c1_7:List (Br Tm)) (ret:Int×Int×ByteArray×List Tm×List (Br Tm)→Option S):Option S:=Pl k ret kind c1_0 c1_1 c1_2 c1_3 c1_4 c1_5 c1_6 c1_7
end
end Go.Proofs.YtgajalidbabccaaGreatDoor
