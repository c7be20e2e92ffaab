/- Part 2 of a proof: the sources, with their names and remarks, lie in wip/. -/
import Derived.Test.YtgajalidbabccaaGreatDoorX1
import Derived.LoopN
import Derived.Scope
import Derived.Recover
import Derived.Orders
import Derived.Test.YtgajalidbabccaaGreatDoorProg
import Derived.KernelRfl
open Array renaming getD_eq_getD_getElem?→jc,getElem?_eq_some_iff→iF
open Bool renaming and_eq_true→af,not_eq_true'→jd
open ByteArray renaming empty→aw
open Go.IntKind renaming wrap→aj
open List renaming all_cons→fq,all_eq_true→dU,append_nil→eN,getElem?_eq_getElem→fc,getElem?_eq_some_iff→gR,length_cons→er,map_cons→iG,mem_append→eu,mem_cons→eh,mem_map→dA,mem_of_getElem?→je,range→fz
open Nat renaming beq→ay,ble→dI,le_refl→ee,le_trans→fC
open Option renaming bind→ag,bind_some→bD
set_option linter.unusedVariables false
set_option linter.unusedSimpArgs false
namespace Go.Proofs.YtgajalidbabccaaGreatDoor.PI
open Go
section
variable {U:Uni} {V:Env U} {P:Program} (X:Link V P) (K:d6 U) (S:Side U) (c:Ctx)
def pB:Prop:= ∀ (o:Oper) (a:Act) (w:World) (σ:St U) (g:Gh U) (D:Nat->Option Nat) (r:MR U) (τ:St U) (fp gp:List Loc) (next:Act->World->Prop) (Q:Exit->Act->World->Prop),
 cW c.nt o=true->Sim X c a.tmps w σ g D->(dz V S o).Rel K σ fp r τ gp->Then X c a r τ next Q->o.wp P a w next Q
def Lands (ds:List Deferred) (e:Ex U) (σ':St U) (Q:Exit->Act->World->Prop):Prop:=
 ∀a' w' g' D',a'.defers=ds->Sim X c a'.tmps w' σ' g' D'->match e with
  | .normal=>Q .normal a' w'
  | .exit id=>Q (.exit id) a' w'
  | .ret=>Q .ret a' w'
  | .panic v=> ∀val,Rep X w' (c.N g' D') g' val v->Q (.panic [{v:=val,recovered:=false}]) a' w'
variable {X K S c} {a:Act} {w:World} {σ:St U} {g:Gh U} {D:Nat->Option Nat} {Q:Exit->Act->World->Prop} {ops:Array Oper}
theorem QE {tm:Array Value} {j d:Nat} (hd:kP ops.toList j=some d) {b:Bool} (h:tm.getD d undef= .bool b):yielded ops tm j=some b:=by
 have ho:(ops[j]?).bind (·.dst)=some d:=by
  grind [kP]
 have ht:tm[d]? =some (.bool b):=by
  rw [jc] at h
  cases h2:tm[d]? with
  |none=>rw [h2] at h;cases h
  |some v=>grind
 simp [yielded,ho,ht]
theorem ahu {tm:Array Value} {j d:Nat} (hd:kP ops.toList j=some d) (h:tm.getD d undef=undef):yielded ops tm j=none:=by
 have ho:(ops[j]?).bind (·.dst)=some d:=by
  grind [kP]
 unfold yielded
 rw [ho]
 simp only [bD]
 rw [jc] at h
 cases h2:tm[d]? with
 |none=>rfl
 |some v=>rw [h2] at h;simp only [Option.getD_some] at h;subst h;rfl
theorem wn (hS:pB X K S c) {o:Oper} {r:MR U} {τ:St U} {fp:List Loc} {next:Act->World->Prop} (hd:cW c.nt o=true) (h:Sim X c a.tmps w σ g D) (hr:(mC V S o (kP ops.toList)).Rel K σ [] r τ fp)
  (ht:Then X c a r τ next Q):if Region.wanted o (yielded ops a.tmps) then o.wp P a w next Q\/(o.asks P a w/\LetsOut Q) else next (a.put o.dst undef) w:=by
 have skip: ∀ {fp' gp'},(put o.dst (.tuple []):M U).Rel K σ fp' r τ gp'->next (a.put o.dst undef) w:=by
  intro fp' gp' hp
  obtain ⟨h1,h2⟩:=tx hp
  subst h2
  obtain ⟨h3,h4⟩:=h.putAct hd (v:=undef) (p:= .tuple []) (.tuple #[] [] rfl (by simp))
  exact ht.done h1 _ _ _ _ h4 h3
 have go: ∀ {fp' gp'},(dz V S o).Rel K σ fp' r τ gp'->o.wp P a w next Q:=fun h'=>hS _ _ _ _ _ _ _ _ _ _ _ _ hd h h' ht
 unfold mC at hr
 cases hg:o.guard with
 |none=>grind [Region.wanted]
 |some jw=>
  obtain ⟨j,want⟩:=jw
  rw [hg] at hr
  simp only at hr
  split at hr
  ·exact hr.elim
  ·rename_i d hj
   have hR:=h.regs d
   rcases hr with ⟨hb,hr⟩|⟨hb,hr⟩|⟨hb,hr⟩
   ·rw [hb] at hR
    have hy:=QE hj (nO hR)
    grind [Region.wanted]
   ·rw [hb] at hR
    have hy:=QE hj (nO hR)
    grind [Region.wanted]
   ·rw [hb] at hR
    have hu:a.tmps.getD d undef=undef:=by
     generalize a.tmps.getD d undef=v at hR
     cases hR with
     |tuple vs _ hl _=>
      have:vs= #[]:=by grind
      subst this;rfl
    grind [ahu,Region.wanted]
theorem Qs (hS:pB X K S c) {e:Ex U} {σ':St U}: ∀ (l:List Oper) (i:Nat) (a:Act) (w:World) (σ:St U) (g:Gh U) (D:Nat->Option Nat) (fps:List (List Loc)),ops.toList.drop i=l->l.all (cW c.nt)=true->Sim X c a.tmps w σ g D->
  pC K V S ops.toList l σ fps e σ'->Lands X c a.defers e σ' Q->wpOps P ops Q (List.range' i l.length) a w:=by
 intro l
 induction l with
 |nil=>
  intro i a w σ g D fps _ _ h hr hl
  obtain ⟨_,h2,h3⟩:=hr
  subst h2;subst h3
  simp only [List.length_nil,List.range'_zero,wpOps]
  exact hl a w g D rfl h
 |cons o l ih=>
  intro i a w σ g D fps hdrop hall h hr hl
  have hi:ops[i]? =some o:=by
   have:=congrArg (·[0]?) hdrop
   grind
  have hdrop':ops.toList.drop (i+1)=l:=by
   rw [<-List.drop_drop,hdrop];rfl
  simp only [fq,af] at hall
  simp only [er,List.range'_succ,wpOps,hi]
  rcases hr with ⟨σ1,f,fps',h1,h2,_⟩|⟨v,f,h1,h2,_⟩
  ·exact wn hS hall.1 h h1 ⟨fun _ a' w' g' D' hdf hs=>ih (i+1) a' w' σ1 g' D' fps' hdrop' hall.2 hs h2 (by grind),fun v hv=>by cases hv⟩
  ·subst h2
   refine wn hS hall.1 h h1 ⟨(fun hv=>by cases hv),fun v' hv w' g' D' val hrep hs=> ?_⟩
   injection hv with hv
   subst hv
   exact hl a w' g' D' rfl hs val hrep
def SeqRel (V:Env U) (K:d6 U) (S:Side U) (ops:Array Oper):List (Nat×List Loc)->St U->St U->Prop
 |[],σ,σ'=>σ.eqv σ'
 |(i,f)::r,σ,σ'=> ∃o σ1,ops[i]? =some o/\(mC V S o (kP ops.toList)).Rel K σ [] .done σ1 f/\SeqRel V K S ops r σ1 σ'
theorem SeqRel.pre {l:List (Nat×List Loc)}: ∀ {σ0 σ σ':St U},SeqRel V K S ops l σ σ'->σ.eqv σ0->SeqRel V K S ops l σ0 σ':=by
 induction l with
 |nil=>intro σ0 σ σ' h he;exact he.symm.trans h
 |cons x l ih=>
  obtain ⟨i,f⟩:=x
  intro σ0 σ σ' h he
  obtain ⟨o,σ1,ho,h1,h2⟩:=h
  obtain ⟨τ,h3,h4⟩:=h1.eqv K he
  exact ⟨o,τ,ho,h3,ih h2 h4⟩
theorem SeqRel.front {i:Nat} {f:List Loc} {post:List (Nat×List Loc)}: ∀ (pre:List (Nat×List Loc)) {σ σ':St U},SeqRel V K S ops (pre++(i,f)::post) σ σ'->(∀x∈pre,fL x.2 f=true)->
  SeqRel V K S ops ((i,f)::(pre++post)) σ σ':=by
 intro pre
 induction pre with
 |nil=>simp
 |cons x pre ih=>
  obtain ⟨j,g⟩:=x
  intro σ σ' h ha
  obtain ⟨o,σ1,ho,h1,h2⟩:=h
  obtain ⟨o',σ2,ho',h3,h4⟩:=ih h2 (fun x hx=>ha x (by simp [hx]))
  obtain ⟨τ1,τ2,h5,h6,h7⟩:=Rel.swap K h1 h3 (ha (j,g) (by simp))
  exact ⟨o',τ1,ho',h5,o,τ2,ho,h6,h4.pre h7⟩
theorem U1: ∀ (l:List Oper) (acc:List Nat),∃t,gc l acc=acc++t/\t.length=l.length:=by
 intro l
 induction l with
 |nil=>simp_all [gc]
 |cons o l ih=>
  intro acc
  obtain ⟨t,h1,h2⟩:=ih (acc++[wd acc o])
  grind [gc]
theorem U2: ∀ (l:List Oper) (acc:List Nat) (k:Nat) (o:Oper),l[k]? =some o->(gc l acc)[acc.length+k]? =some (wd ((gc l acc).take (acc.length+k)) o):=by
 intro l
 induction l with
 |nil=>simp
 |cons o' l ih=>
  intro acc k o h
  cases k with
  |zero=>
   simp at h;subst h
   obtain ⟨t,h1,h2⟩:=U1 l (acc++[wd acc o'])
   grind [gc]
  |succ k=>
   grind [gc]
theorem Yg (acc:List Nat) (j:Nat): ∀ (es:List Edge) (s:Nat),(es.foldl (fun s e=>bif Region.binds .any e then s|||2^e.on|||acc.getD e.on 0 else s) s).testBit j=true->
  s.testBit j=true\/ ∃e∈es,Region.binds .any e=true/\(e.on=j\/(acc.getD e.on 0).testBit j=true):=by
 intro es
 induction es<;>grind
theorem Ek: ∀ (l:List Oper) (n k:Nat) (o:Oper),lz n l=true->l[k]? =some o-> ∀e∈o.after.toList,Region.binds .any e=true->e.on<n+k:=by
 intro l
 induction l with
 |nil=>simp
 |cons o' l ih=>
  intro n k o hf h e he hb
  simp only [lz,af,dU] at hf
  cases k with
  |zero=>
   simp at h;subst h
   have:=hf.1 e he
   simp_all
  |succ k=>
   grind
def Cf (ops:Array Oper) (L:Nat->Prop):Prop:= ∀ (k:Nat) (o:Oper),L k->ops[k]? =some o-> ∀e∈o.after.toList,Region.binds .any e=true->L e.on
theorem LN (hf:lz 0 ops.toList=true) {L:Nat->Prop} (hL:Cf ops L) {j:Nat}: ∀ (n k:Nat),k<n-> ∀o,ops[k]? =some o->(∀e∈o.after.toList,Region.binds .any e=true->L e.on)->
  ((gc ops.toList []).getD k 0).testBit j=true->L j:=by
 intro n
 induction n with
 |zero=>simp
 |succ n ih=>
  intro k hk o ho hdir hb
  have hm:=U2 ops.toList [] k o (by grind)
  simp only [List.length_nil,Nat.zero_add] at hm
  rw [List.getD_eq_getElem?_getD,hm,Option.getD_some] at hb
  unfold wd at hb
  rcases Yg _ _ _ _ hb with h|⟨e,he,hbe,h⟩
  ·simp at h
  ·have hlt:=Ek _ 0 k o hf (by grind) e he hbe
   rw [Nat.zero_add] at hlt
   rcases h with h|h
   ·grind
   ·have hLe:=hdir e he hbe
    rw [List.getD_eq_getElem?_getD,List.getElem?_take_of_lt hlt,<-List.getD_eq_getElem?_getD] at h
    have hon:e.on<ops.size:=by grind
    exact ih e.on (by omega) _ (Array.getElem?_eq_getElem hon) (fun e' he' hb'=>hL _ _ hLe (Array.getElem?_eq_getElem hon) e' he' hb') h
theorem afE: ∀ (l:List Oper) (i:Nat) (σ σ':St U) (fps:List (List Loc)),ops.toList.drop i=l->pC K V S ops.toList l σ fps .normal σ'->fps.length=l.length/\SeqRel V K S ops ((List.range' i l.length).zip fps) σ σ':=by
 intro l
 induction l with
 |nil=>
  intro i σ σ' fps _ h
  obtain ⟨h1,_,h3⟩:=h
  subst h1;subst h3
  exact ⟨rfl,St.eqv.refl _⟩
 |cons o l ih=>
  intro i σ σ' fps hd h
  have hi:ops[i]? =some o:=by
   have:=congrArg (·[0]?) hd
   grind
  have hd':ops.toList.drop (i+1)=l:=by rw [<-List.drop_drop,hd];rfl
  rcases h with ⟨σ1,f,fps',h1,h2,h3⟩|⟨v,f,_,h2,_⟩
  ·subst h3
   obtain ⟨h4,h5⟩:=ih (i+1) σ1 σ' fps' hd' h2
   exact ⟨by simp [h4],o,σ1,hi,h1,h5⟩
  grind
theorem JG (before:List Nat): ∀ (fs:List (List Loc)) (j:Nat) (done:List (List Loc)),j=done.length->oC before j done fs=true-> ∀ (p q:Nat) (f g:List Loc),p<q->(done++fs)[p]? =some f->(done++fs)[q]? =some g->done.length<=q->
  (before.getD q 0).testBit p=true\/fL f g=true:=by
 intro fs
 induction fs with
 |nil=>
  grind
 |cons h fs ih=>
  intro j done hj hf p q f g hpq hp hq hle
  simp only [oC,af,dU] at hf
  by_cases hqd:q=done.length
  ·subst hqd
   rw [List.getElem?_append_left hpq] at hp
   rw [List.getElem?_append_right (ee _)] at hq
   simp at hq
   subst hq
   have hmem:(f,p)∈done.zip (eA 0 done.length):=by
    have hn: ∀ (n s k:Nat),k<n->(eA s n)[k]? =some (s+k):=by
     intro n
     induction n with
     |zero=>simp
     |succ n ihn=>
      intro s k hk
      cases k<;>grind [eA]
    have hpl:p<done.length:=hpq
    have h1:=hn done.length 0 p hpl
    rw [Nat.zero_add] at h1
    exact je (i:=p) (by grind [List.getElem?_zip_eq_some])
   grind
  ·have:=ih (j+1) (done++[h]) (by simp [hj]) hf.2 p q f g hpq (by simp_all) (by simp_all) (by simp;omega)
   simp_all
structure Left (ops:Array Oper) (fps:List (List Loc)) (listed:Array Bool) (rem:List (Nat×List Loc)):Prop where
 size:listed.size=ops.size
 fst:rem.map (·.1)=(fz ops.size).filter fun i=> !listed.getD i true
 fp: ∀x∈rem,fps[x.1]? =some x.2
 closed:Cf ops fun i=>listed.getD i false=true
theorem X6 {n i:Nat} {listed:Array Bool} (hi:i<listed.size): ∀ (l:List Nat),(l.filter fun j=> !(listed.setIfInBounds i true).getD j true)=(l.filter fun j=> !listed.getD j true).filter (fun j=>j !=i):=by
 intro l
 rw [List.filter_filter]
 congr 1
 funext j
 by_cases hj:i=j
 ·simp_all
 ·have:(listed.setIfInBounds i true).getD j true=listed.getD j true:=by
   simp_all
  grind
theorem ahg (hS:pB X K S c) (hall:ops.toList.all (cW c.nt)=true) {fps:List (List Loc)} (hfor:lz 0 ops.toList=true) (hfree:oC (gc ops.toList []) 0 [] fps=true) {σ':St U} {ds:List Deferred} (hl:Lands X c ds .normal σ' Q):
  ∀ (fuel:Nat) (listed:Array Bool) (rem:List (Nat×List Loc)) (a:Act) (w:World) (σ:St U) (g:Gh U) (D:Nat->Option Nat),rem.length=fuel->Left ops fps listed rem->a.defers=ds->Sim X c a.tmps w σ g D->SeqRel V K S ops rem σ σ'->
  wpAny P .any ops Q fuel listed a w:=by
 intro fuel
 have sub: ∀ (listed:Array Bool) (rem:List (Nat×List Loc)),Left ops fps listed rem-> ∀i,i∈Region.ready .any ops listed-> ∃f,(i,f)∈rem/\ ∃o,ops[i]? =some o/\ ∀e∈o.after.toList,Region.binds .any e=true->listed.getD e.on false=true:=by
  intro listed rem hL i hi
  simp only [Region.ready,List.mem_filter,List.mem_range,af] at hi
  have hm:i∈rem.map (·.1):=by rw [hL.fst];grind
  grind [Array.all_eq_true_iff_forall_mem]
 induction fuel with
 |zero=>
  intro listed rem a w σ g D hlen hL hds h hseq
  have:rem=[]:=List.eq_nil_of_length_eq_zero hlen
  subst this
  refine ⟨?_,hl a w g D hds (h.eqv hseq)⟩
  cases hr:Region.ready .any ops listed with
  |nil=>rfl
  |cons i r=>
   obtain ⟨f,hf,_⟩:=sub listed [] hL i (by grind)
   cases hf
 |succ fuel ih=>
  intro listed rem a w σ g D hlen hL hds h hseq
  refine ⟨fun hr=> ?_,fun i hi=> ?_⟩
  ·
   exfalso
   cases rem with
   |nil=>grind
   |cons x rest=>
    obtain ⟨i,f⟩:=x
    have hm:i∈(fz ops.size).filter fun i=> !listed.getD i true:=by rw [<-hL.fst];simp
    simp only [List.mem_filter,List.mem_range] at hm
    have hmin: ∀j,j<i->listed.getD j false=true:=by
     intro j hj
     have hjn:j<ops.size:=by omega
     cases hlj:listed.getD j true with
     |true=>
      grind
     |false=>
      exfalso
      have hjm:j∈(fz ops.size).filter fun i=> !listed.getD i true:=List.mem_filter.2 ⟨List.mem_range.2 hjn,by grind⟩
      have hsorted:((fz ops.size).filter fun i=> !listed.getD i true).Pairwise (· < ·):=(List.pairwise_lt_range).filter _
      rw [<-hL.fst] at hjm hsorted
      grind [List.pairwise_cons]
    have hin:i∈Region.ready .any ops listed:=by
     simp only [Region.ready,List.mem_filter,List.mem_range,af]
     refine ⟨hm.1,hm.2, ?_⟩
     rw [Array.getElem?_eq_getElem hm.1]
     simp only [Option.map_some,Option.getD_some]
     refine Array.all_eq_true_iff_forall_mem.2 fun e he=> ?_
     cases hb:Region.binds .any e with
     |false=>rfl
     |true=>
      have:=Ek ops.toList 0 i _ hfor (by simp) e (Array.mem_toList_iff.2 he) hb
      grind
    grind
  ·obtain ⟨f,hf,o,ho,hdir⟩:=sub listed rem hL i hi
   obtain ⟨pre,post,hpp⟩:=List.append_of_mem hf
   subst hpp
   have hsorted:((fz ops.size).filter fun i=> !listed.getD i true).Pairwise (· < ·):=(List.pairwise_lt_range).filter _
   rw [<-hL.fst] at hsorted
   have hpre: ∀x∈pre,fL x.2 f=true:=by
    intro x hx
    have hlt:x.1<i:=by
     grind
    have h1:=hL.fp x (by simp [hx])
    have h2:=hL.fp (i,f) (by simp)
    rcases JG _ fps 0 [] rfl hfree x.1 i x.2 f hlt (by grind) (by grind) (by simp) with hb|hb
    ·exfalso
     have hin:=LN hfor hL.closed (i+1) i (Nat.lt_succ_self i) o ho hdir hb
     have hmem:x.1∈(fz ops.size).filter fun i=> !listed.getD i true:=by rw [<-hL.fst];grind
     grind
    omega
   obtain ⟨o',σ1,ho',h1,h2⟩:=hseq.front pre hpre
   rw [ho] at ho'
   injection ho' with ho'
   subst ho'
   have hi':i<listed.size:=by rw [hL.size];grind
   have hdo:cW c.nt o=true:=dU.1 hall o (Array.mem_toList_iff.2 (Array.mem_of_getElem? ho))
   unfold wpOp
   rw [ho]
   refine wn hS hdo h h1 ⟨fun _ a' w' g' D' hdf hs=>ih (listed.setIfInBounds i true) (pre++post) a' w' σ1 g' D' (by grind) ⟨by simp [hL.size], ?_,fun x hx=>hL.fp x (by grind),fun k o' hk ho' e he hb=> ?_⟩ (hdf.trans hds) hs h2,(fun v hv=>by cases hv)⟩
   ·rw [X6 hi' (n:=0),<-hL.fst]
    have hne: ∀x∈pre++post,x.1≠i:=by
     intro x hx
     rw [List.map_append,iG] at hsorted
     have hnd:(pre.map (·.1)++i::post.map (·.1)).Nodup:=hsorted.imp (fun h=>Nat.ne_of_lt h)
     grind
    simp only [List.map_append,iG,List.filter_append]
    rw [List.filter_cons_of_neg (by simp)]
    rw [<-List.filter_append,<-List.map_append,List.filter_eq_self.2]
    grind
   ·by_cases hki:k=i
    ·subst hki
     rw [ho] at ho'
     injection ho' with ho'
     subst ho'
     have:=hdir e he hb
     by_cases hei:k=e.on<;>simp_all
    ·have hk':listed.getD k false=true:=by
      simp_all [Ne.symm]
     have:=hL.closed k o' hk' ho' e he hb
     by_cases hei:i=e.on<;>simp_all
theorem afF: ∀ (l:List Oper) (i:Nat) (σ σ':St U) (fps:List (List Loc)) (v:PV U),ops.toList.drop i=l->pC K V S ops.toList l σ fps (.panic v) σ'->
  ∃fs f o σ1,fps=fs++[f]/\ops[i+fs.length]? =some o/\SeqRel V K S ops ((List.range' i fs.length).zip fs) σ σ1/\(mC V S o (kP ops.toList)).Rel K σ1 [] (.raise v) σ' f:=by
 intro l
 induction l with
 |nil=>intro i σ σ' fps v _ h;obtain ⟨_,h2,_⟩:=h;cases h2
 |cons o l ih=>
  intro i σ σ' fps v hd h
  have hi:ops[i]? =some o:=by
   have:=congrArg (·[0]?) hd
   grind
  have hd':ops.toList.drop (i+1)=l:=by rw [<-List.drop_drop,hd];rfl
  rcases h with ⟨σ1,f,fps',h1,h2,h3⟩|⟨v',f,h1,h2,h3⟩
  ·subst h3
   obtain ⟨fs,f',o',σ2,h4,h5,h6,h7⟩:=ih (i+1) σ1 σ' fps' v hd' h2
   subst h4
   refine ⟨f::fs,f',o',σ2,rfl, ?_,⟨o,σ1,hi,h1,h6⟩,h7⟩
   grind
  ·injection h2 with h2
   subst h2
   exact ⟨[],f,o,σ,h3,by omega,St.eqv.refl _,h1⟩
def SeqR (V:Env U) (K:d6 U) (S:Side U) (ops:Array Oper):List (Nat×List Loc×MR U)->St U->St U->Prop
 |[],σ,σ'=>σ.eqv σ'
 |(i,f,r)::l,σ,σ'=> ∃o σ1,ops[i]? =some o/\(mC V S o (kP ops.toList)).Rel K σ [] r σ1 f/\SeqR V K S ops l σ1 σ'
theorem SeqR.pre {l:List (Nat×List Loc×MR U)}: ∀ {σ0 σ σ':St U},SeqR V K S ops l σ σ'->σ.eqv σ0->SeqR V K S ops l σ0 σ':=by
 induction l with
 |nil=>intro σ0 σ σ' h he;exact he.symm.trans h
 |cons x l ih=>
  obtain ⟨i,f,r⟩:=x
  intro σ0 σ σ' h he
  obtain ⟨o,σ1,ho,h1,h2⟩:=h
  obtain ⟨τ,h3,h4⟩:=h1.eqv K he
  exact ⟨o,τ,ho,h3,ih h2 h4⟩
theorem SeqR.append {l l':List (Nat×List Loc×MR U)}: ∀ {σ σ1 σ':St U},SeqR V K S ops l σ σ1->SeqR V K S ops l' σ1 σ'->SeqR V K S ops (l++l') σ σ':=by
 induction l with
 |nil=>intro σ σ1 σ' h h';exact h'.pre (St.eqv.symm h)
 |cons x l ih=>
  obtain ⟨i,f,r⟩:=x
  intro σ σ1 σ' h h'
  obtain ⟨o,σ2,ho,h1,h2⟩:=h
  exact ⟨o,σ2,ho,h1,ih h2 h'⟩
theorem SeqR.ofSeq: ∀ {l:List (Nat×List Loc)} {σ σ':St U},SeqRel V K S ops l σ σ'->SeqR V K S ops (l.map fun x=>(x.1,x.2,.done)) σ σ':=by
 intro l
 induction l with
 |nil=>intro σ σ' h;exact h
 |cons x l ih=>
  obtain ⟨i,f⟩:=x
  intro σ σ' h
  obtain ⟨o,σ1,ho,h1,h2⟩:=h
  exact ⟨o,σ1,ho,h1,ih h2⟩
theorem SeqR.front {i:Nat} {f:List Loc} {r:MR U} {post:List (Nat×List Loc×MR U)}: ∀ (pre:List (Nat×List Loc×MR U)) {σ σ':St U},SeqR V K S ops (pre++(i,f,r)::post) σ σ'->(∀x∈pre,fL x.2.1 f=true)->
  SeqR V K S ops ((i,f,r)::(pre++post)) σ σ':=by
 intro pre
 induction pre with
 |nil=>simp
 |cons x pre ih=>
  obtain ⟨j,g,q⟩:=x
  intro σ σ' h ha
  obtain ⟨o,σ1,ho,h1,h2⟩:=h
  obtain ⟨o',σ2,ho',h3,h4⟩:=ih h2 (fun x hx=>ha x (by simp [hx]))
  obtain ⟨τ1,τ2,h5,h6,h7⟩:=Rel.swap K h1 h3 (ha (j,g,q) (by simp))
  exact ⟨o',τ1,ho',h5,o,τ2,ho,h6,h4.pre h7⟩
structure Alike (σ0 σ σ':St U):Prop where
 b: ∀id,(σ0.b id).isSome=true->σ'.b id=σ.b id
 o: ∀i,σ'.o i=σ.o i
 u: ∀i,σ'.u i=σ.u i
theorem SeqR.harmless {σ0:St U}: ∀ (l:List (Nat×List Loc×MR U)) {σ σ1:St U},SeqR V K S ops l σ σ1->(∀x∈l,PI.harmless σ0 x.2.1=true)->Alike σ0 σ σ1:=by
 intro l
 induction l with
 |nil=>intro σ σ1 h _;exact ⟨fun id _=>(h.b id).symm,fun i=>(h.o i).symm,fun i=>(h.u i).symm⟩
 |cons x l ih=>
  obtain ⟨j,g,q⟩:=x
  intro σ σ1 h ha
  obtain ⟨o,σa,ho,h1,h2⟩:=h
  obtain ⟨g',hg,l1⟩:=h1.loc K
  simp at hg
  subst hg
  have hg:=ha (j,g,q) (by simp)
  have hst: ∀k,(∀n,k≠ .r n)->(∀id,(k= .b id\/ ∃i,k= .c id i)->(σ0.b id).isSome=true)->σa.at_ k=σ.at_ k:=by
   intro k hk hb
   refine l1.stay k fun l hl hw=> ?_
   have:=dU.1 hg l hl
   cases l with
   |wr n=>exact hk _ hw
   |wb id=>
    have h3:=hb id hw
    simp_all
   |wo n=>grind
   |wu n=>grind
   |fu n=>grind
   |wh n m=>grind
   |_=>exact hw.elim
  have a:=ih h2 fun x hx=>ha x (by simp [hx])
  refine ⟨fun id hid=>(a.b id hid).trans ?_,fun i=>(a.o i).trans ?_,fun i=>(a.u i).trans ?_⟩
  ·grind [De]
  ·have:=hst (.o i) (by simp) (by simp)
   grind [St.at_]
  ·have:=hst (.u i) (by simp) (by simp)
   grind [St.at_]
theorem Uw {p:Nat->Bool}: ∀ (n s:Nat),(eA s n).all p=true-> ∀i,s<=i->i<s+n->p i=true:=by
 intro n
 induction n<;>grind [eA]
structure Raises (ops:Array Oper) (σ0:St U) (L:List (Nat×List Loc×MR U)) (j:Nat) (v:PV U):Prop where
 nodup:(L.map (·.1)).Nodup
 lt: ∀x∈L,x.1<ops.size
 order:L.Pairwise fun x y=>((gc ops.toList []).getD y.1 0).testBit x.1=true\/fL x.2.1 y.2.1=true
 first: ∀pre x post,L=pre++x::post-> ∀o,ops[x.1]? =some o-> ∀e∈o.after.toList,Region.binds .any e=true->e.on∈pre.map (·.1)
 done: ∀x∈L,x.1≠j->x.2.2= .done
 raise: ∀x∈L,x.1=j->x.2.2= .raise v
 harm: ∀x∈L,x.1≠j->((gc ops.toList []).getD j 0).testBit x.1=true\/PI.harmless σ0 x.2.1=true
 after: ∀i,i<ops.size->i∉L.map (·.1)->((gc ops.toList []).getD i 0).testBit j=true
theorem ahh (hS:pB X K S c) (hall:ops.toList.all (cW c.nt)=true) (hfor:lz 0 ops.toList=true) {σ0 σe:St U} {L:List (Nat×List Loc×MR U)} {j:Nat} {v:PV U} (hR:Raises ops σ0 L j v) {ds:List Deferred}
  (hl: ∀a' w' g' D' τ,a'.defers=ds->Sim X c a'.tmps w' τ g' D'->Alike σ0 τ σe-> ∀val,Rep X w' (c.N g' D') g' val v->Q (.panic [{v:=val,recovered:=false}]) a' w'):
  ∀ (m:Nat) (listed:Array Bool) (rem:List (Nat×List Loc×MR U)) (a:Act) (w:World) (σ:St U) (g:Gh U) (D:Nat->Option Nat),rem.length=m->listed.size=ops.size->rem=L.filter (fun x=> !listed.getD x.1 true)->
   (∀i,i<ops.size->i∉L.map (·.1)->listed.getD i false=false)->listed.getD j false=false->j∈L.map (·.1)->Cf ops (fun i=>listed.getD i false=true)->a.defers=ds->Sim X c a.tmps w σ g D->SeqR V K S ops rem σ σe->
   wpAny P .any ops Q (m+(ops.size-L.length)) listed a w:=by
 have unl: ∀ {listed:Array Bool} {i:Nat},i<listed.size->listed.getD i true=listed.getD i false:=by
  grind
 have hfj: ∀ {listed:Array Bool} {i:Nat},i<ops.size->listed.size=ops.size->i∈Region.ready .any ops listed->listed.getD i true=false/\ ∃o,ops[i]? =some o/\ ∀e∈o.after.toList,Region.binds .any e=true->listed.getD e.on false=true:=by
  grind [Region.ready,Array.all_eq_true_iff_forall_mem]
 intro m
 induction m with
 |zero=>
  intro listed rem a w σ g D hlen hsz hrem hge hj hjL hcl hds h hseq
  exfalso
  have hnil:rem=[]:=List.eq_nil_of_length_eq_zero hlen
  obtain ⟨x,hx,hxj⟩:=dA.1 hjL
  have:x∈rem:=by rw [hrem];exact List.mem_filter.2 ⟨hx,by rw [hxj,unl (by rw [hsz,<-hxj];exact hR.lt x hx),hj];rfl⟩
  grind
 |succ m ih=>
  intro listed rem a w σ g D hlen hsz hrem hge hj hjL hcl hds h hseq
  rw [show m+1+(ops.size-L.length)=(m+(ops.size-L.length))+1 by omega]
  have hmem: ∀x∈rem,x∈L/\listed.getD x.1 false=false:=by
   grind
  refine ⟨fun hr=> ?_,fun i hi=> ?_⟩
  ·exfalso
   cases hrm:rem with
   |nil=>grind
   |cons x rest=>
    have hxm:=hmem x (by grind)
    have hxlt:=hR.lt x hxm.1
    obtain ⟨pre,post,hpp⟩:=List.append_of_mem hxm.1
    have hpre: ∀y∈pre,listed.getD y.1 false=true:=by
     intro y hy
     cases hly:listed.getD y.1 false with
     |true=>rfl
     |false=>
      exfalso
      have hyL:y∈L:=by grind
      have hyr:(!listed.getD y.1 true)=true:=by rw [unl (by rw [hsz];exact hR.lt y hyL),hly];rfl
      rw [hpp,List.filter_append] at hrem
      have hne:pre.filter (fun x=> !listed.getD x.1 true)≠[]:=fun e=>by
       grind
      obtain ⟨z,zs,hz⟩:=List.exists_cons_of_ne_nil hne
      rw [hz,hrm] at hrem
      injection hrem with e1 e2
      subst e1
      have hxp:x∈pre:=by
       have:x∈pre.filter (fun x=> !listed.getD x.1 true):=by rw [hz];simp
       grind
      have hnd:=hR.nodup
      grind
    have hin:x.1∈Region.ready .any ops listed:=by
     simp only [Region.ready,List.mem_filter,List.mem_range,af]
     refine ⟨hxlt,by grind, ?_⟩
     rw [Array.getElem?_eq_getElem hxlt]
     simp only [Option.map_some,Option.getD_some]
     refine Array.all_eq_true_iff_forall_mem.2 fun e he=> ?_
     cases hb:Region.binds .any e with
     |false=>rfl
     |true=>
      have:=hR.first pre x post hpp _ (Array.getElem?_eq_getElem hxlt) e (Array.mem_toList_iff.2 he) hb
      grind
    grind
  ·have his:i<ops.size:=by grind [Region.ready]
   obtain ⟨h1,o,ho,hdir⟩:=hfj his hsz hi
   rw [unl (by omega)] at h1
   have hmask: ∀p,((gc ops.toList []).getD i 0).testBit p=true->listed.getD p false=true:=fun p hp=>LN hfor hcl (i+1) i (Nat.lt_succ_self i) o ho hdir hp
   have hdo:cW c.nt o=true:=dU.1 hall o (Array.mem_toList_iff.2 (Array.mem_of_getElem? ho))
   by_cases hiL:i∈L.map (·.1)
   ·obtain ⟨x,hxL,hxi⟩:=dA.1 hiL
    have hxr:x∈rem:=by grind
    obtain ⟨pre,post,hpp⟩:=List.append_of_mem hxr
    have hord:rem.Pairwise fun x y=>((gc ops.toList []).getD y.1 0).testBit x.1=true\/fL x.2.1 y.2.1=true:=by rw [hrem];exact hR.order.filter _
    have hnd:(rem.map (·.1)).Nodup:=by
     rw [hrem]
     exact hR.nodup.sublist ((List.filter_sublist).map _)
    have hpre: ∀y∈pre,fL y.2.1 x.2.1=true:=by
     intro y hy
     grind
    rw [hpp] at hseq
    obtain ⟨xi,xf,xr⟩:=x
    simp only at hxi
    subst hxi
    obtain ⟨o',σa,ho',h2,h3⟩:=hseq.front pre hpre
    rw [ho] at ho'
    injection ho' with ho'
    subst ho'
    by_cases hij:xi=j
    ·subst hij
     have hrr:=hR.raise _ hxL rfl
     simp only at hrr
     subst hrr
     have hro: ∀y∈pre++post,PI.harmless σ0 y.2.1=true:=by
      intro y hy
      have hyr:y∈rem:=by grind
      obtain ⟨hyL,hyl⟩:=hmem y hyr
      have hne:y.1≠xi:=by
       grind
      rcases hR.harm y hyL hne with hb|hb<;>grind
     unfold wpOp
     rw [ho]
     refine wn hS hdo h h2 ⟨(fun hv=>by cases hv),fun v' hv w' g' D' val hrep hs=> ?_⟩
     grind [SeqR.harmless]
    ·have hrr:=hR.done _ hxL hij
     simp only at hrr
     subst hrr
     have hi':xi<listed.size:=by omega
     unfold wpOp
     rw [ho]
     have hset: ∀k,k≠xi-> ∀d,(listed.setIfInBounds xi true).getD k d=listed.getD k d:=by
      intro k hk d
      simp [jc,Ne.symm hk]
     refine wn hS hdo h h2 ⟨fun _ a' w' g' D' hdf hs=>ih (listed.setIfInBounds xi true) (pre++post) a' w' σa g' D' (by grind) (by simp [hsz]) ?_ (fun k hk hkL=> ?_) (by rw [hset j (Ne.symm hij)];exact hj) hjL (fun k o' hk ho' e he hb=> ?_) (hdf.trans hds) hs h3,(fun v hv=>by cases hv)⟩
     ·have e1:L.filter (fun x=> !(listed.setIfInBounds xi true).getD x.1 true)=rem.filter (fun x=>x.1 !=xi):=by
       rw [hrem,List.filter_filter]
       refine List.filter_congr fun y hy=> ?_
       by_cases hyx:y.1=xi
       ·rw [hyx];simp
       ·rw [hset y.1 hyx];simp [hyx]
      grind [List.filter_eq_self,List.mem_map_of_mem]
     ·have:k≠xi:=fun e=>hkL (e▸hiL)
      rw [hset k this];grind
     ·show (listed.setIfInBounds xi true).getD e.on false=true
      have hk2:(listed.setIfInBounds xi true).getD k false=true:=hk
      by_cases hki:k=xi
      ·subst hki
       rw [ho] at ho'
       injection ho' with ho'
       subst ho'
       have:=hdir e he hb
       by_cases hei:k=e.on
       ·grind
       ·rw [hset _ (Ne.symm hei)];exact this
      ·rw [hset k hki] at hk2
       have:=hcl k o' hk2 ho' e he hb
       by_cases hei:xi=e.on
       ·grind
       ·rw [hset _ (Ne.symm hei)];exact this
   ·exfalso
    have:=hmask j (hR.after i his hiL)
    grind
end
section
variable {U:Uni} {V:Env U} {P:Program} {X:Link V P} {K:d6 U} {S:Side U} {c:Ctx} {ops:Array Oper} {σ0 σ1:St U}
theorem vO {o:Oper} {y:Tmp×Nat} (h:vM V S σ0 σ1 o=some y): ∃t z,o.op= .alloc t/\o.dst=some y.1/\o.guard=none/\V.zero t=some z/\y.2=S.boxId y.1/\σ0.b y.2=none/\σ1.b y.2=none/\ ∀e∈o.after.toList,Region.binds .any e=false:=by
 grind [vM,Option.isNone_iff_eq_none,Option.isSome_iff_exists]
theorem aaZ {bf:List Nat} {j:Nat}: ∀ (l:List Oper) (i:Nat) (fps:List (List Loc)) (ll:List (Nat×List Loc)),ops.toList.drop i=l->tf V S σ0 σ1 bf j i l fps=some ll->
  (∀x∈ll,i<=x.1/\x.1<ops.size/\ ∃o y,ops[x.1]? =some o/\vM V S σ0 σ1 o=some y/\x.2=my y)/\(ll.map (·.1)).Pairwise (· < ·)/\(∀x∈ll,∀f∈fps,fL f x.2=true)/\ll.Pairwise (fun x y=>fL x.2 y.2=true)/\
  ∀k,i<=k->k<ops.size->k∉ll.map (·.1)->(bf.getD k 0).testBit j=true:=by
 intro l
 induction l with
 |nil=>
  intro i fps ll hd h
  simp only [tf] at h
  injection h with h
  subst h
  refine ⟨by simp,by simp,by simp,by simp,fun k hk hk2 _=> ?_⟩
  exfalso
  have:=congrArg List.length hd
  grind
 |cons o l ih=>
  intro i fps ll hd h
  have hi:ops[i]? =some o:=by
   have:=congrArg (·[0]?) hd
   grind
  have his:i<ops.size:=(iF.1 hi).1
  have hd':ops.toList.drop (i+1)=l:=by rw [<-List.drop_drop,hd];rfl
  simp only [tf] at h
  cases hb:(bf.getD i 0).testBit j with
  |true=>
   rw [hb] at h
   obtain ⟨a,b,c,d,e⟩:=ih (i+1) fps ll hd' h
   grind
  |false=>
   rw [hb] at h
   simp only [cond_false] at h
   split at h
   case h_2=>cases h
   rename_i y hy
   cases hap:fps.all (fun f=>fL f (my y)) with
   |false=>grind
   |true=>
   rw [hap] at h
   simp only [cond_true] at h
   split at h
   case h_2=>cases h
   rename_i l' hl'
   injection h with h
   subst h
   obtain ⟨a,b,c,d,e⟩:=ih (i+1) (my y::fps) l' hd' hl'
   refine ⟨fun x hx=> ?_, ?_,fun x hx f hf=> ?_, ?_,fun k hk hk2 hkn=> ?_⟩
   ·grind
   ·grind [List.pairwise_cons]
   ·grind
   ·simp only [List.pairwise_cons]
    exact ⟨fun x hx=>c x hx _ (by simp),d⟩
   grind
theorem aaY: ∀ (ll:List (Nat×List Loc)) (σ:St U),(∀x∈ll,∃o y,ops[x.1]? =some o/\vM V S σ0 σ1 o=some y/\x.2=my y/\σ.b y.2=none)->ll.Pairwise (fun x y=>fL x.2 y.2=true)->
  ∃σe,SeqR V K S ops (ll.map fun x=>(x.1,x.2,.done)) σ σe:=by
 intro ll
 induction ll with
 |nil=>intro σ _ _;exact ⟨σ,St.eqv.refl _⟩
 |cons x ll ih=>
  intro σ h hp
  obtain ⟨o,y,ho,hy,hx,hb⟩:=h x (by simp)
  obtain ⟨t,z,h1,h2,h3,h4,h5,_⟩:=vO hy
  simp only [List.pairwise_cons] at hp
  obtain ⟨σe,he⟩:=ih ((σ.setB y.2 (.cells z)).setR y.1 (.ptr y.2 0)) (fun x' hx'=>by
   obtain ⟨o',y',a,b,c,d⟩:=h x' (by simp [hx'])
   refine ⟨o',y',a,b,c, ?_⟩
   have hne:y.2≠y'.2:=by
    intro e
    have:=hp.1 x' hx'
    rw [hx,c] at this
    simp [fL,my,Loc.meets,e] at this
   simp_all) hp.2
  refine ⟨σe,o,_,ho, ?_,he⟩
  unfold mC
  rw [h3]
  simp only
  unfold dz
  rw [h1]
  simp only [h2,h4,<-h5,M.Rel,hb]
  exact ⟨trivial,trivial,by rw [hx];rfl⟩
theorem Kw {y:Tmp×Nat} (h:σ0.b y.2=none):PI.harmless σ0 (my y)=true:=by
 simp [PI.harmless,my,h]
theorem adM {fs:List (List Loc)} {f:List Loc} {o:Oper} {σ σa σ' σ'':St U} {v:PV U} (ho:ops[fs.length]? =some o) (hseq:SeqRel V K S ops ((List.range' 0 fs.length).zip fs) σ σa) (hj:(mC V S o (kP ops.toList)).Rel K σa [] (.raise v) σ' f) (he:σ'.eqv σ'')
  (hf:wH V S ops.toList σ σ'' (fs++[f])=true): ∃L σe,Raises ops σ L fs.length v/\SeqR V K S ops L σ σe/\Alike σ σ'' σe/\lz 0 ops.toList=true/\fs.length∈L.map (·.1)/\L.length<=ops.size:=by
 unfold wH at hf
 simp only [af,List.length_append,List.length_singleton,Nat.add_sub_cancel] at hf
 obtain ⟨hfor,hfree,hharm,hlate⟩:=hf
 obtain ⟨ll,hll⟩:=Option.isSome_iff_exists.1 hlate
 obtain ⟨a,b,cc,d,e⟩:=aaZ (ops:=ops) _ _ _ ll rfl hll
 have hjs:fs.length<ops.size:=(iF.1 ho).1
 obtain ⟨σe,hse⟩:=aaY (K:=K) (V:=V) (S:=S) (ops:=ops) (σ0:=σ) (σ1:=σ'') ll σ' (fun x hx=>by
  obtain ⟨_,_,o',y,h1,h2,h3⟩:=a x hx
  obtain ⟨_,_,_,_,_,_,_,_,h4,_⟩:=vO h2
  exact ⟨o',y,h1,h2,h3,(he.b _).trans h4⟩) d
 generalize hEx:(List.range' 0 fs.length).zip fs=ex at hseq
 have hex:ex.map (·.1)=List.range' 0 fs.length:=by grind [List.map_fst_zip]
 have hexm: ∀x∈ex,x.1<fs.length/\fs[x.1]? =some x.2:=by
  grind [List.mem_iff_getElem?]
 let L:List (Nat×List Loc×MR U):=(ex.map fun x=>(x.1,x.2,MR.done))++((fs.length,f,MR.raise v)::ll.map fun x=>(x.1,x.2,MR.done))
 have hLm:L.map (·.1)=List.range' 0 (fs.length+1)++ll.map (·.1):=by
  simp only [L,List.map_append,List.map_map,iG]
  have:(fun x:Nat×List Loc×MR U=>x.1)∘(fun x:Nat×List Loc=>(x.1,x.2,(MR.done:MR U)))=fun x=>x.1:=rfl
  grind [List.range'_concat]
 have hinc:(L.map (·.1)).Pairwise (· < ·):=by
  rw [hLm,List.pairwise_append]
  grind [List.pairwise_lt_range']
 have cases3: ∀x∈L,(∃y∈ex,x=(y.1,y.2,.done))\/x=(fs.length,f,.raise v)\/ ∃y∈ll,x=(y.1,y.2,.done):=by
  intro x hx
  simp only [L,eu,dA,eh] at hx
  grind
 have hLlt: ∀x∈L,x.1<ops.size:=by
  grind
 have hfps: ∀x∈ex,x.2∈fs++[f]:=fun x hx=>by
  grind
 refine ⟨L,σe,⟨hinc.imp Nat.ne_of_lt,hLlt, ?_, ?_, ?_, ?_, ?_, ?_⟩, ?_, ?_,hfor, ?_, ?_⟩
 ·
  simp only [L,List.pairwise_append,List.pairwise_cons]
  have fo: ∀p q g h,p<q->(fs++[f])[p]? =some g->(fs++[f])[q]? =some h->((gc ops.toList []).getD q 0).testBit p=true\/fL g h=true:=fun p q g h hpq hp hq=>
   JG _ (fs++[f]) 0 [] rfl hfree p q g h hpq (by grind) (by grind) (by simp)
  refine ⟨?_,⟨fun y hy=> ?_, ?_⟩,fun x hx y hy=> ?_⟩
  ·have h1:ex.Pairwise fun x y=>x.1<y.1:=by
    grind
   rw [List.pairwise_map]
   refine (List.Pairwise.and_mem.1 h1).imp fun {x y} h=> ?_
   grind
  ·obtain ⟨z,hz,rfl⟩:=dA.1 hy
   grind
  ·grind
  ·obtain ⟨x',hx',rfl⟩:=dA.1 hx
   rcases eh.1 hy with rfl|hy
   ·grind
   ·obtain ⟨z,hz,rfl⟩:=dA.1 hy
    grind
 ·
  intro pre x post hpp o' ho' ed hed hb
  have hxL:x∈L:=by grind
  have hk:x.1<=fs.length\/fs.length<x.1:=by omega
  rcases hk with hk|hk
  ·have hlt:=Ek ops.toList 0 x.1 _ hfor (by grind) ed hed hb
   rw [Nat.zero_add] at hlt
   have hin:ed.on∈L.map (·.1):=by
    grind
   grind [List.pairwise_cons]
  ·exfalso
   rcases cases3 x hxL with ⟨y,hy,rfl⟩|rfl|⟨y,hy,rfl⟩
   ·grind
   ·simp at hk
   ·obtain ⟨_,_,o2,y2,h1,h2,_⟩:=a y hy
    simp only at ho'
    rw [h1] at ho'
    injection ho' with ho'
    subst ho'
    obtain ⟨_,_,_,_,_,_,_,_,_,h3⟩:=vO h2
    grind
 ·intro x hx hne
  grind
 ·grind
 ·intro x hx hne
  rcases cases3 x hx with ⟨y,hy,rfl⟩|rfl|⟨y,hy,rfl⟩
  ·have:=Uw _ _ hharm y.1 (by omega) (by grind)
   grind
  ·omega
  ·obtain ⟨_,_,o2,y2,h1,h2,h3⟩:=a y hy
   obtain ⟨_,_,_,_,_,_,_,h4,_⟩:=vO h2
   grind [Kw]
 ·grind
 ·exact SeqR.append (SeqR.ofSeq hseq) ⟨o,σ',ho,hj,hse⟩
 ·have hh:=SeqR.harmless (σ0:=σ) _ hse (fun x hx=>by
   obtain ⟨y,hy,rfl⟩:=dA.1 hx
   obtain ⟨_,_,o2,y2,h1,h2,h3⟩:=a y hy
   grind [vO,Kw])
  exact ⟨fun id hid=>(hh.b id hid).trans (he.b id),fun i=>(hh.o i).trans (he.o i),fun i=>(hh.u i).trans (he.u i)⟩
 ·grind
 ·have h1:(L.map (·.1)).length<=(fz ops.size).length:=by
   have hnd:(L.map (·.1)).Nodup:=hinc.imp Nat.ne_of_lt
   refine List.Nodup.length_le_of_subset hnd fun i hi=> ?_
   grind
  grind
theorem ad0 {σ τ:St U} (ho:σ.o=τ.o) (hu:σ.u=τ.u) (t:Option (Nat×Bool)) (v:PV U) (K:Kept U):oW σ t v K=oW τ t v K:=by
 simp_all [oW]
theorem Vo {σ τ:St U} (ho:σ.o=τ.o) (hu:σ.u=τ.u): ∀ (ts:List (Option (Nat×Bool))) (vs:List (PV U)) (K:Kept U),mZ σ ts vs K=mZ τ ts vs K:=by
 intro ts
 induction ts with
 |nil=>intro vs K;cases vs<;>rfl
 |cons t ts ih=>
  intro vs K
  cases vs<;>grind [mZ,ad0]
theorem Vm {σ τ:St U} (ho:σ.o=τ.o) (hu:σ.u=τ.u): ∀ (l:List (Nat×List (Option (Nat×Bool)))) (K:Kept U),(∀x∈l,σ.b x.1=τ.b x.1)->j6 σ l K=j6 τ l K:=by
 intro l
 induction l with
 |nil=>intro K _;rfl
 |cons x l ih=>
  obtain ⟨n,ts⟩:=x
  intro K h
  have h1:=h (n,ts) (by simp)
  simp only at h1
  have h2: ∀K,j6 σ l K=j6 τ l K:=fun K=>ih K fun x hx=>h x (by simp [hx])
  grind [j6,Vo]
theorem abI: ∀ (l:List Nat) (n:Nat),n∈rR l->n∈l:=by
 intro l
 induction l<;>grind [rR]
theorem abx {α:Type}: ∀ (l:List (Nat×α)) (n:Nat),n∈l.map (·.1)->(dV l n).isSome=true:=by
 intro l
 induction l<;>grind [lM]
theorem Iz {σ0 σ τ:St U} (h:Alike σ0 σ τ):gU (l8 σ0 τ) τ=gU (l8 σ0 σ) σ:=by
 have hkeys: ∀id∈rR (σ0.box.map (·.1)),τ.b id=σ.b id:=fun id hid=>h.b id (abx _ _ (abI _ _ hid))
 have hA:l8 σ0 τ=l8 σ0 σ:=by
  grind [l8,List.map_congr_left]
 rw [hA]
 have hB: ∀K,j6 τ (l8 σ0 σ).boxes K=j6 σ (l8 σ0 σ).boxes K:=fun K=>Vm (funext h.o) (funext h.u) _ K fun x hx=>by
  obtain ⟨id,hid,rfl⟩:=dA.1 hx
  grind
 grind [gU,l8,ry]
end
section
variable {U:Uni} {V:Env U} {P:Program} {X:Link V P} {K:d6 U} {S:Side U} {c:Ctx} {ann:Nat->Option Ann}
theorem Lands.eqv {ds:List Deferred} {e:Ex U} {σ σ':St U} {Q:Exit->Act->World->Prop} (h:Lands X c ds e σ Q) (he:σ'.eqv σ):Lands X c ds e σ' Q:=
 fun a w g D hd hs=>h a w g D hd (hs.eqv he)
def xh (X:Link V P) (c:Ctx):Option Ann->Code->St U->Ex U->St U->Prop
 |none,code,σ,e,σ'=> ∀ (a:Act) (w:World) (g:Gh U) (D:Nat->Option Nat) (Q:Exit->Act->World->Prop),Sim X c a.tmps w σ g D->Lands X c a.defers e σ' Q->code.wp P Q a w
 |some A,code,σ,e,σ'=> ∃n,∀ (a:Act) (w:World) (g:Gh U) (D:Nat->Option Nat) (Q:Exit->Act->World->Prop),Sim X c a.tmps w σ g D->Lands X c a.defers e σ' Q->Code.rounds P code Q n a w
theorem PO {next:Act->World->Prop} {Q:Exit->Act->World->Prop} {ds:List Deferred} {e:Ex U} {σ':St U} (h:Lands X c ds e σ' Q) (he:e≠ .normal):Lands X c ds e σ' (Exit.then next Q):=by
 intro a w g D hd hs
 have:=h a w g D hd hs
 cases e with
 |normal=>grind
 |exit id=>exact this
 |ret=>exact this
 |panic v=>exact this
theorem YM {Q:Exit->Act->World->Prop} {ds:List Deferred} {e:Ex U} {σ':St U} {id:Nat} (h:Lands X c ds e σ' Q) (he:e≠ .exit id):Lands X c ds e σ' (Exit.inBlock id Q):=by
 intro a w g D hd hs
 have:=h a w g D hd hs
 grind [Exit.inBlock]
theorem abS {Q:Exit->Act->World->Prop} {ds:List Deferred} {e:Ex U} {σ':St U} (h:Lands X c ds e σ' Q):Lands X c ds e σ' (Exit.noGoto Q):=by
 intro a w g D hd hs
 have:=h a w g D hd hs
 cases e with
 |normal=>exact this
 |exit id=>exact this
 |ret=>exact this
 |panic v=>exact this
theorem rn (hm:P.follows .mixedOrders=true) (hS:pB X K S c) (hnt:c.nt=S.nt) {o:Option Ann} {code:Code} {σ:St U} {e:Ex U} {σ':St U} (h:Big K V S ann o code σ e σ'):xh X c o code σ e σ':=by
 induction h with
 |skip σ=>exact fun a w g D Q hs hl=>Go.wp_skip (hl a w g D rfl hs)
 |label l σ=>exact fun a w g D Q hs hl=>wp_label (hl a w g D rfl hs)
 |region id ops draw σ e σ' fps hd h hf=>
  intro a w g D Q hs hl
  rw [<-hnt] at hd
  cases draw with
  |false=>
   refine wp_region ?_
   rw [List.range_eq_range']
   have:=Qs (Q:=Q) hS ops.toList 0 a w σ g D fps (by simp) hd hs h hl
   omega
  |true=>
   obtain ⟨rfl,hfor,hfree⟩:=hf rfl
   refine wp_region_any hm ?_
   obtain ⟨hlen,hseq⟩:=afE ops.toList 0 σ σ' fps (by simp) h
   have hlen':fps.length=ops.size:=by omega
   refine ahg hS hd hfor hfree hl ops.size _ ((List.range' 0 ops.toList.length).zip fps) a _ σ g D (by grind) ⟨by simp, ?_,fun x hx=> ?_,fun k o hk=> ?_⟩ rfl hs.drew hseq
   ·have h1:((List.range' 0 ops.toList.length).zip fps).map (·.1)=List.range' 0 ops.toList.length:=List.map_fst_zip (by grind)
    rw [h1,List.filter_eq_self.2,List.range_eq_range']
    all_goals simp_all
   ·grind [List.mem_iff_getElem?]
   ·exfalso
    have:(Array.replicate ops.size false).getD k false=false:=by
     rw [jc,Array.getElem?_replicate]
     grind
    grind
 |regionP id ops σ v σ' σ'' τ fps hd h he hv hf hc=>
  intro a w g D Q hs hl
  rw [<-hnt] at hd
  obtain ⟨fs,f,o,σ1,hfps,ho,hseq,hj⟩:=afF (ops:=ops) ops.toList 0 σ σ' fps v (by simp) h
  subst hfps
  rw [Nat.zero_add] at ho
  obtain ⟨L,σe,hR,hsq,hal,hfor,hjL,hlen⟩:=adM ho hseq hj he hf
  refine wp_region_any hm ?_
  have hjs:fs.length<ops.size:=(iF.1 ho).1
  have hrep: ∀i d,(Array.replicate ops.size false).getD i d=(if i<ops.size then false else d):=by
   intro i d
   rw [jc,Array.getElem?_replicate]
   grind
  have hwp:=ahh (v:=v) hS hd hfor hR (ds:=a.defers) (Q:=Q) (fun a' w' g' D' τ' hdf hs' hal' val hval=>by
    have hc2:gU (l8 σ τ') τ'=some τ:=by rw [<-Iz hal',Iz hal];exact hc
    obtain ⟨g2,D2,hs2⟩:=yF hs' hc2
    refine hl a' w' g2 D2 hdf hs2 val ?_
    cases v with
    |iface t p=>
     cases p with
     |int k n=>cases hval with
      |iface _ u _ hu=>cases hu;exact .iface _ _ _ (.int _ _)
     |_=>cases hv
    |_=>cases hv) L.length (Array.replicate ops.size false) L a _ σ g D rfl (by simp) ?_ (fun i hi _=>by simp_all) (by simp_all) hjL (fun k o' hk=> ?_) rfl hs.drew hsq
  ·simp_all
  ·rw [List.filter_eq_self.2]
   intro x hx
   rw [hrep,if_pos (hR.lt x hx)];rfl
  simp_all
 |seqN x y σ σ1 e σ' h1 h2 i1 i2=>
  intro a w g D Q hs hl
  exact wp_seq (i1 a w g D _ hs fun a' w' g' D' hd hs'=>i2 a' w' g' D' Q hs' (by grind))
 |seqJ x y A σ σ1 τ e σ' h1 hA hc h2 i1 i2=>
  intro a w g D Q hs hl
  refine wp_seq (i1 a w g D _ hs fun a' w' g' D' hd hs'=> ?_)
  obtain ⟨g2,D2,hs2⟩:=yF hs' hc
  exact i2 a' w' g2 D2 Q hs2 (by grind)
 |seqE x y σ e σ' h1 he i1=>exact fun a w g D Q hs hl=>wp_seq (i1 a w g D _ hs (PO hl he))
 |cond j x y σ t e σ' hj h ih=>
  intro a w g D Q hs hl
  have hR:=hs.regs j
  rw [hj] at hR
  refine wp_cond (t:=t) (nO hR) ?_
  cases t with
  |true=>exact ih a w g D Q hs hl
  |false=>exact ih a w g D Q hs hl
 |blockIn id x σ σ' h ih=>
  intro a w g D Q hs hl
  refine wp_block (ih a w g D _ hs fun a' w' g' D' hd hs'=> ?_)
  simp only [Exit.inBlock,if_true]
  exact hl a' w' g' D' hd hs'
 |blockOut id x σ e σ' h he ih=>exact fun a w g D Q hs hl=>wp_block (ih a w g D _ hs (YM hl he))
 |loop x A σ τ e σ' hA hc h ih=>
  intro a w g D Q hs hl
  obtain ⟨n,hn⟩:=ih
  obtain ⟨g',D',hs'⟩:=yF hs hc
  grind [wp_loop_rounds]
 |scope x σ e σ' h ih=>exact fun a w g D Q hs hl=>wp_scope_straight (ih a w g D _ hs (abS hl))
 |exit id σ=>exact fun a w g D Q hs hl=>wp_exit (hl a w g D rfl hs)
 |ret σ=>exact fun a w g D Q hs hl=>wp_ret (hl a w g D rfl hs)
 |round x A σ σ1 τ e σ' h hc h' i1 i2=>
  obtain ⟨n,hn⟩:=i2
  refine ⟨n+1,fun a w g D Q hs hl=> ?_⟩
  rw [rounds_succ]
  refine i1 a w g D _ hs fun a' w' g' D' hd hs'=> ?_
  obtain ⟨g2,D2,hs2⟩:=yF hs' hc
  exact hn a' w' g2 D2 Q hs2 (by grind)
 |leave x A σ e σ' h he i1=>
  refine ⟨1,fun a w g D Q hs hl=> ?_⟩
  rw [rounds_succ]
  exact i1 a w g D _ hs (PO hl he)
 |pre o x σ0 σ e σ' he h ih=>
  cases o with
  |none=>exact fun a w g D Q hs hl=>ih a w g D Q (hs.eqv he) hl
  |some A=>obtain ⟨n,hn⟩:=ih;exact ⟨n,fun a w g D Q hs hl=>hn a w g D Q (hs.eqv he) hl⟩
 |post o x σ e σ1 σ' he h ih=>
  cases o with
  |none=>exact fun a w g D Q hs hl=>ih a w g D Q hs (hl.eqv he)
  |some A=>obtain ⟨n,hn⟩:=ih;exact ⟨n,fun a w g D Q hs hl=>hn a w g D Q hs (hl.eqv he)⟩
end
section
variable {U:Uni} {V:Env U} {P:Program} {X:Link V P} {S:Side U} {c:Ctx}
theorem qD (hI:nT X) (hS:S.rcv=none) (hP:PinOK S c):pB X (d5 X) S c:=by
 intro o a w σ g D r τ fp gp next Q hd h hr ht
 obtain ⟨dst,op,ty,pos,after,gd⟩:=o
 cases op with
 |move x=>exact acn hd h hr ht
 |assign x=>exact ab4 hd h hr ht
 |pick x y z=>exact acq hd h hr ht
 |alloc t=>exact ab3 hP hd h hr ht
 |box t x=>exact ab6 hP hd h hr ht
 |build t ps=>exact ab7 hd h hr ht
 |buildSlice t n ps=>exact ab8 hd h hr ht
 |load t x=>exact ach hd h hr ht
 |store t x y=>exact acs h hr ht
 |nilCheck x=>exact aco hd h hr ht
 |binOp b t x y u=>exact ab5 hd h hr ht
 |unOp u t x=>exact acu hd h hr ht
 |convert s t x=>exact aca hd h hr ht
 |makeFunc f xs ys=>cases f with
  |func f=>exact acj hd h hr ht
  |_=>exact hr.elim
 |makeInterface t x=>exact ack hd h hr ht
 |typeAssert x s t ok=>cases ok with
  |true=>exact act hd h hr ht
  |false=>exact hr.elim
 |makeMap t x=>cases x with
  |none=>exact acl hd h hr ht
  |some x=>exact hr.elim
 |lookup t m x ok=>exact aci hd h hr ht
 |mapUpdate t m x y=>exact acm h hr ht
 |slice t x lo hi mx=>exact acr hd h hr ht
 |fieldAddr s x f=>exact ace hd h hr ht
 |field s x f=>exact acd hd h hr ht
 |indexAddr t x i=>exact acg hd h hr ht
 |index t x i=>exact acf hd h hr ht
 |extract x i=>exact acb hd h hr ht
 |panic x=>exact acp h hr ht
 |call cl=>
  cases hc:cl.callee with
  |builtin b=>
   by_cases hb:b= .recover
   ·subst hb
    obtain ⟨callee,args,ats⟩:=cl
    simp only at hc
    subst hc
    simp only [dz,hS] at hr
    exact hr.elim
   ·exact ab9 hc hb hd h hr ht
  |value f=>exact ab_ hI hc hd h hr ht
  |invoke x n=>
   obtain ⟨callee,args,ats⟩:=cl
   simp only at hc
   subst hc
   exact hr.elim
 |_=>exact hr.elim
end
section
variable {U:Uni} {V:Env U} {P:Program} {X:Link V P}
theorem af1: ∀ (args:List (PV U)) (s n:Nat),dV (wX s args) n=if s<=n then (args[n-s]?).map (PE n) else none:=by
 intro args
 induction args with
 |nil=>intro s n;simp [wX,dV]
 |cons p args ih=>
  intro s n
  simp only [wX,lM,ih]
  by_cases h:s=n
  ·subst h;simp
  ·rw [if_neg h]
   by_cases h2:s<=n
   ·rw [if_pos h2,if_pos (by omega)]
    obtain ⟨k,rfl⟩: ∃k,n=s+(k+1):=⟨n-s-1,by omega⟩
    rw [show s+(k+1)-(s+1)=k by omega,show s+(k+1)-s=k+1 by omega]
    simp
   ·rw [if_neg h2,if_neg (by omega)]
def jH (args:List (PV U)) (j:Nat):Option (Ob U):=match args[j]? with|some (.fresh e l)=>some ⟨0,e,l⟩|_=>none
theorem PD: ∀ (args:List (PV U)) (s i:Nat),dV (lf s args) i=if 2000000+s<=i then jH args (i-2000000-s) else none:=by
 intro args
 induction args with
 |nil=>intro s i;simp [lf,dV,jH]
 |cons p args ih=>
  intro s i
  have tail:dV (lf (s+1) args) i=if 2000000+s<=i/\i≠2000000+s then jH (p::args) (i-2000000-s) else none:=by
   rw [ih]
   by_cases h:2000000+(s+1)<=i
   ·rw [if_pos h,if_pos ⟨by omega,by omega⟩]
    obtain ⟨k,rfl⟩: ∃k,i=2000000+s+(k+1):=⟨i-2000000-s-1,by omega⟩
    rw [show 2000000+s+(k+1)-2000000-(s+1)=k by omega,show 2000000+s+(k+1)-2000000-s=k+1 by omega]
    simp [jH]
   ·rw [if_neg h,if_neg (by omega)]
  have plain:p.notFresh=true->lf s (p::args)=lf (s+1) args:=by
   intro hp;cases p<;>first|rfl|cases hp
  by_cases hp:p.notFresh=true
  ·rw [plain hp,tail]
   by_cases h1:2000000+s<=i
   ·rw [if_pos h1]
    by_cases h2:i=2000000+s
    ·subst h2
     rw [if_neg (by omega)]
     have:2000000+s-2000000-s=0:=by omega
     rw [this]
     unfold jH
     simp only [List.getElem?_cons_zero]
     cases p<;>first|rfl|cases hp
    ·rw [if_pos ⟨h1,h2⟩]
   ·rw [if_neg h1,if_neg (by omega)]
  ·cases p with
   |fresh e l=>
    simp only [lf,lM,tail]
    by_cases h1:2000000+s=i
    ·subst h1
     rw [if_pos rfl,if_pos (ee _)]
     have:2000000+s-2000000-s=0:=by omega
     rw [this];rfl
    ·rw [if_neg h1]
     by_cases h2:2000000+s<=i
     ·rw [if_pos ⟨h2,Ne.symm h1⟩,if_pos h2]
     ·rw [if_neg (by omega),if_neg h2]
   |_=>exact absurd rfl hp
end
section
variable {U:Uni} {V:Env U} {P:Program} {X:Link V P}
theorem ahz {boxes:List (Box U)}: ∀ (n s id:Nat) (bs:List (Box U)),n=bs.length->dV ((eA s n).zip bs) id=if s<=id then bs[id-s]? else none:=by
 intro n
 induction n with
 |zero=>intro s id bs h;have:bs=[]:=List.eq_nil_of_length_eq_zero h.symm;simp_all [dV]
 |succ n ih=>
  intro s id bs h
  cases bs<;>grind [eA,List.zip_cons_cons,lM]
def jt (n:Nat) (ν:Nat->Nat) (args:List (PV U)) (vs:Array Value):Gh U:=
 ⟨fun id=>if 1000000<=id/\id-1000000<n then some (ν (id-1000000)) else none,
  fun i=>if 2000000<=i then (jH args (i-2000000)).map (fun ob=>(0,ob.e,vs.getD (i-2000000) undef)) else none⟩
def pd (args:List (PV U)) (δ:Nat->Option Nat):Nat->Option Nat:=fun i=>if 2000000<=i then (jH args (i-2000000)).bind fun _=>δ (i-2000000) else none
def kE (w:World) (N0:aQ) (n m:Nat) (ν:Nat->Nat) (δ:Nat->Option Nat) (ο:Nat->Array Value) (hoz: ∀b,w.heap.size<=b->ο b= #[]) (nt:Nat) (hnt:nt<=1000000) (h:Bnd w N0 n ν δ) (gl:List (Nat×Obj)) (hgl: ∀b o,(b,o)∈gl->w.heap[b]? =some o/\(∀i,i<n->ν i≠b)/\ ∀j,δ j≠some b):Ctx:=
 ⟨w,N0,qz n m ν δ,nt,fun b o hn=>⟨(h.n0 b o hn).1,fun hm=>by
  rcases eu.1 hm with hm|hm
  ·obtain ⟨k,hk,e⟩:=dA.1 hm
   exact (h.n0 b o hn).2.1 k (List.mem_range.1 hk) e
  ·obtain ⟨j,_,hj⟩:=List.mem_filterMap.1 hm
   exact (h.n0 b o hn).2.2 j hj⟩,
  fun id=>if 1000000<=id/\id-1000000<n then some (ν (id-1000000)) else none,fun id k h=>(by
  grind),
  gl,fun b o hb=>⟨(hgl b o hb).1,fun hm=>by
  rcases eu.1 hm with hm|hm<;>grind⟩,ο,hoz⟩
structure CtxOf (c:Ctx) (w:World) (N0:aQ) (n m:Nat) (ν:Nat->Nat) (δ:Nat->Option Nat) (ο:Nat->Array Value):Prop where
 cw:c.w0=w
 cN:c.N0=N0
 bl:c.bl=qz n m ν δ
 fix: ∀i,i<n->c.fix (fH i)=some (ν i)
 other: ∀id k,c.fix id=some k->(∃i,i<n/\id=fH i)\/w.heap.size<=k
 bnd:Bnd w N0 n ν δ
 oo:c.ο=ο
theorem nQ {w:World} {N0:aQ} {n m nt:Nat} {ν:Nat->Nat} {δ:Nat->Option Nat} {ο:Nat->Array Value} {hoz: ∀b,w.heap.size<=b->ο b= #[]} {hnt:nt<=1000000} {h:Bnd w N0 n ν δ} {gl:List (Nat×Obj)} {hgl: ∀b o,(b,o)∈gl->w.heap[b]? =some o/\(∀i,i<n->ν i≠b)/\ ∀j,δ j≠some b}:CtxOf (kE w N0 n m ν δ ο hoz nt hnt h gl hgl) w N0 n m ν δ ο where
 cw:=rfl
 cN:=rfl
 bl:=rfl
 fix i hi:=by
  grind [kE,fH]
 other id k hk:=by
  simp only [kE] at hk
  split at hk
  ·rename_i h1;exact .inl ⟨id-1000000,h1.2,by simp [fH];omega⟩
  grind
 bnd:=h
 oo:=rfl
variable {w:World} {vs:Array Value} {N0:aQ} {ν:Nat->Nat} {δ:Nat->Option Nat} {ο:Nat->Array Value} {args:List (PV U)} {boxes:List (Box U)}
theorem wW {i b:Nat} (h:pd args δ i=some b):2000000<=i/\δ (i-2000000)=some b/\(jH args (i-2000000)).isSome=true:=by
 grind [pd,jH]
theorem af2 (hg:Given X w vs N0 ν δ ο args boxes) (nt:Nat) (hnt:nt<=1000000): ∀b o,((kE w N0 boxes.length args.length ν δ ο hg.oz nt hnt hg.bnd X.gblk hg.glob).N (jt boxes.length ν args vs) (pd args δ)) b o->(NB N0 boxes.length ν δ) b o:=by
 rintro b o (hn|⟨id,hid⟩|⟨i,hi⟩)
 ·exact .inl hn
 ·simp only [jt] at hid
  split at hid
  ·rename_i h1
   injection hid with hid
   exact .inr (.inl ⟨_,h1.2,hid⟩)
  grind
 ·exact .inr (.inr ⟨_,(wW hi).2.1⟩)
theorem PF (id:Nat):(ld args boxes).b id=if 1000000<=id then (boxes.map (Box.ren true fH))[id-1000000]? else none:=by
 unfold St.b ld
 simp only
 rw [ahz (boxes:=boxes) _ _ _ _ (by simp)]
 rfl
theorem BZ (hg:Given X w vs N0 ν δ ο args boxes) {nt:Nat} (hnt:args.length<=nt) (hnt2:nt<=1000000):
  Sim X (kE w N0 boxes.length args.length ν δ ο hg.oz nt hnt2 hg.bnd X.gblk hg.glob) (vs++Array.replicate (nt-vs.size) undef) w (ld args boxes) (jt boxes.length ν args vs) (pd args δ):=by
 have hsub:=af2 hg nt hnt2
 have hμ: ∀i b,(gB U boxes.length ν).μ i=some b->(jt boxes.length ν args vs).μ (fH i)=some b:=by
  grind [gB,jt,fH]
 have hvs: ∀n,n<args.length->(vs++Array.replicate (nt-vs.size) undef).getD n undef=vs.getD n undef:=by
  intro n hn
  have:n<vs.size:=by rw [hg.size];exact hn
  simp_all [Array.getElem?_append]
 have ho: ∀i ob,(ld args boxes).o i=some ob->2000000<=i/\jH args (i-2000000)=some ob:=by
  grind [St.o,ld,PD]
 have hb: ∀id b,(ld args boxes).b id=some b->1000000<=id/\ ∃b0,boxes[id-1000000]? =some b0/\b=b0.ren true fH:=by
  grind [PF]
 refine {nt:=by simp [kE,hg.size];omega,regs:=fun n=> ?_,boxes:=fun id b h=> ?_,dom:=fun id k hk=> ?_,inj:=fun id id' k h1 h2=> ?_,new:=fun id k hk=> ?_,objs:=fun i ob h=> ?_,nobj:=fun i h=> ?_,dinj:=fun i j b h1 h2=> ?_,dnew:=fun i b h=> ?_,dbox:=fun i id b h1 h2=> ?_,ext:=Ext.refl _ _,gl:=rfl,fix:=fun id k hk=> .inl hk}
 ·unfold St.r ld
  simp only [af1,Nat.zero_le,if_true,Nat.sub_zero]
  cases hp:args[n]? with
  |none=>simp only [Option.map_none];exact .undef _
  |some p=>
   simp only [Option.map_some]
   have hn:=(gR.1 hp).1
   rw [hvs n hn]
   have hr:=hg.args n p hp
   by_cases hf:p.notFresh=true
   ·have:=(hr.rep hf).ren (g':=jt boxes.length ν args vs) (N':=(kE w N0 boxes.length args.length ν δ ο hg.oz nt hnt2 hg.bnd X.gblk hg.glob).N (jt boxes.length ν args vs) (pd args δ)) true fH (fun _ _ _ _=>rfl) (fun b o _ h=>hsub b o h) (.inr fun _=>rfl) fun i _ b hb=>hμ i b hb
    cases p<;>first|exact this|cases hf
   ·cases p with
    |fresh e l=>
     obtain ⟨A,n',cp,hval,_⟩:=(show ObOK X w _ _ e l (vs.getD n undef) .wr (δ n) from hr).val
     have hfa:jH args n=some ⟨0,e,l⟩:=by unfold jH;rw [hp]
     refine .own (2000000+n) 0 _ 0 e (vs.getD n undef) ?_ (ee _) (fun _=>rfl) ⟨A,n',cp,hval⟩
     grind [jt]
    |_=>exact absurd rfl hf
 ·obtain ⟨h1,b0,h2,rfl⟩:=hb id b h
  have hlt:=(gR.1 h2).1
  have hμid:(jt boxes.length ν args vs).μ id=some (ν (id-1000000)):=if_pos ⟨h1,hlt⟩
  refine ⟨ν (id-1000000),hμid, ?_⟩
  exact (hg.boxes _ b0 h2).ren true fH rfl (fun _ _ _ _=>rfl) (fun b o _ h=>hsub b o h) (.inr fun _=>rfl) fun i _ b hb=>hμ i b hb
 ·simp_all [jt,fH,PF]
 ·simp only [jt] at h1 h2
  split at h1
  ·rename_i q1
   split at h2
   ·rename_i q2
    injection h1 with h1
    injection h2 with h2
    have:=hg.bnd.inj _ _ q1.2 q2.2 (h1.trans h2.symm)
    omega
   grind
  grind
 ·simp only [jt] at hk
  split at hk
  ·rename_i h1
   injection hk with hk
   subst hk
   exact ⟨hg.bnd.lt _ h1.2,.inl (eu.2 (.inl (dA.2 ⟨_,List.mem_range.2 h1.2,rfl⟩)))⟩
  grind
 ·obtain ⟨h1,h2⟩:=ho i ob h
  have hp: ∃e l,args[i-2000000]? =some (.fresh e l)/\ob=⟨0,e,l⟩:=by
   grind [jH]
  obtain ⟨e,l,hp,rfl⟩:=hp
  have hO:ObOK X w (NB N0 boxes.length ν δ) (gB U boxes.length ν) e l (vs.getD (i-2000000) undef) .wr (δ (i-2000000)):=hg.args _ _ hp
  refine ⟨vs.getD (i-2000000) undef,by simp_all [jt], ?_⟩
  have hu:(ld args boxes).u i= .wr:=by
   unfold St.u ld
   simp only
   have hlook: ∀ (l:List (Nat×Ob U)) (n:Nat),dV (l.map fun x=>(x.1,Use.wr)) n=(dV l n).map fun _=>Use.wr:=by
    intro l n
    induction l with
    |nil=>rfl
    |cons x l ih=>
     grind [lM]
   rw [hlook]
   have h':dV (lf 0 args) i=some ⟨0,e,l⟩:=h
   grind
  have hD:pd args δ i=δ (i-2000000):=by grind [pd]
  rw [hu,hD]
  exact hO.turn (fun _ _=>rfl) (fun _ _ _ _=>rfl) (fun b o _ h=>hsub b o h)
 ·have hf:2000000<=i->jH args (i-2000000)=none:=by
   intro hi
   have h':dV (lf 0 args) i=none:=h
   grind [PD]
  grind [jt,pd]
 ·obtain ⟨a1,a2,_⟩:=wW h1
  obtain ⟨b1,b2,_⟩:=wW h2
  have:=hg.bnd.dinj _ _ _ a2 b2
  omega
 ·obtain ⟨a1,a2,_⟩:=wW h
  exact ⟨hg.bnd.dlt _ _ a2,.inl (eu.2 (.inr (List.mem_filterMap.2 ⟨_,List.mem_range.2 (hg.dom _ _ a2),a2⟩)))⟩
 ·obtain ⟨a1,a2,_⟩:=wW h1
  simp only [jt] at h2
  split at h2
  ·rename_i q
   injection h2 with h2
   exact hg.bnd.dν _ _ a2 _ q.2 h2
  grind
end
section
variable {U:Uni} {V:Env U} {P:Program} {X:Link V P} {K:d6 U} {c:Ctx} {tm:Array Value} {w:World} {σ:St U} {g:Gh U} {D:Nat->Option Nat}
variable {r:MR U} {τ:St U} {gp:List Loc}
def tL (tmps:Array Value):ResultVar->Sem Value
 | .tmp t=>pure (tmps.getD t undef)
 | .cell a t=>do loadVar t (<-asAddr (tmps.getD a undef))
theorem adX (fn:Func) (tmps:Array Value):results fn tmps=(do
  let vs<-fn.results.mapM (tL tmps)
  pure (if h:vs.size=1 then vs[0] else .tuple vs)):=by
 rfl
theorem adW (h:Sim X c tm w σ g D): ∀ (res:List ResultVar) {k:List (PV U)->M U} {fp:List Loc},(tM V res k).Rel K σ fp r τ gp->
  ∃ps us fp',(k ps).Rel K σ fp' r τ gp/\us.length=ps.length/\(∀ (j:Nat) p,ps[j]? =some p->Rep X w (c.N g D) g (us.getD j undef) p)/\(res.mapM (tL tm)).run P w= .ok us w:=by
 intro res
 induction res with
 |nil=>intro k fp hr;exact ⟨[],[],fp,hr,rfl,by simp,by simp⟩
 |cons x res ih=>
  intro k fp hr
  have step: ∀ {p:PV U} {v:Value} {fp1:List Loc},(tM V res fun vs=>k (p::vs)).Rel K σ fp1 r τ gp->Rep X w (c.N g D) g v p->(tL tm x).run P w= .ok v w->
    ∃ps us fp',(k ps).Rel K σ fp' r τ gp/\us.length=ps.length/\(∀ (j:Nat) p,ps[j]? =some p->Rep X w (c.N g D) g (us.getD j undef) p)/\((x::res).mapM (tL tm)).run P w= .ok us w:=by
   intro p v fp1 hr1 hp hv
   obtain ⟨ps,us,fp',h1,h2,h3,h4⟩:=ih hr1
   refine ⟨p::ps,v::us,fp',h1,by simp [h2],fun j q hq=> ?_,by simp_all⟩
   grind
  cases x with
  |tmp t=>exact step hr (h.regs t) (by rfl)
  |cell a t=>
   simp only [tM,M.Rel] at hr
   obtain ⟨x,fp',v,h1,h2,h3⟩:=KD (a:=⟨tm,[]⟩) h (h.regs a) hr
   refine step h1 h3 ?_
   have h2':=h2
   unfold Instr.loadAt at h2'
   simp only [tL]
   cases hu:tm.getD a undef with
   |pointer q=>
    rw [hu] at h2'
    cases q<;>simp_all [Instr.sureAddr,asAddr]
   |_=>rw [hu] at h2';simp [Instr.sureAddr] at h2'
theorem Ep: ∀ (l:List Nat) {k:List (Nat×Box U)->M U} {fp:List Loc},(lD l k).Rel K σ fp r τ gp-> ∃bs fp',(k bs).Rel K σ fp' r τ gp/\bs.map (·.1)=l/\ ∀x∈bs,σ.b x.1=some x.2:=by
 intro l
 induction l<;>grind [lD,M.Rel]
theorem Yn: ∀ (n:Nat) (todo:List Nat) (acc:List (Nat×Box U)) {k:List (Nat×Box U)->M U} {fp:List Loc},(∀x∈acc,σ.b x.1=some x.2)->(vD n todo acc k).Rel K σ fp r τ gp->
  ∃bs fp',(k (acc++bs)).Rel K σ fp' r τ gp/\ ∀x∈acc++bs,σ.b x.1=some x.2:=by
 intro n
 induction n with
 |zero=>intro todo acc k fp _ hr;exact hr.elim
 |succ n ih=>
  intro todo acc k fp hacc hr
  cases todo with
  |nil=>exact ⟨[],fp,by rw [eN];exact hr,by grind⟩
  |cons id todo=>
   simp only [vD] at hr
   split at hr<;>grind [M.Rel]
theorem RepG.lessN {N N':aQ} {v:Value} {Do:Option Nat} {p:PV U} (h:RepG X w N g v Do p) (hN: ∀b o,N' b o->N b o):RepG X w N' g v Do p:=by
 by_cases hp:p.notFresh=true
 ·have:=(h.rep hp).mono X (w':=w) (N':=N') (g':=g) (fun _ _ _ _=>rfl) (fun b o _ hn=>hN b o hn) (Gh.le.refl g)
  cases p<;>first|exact this|cases hp
 ·cases p with
  |fresh e l=>exact ObOK.mono h (fun _ _=>rfl) (fun _ _ _ _=>rfl) (fun b o _ hn=>hN b o hn) (Gh.le.refl g)
  |_=>exact absurd rfl hp
theorem Il {w0:World} {N0:aQ} {n m:Nat} {ν:Nat->Nat} {δ:Nat->Option Nat} {ο:Nat->Array Value} (hc:CtxOf c w0 N0 n m ν δ ο) (hdom: ∀j b,δ j=some b->j<m)
  (h:Sim X c tm w σ g D) {bs:List (Nat×Box U)} {qs:List (PV U)} {vs:Array Value} {ν':Nat->Nat} {δ':Nat->Option Nat} {keep:Bool} {N1:aQ}
  (hkeys: ∃more,bs.map (·.1)=eA (fH 0) n++more) (hnd:(bs.map (·.1)).Nodup) (hν: ∀ (k:Nat) id,(bs.map (·.1))[k]? =some id->g.μ id=some (ν' k))
  (hδ: ∀j b,δ' j=some b-> ∃i,D i=some b)
  (hg:Given X w vs N1 ν' δ' ο qs (bs.map fun b=>b.2.ren keep (cX (bs.map (·.1)))))
  (hN1:NB N1 bs.length ν' δ'=c.N g D):
  Back X w0 w N0 ν δ ο n m ν' δ' (bs.map fun b=>b.2.ren keep (cX (bs.map (·.1))))/\ ∀b o,(NB N0 bs.length ν' δ') b o->(NB N1 bs.length ν' δ') b o:=by
 obtain ⟨more,hmore⟩:=hkeys
 obtain ⟨c0,cN,cbl,cfix,cother,hb0,coo⟩:=hc
 have hlen:bs.length=n+more.length:=by have:=congrArg List.length hmore;grind [Fr]
 have hext: ∀i,i<n->(bs.map (·.1))[i]? =some (fH i):=by
  grind [L4,fH]
 have hold: ∀i,i<n->ν' i=ν i:=by
  intro i hi
  have h1:=hν i _ (hext i hi)
  rcases h.fix _ _ h1 with h2|⟨h2,_⟩<;>grind
 have hμν: ∀i,i<n->g.μ (fH i)=some (ν i):=fun i hi=>by grind
 have hget: ∀k,k<bs.length-> ∃id,(bs.map (·.1))[k]? =some id/\g.μ id=some (ν' k):=fun k hk=>⟨_,fc (by grind),hν k _ (fc (by grind))⟩
 have hsub: ∀b o,(NB N0 bs.length ν' δ') b o->(NB N1 bs.length ν' δ') b o:=by
  intro b o hn
  rw [hN1]
  rcases hn with hn|⟨k,hk,rfl⟩|⟨j,hj⟩
  ·exact .inl (by grind)
  ·obtain ⟨id,_,hid⟩:=hget k hk
   exact .inr (.inl ⟨id,hid⟩)
  ·obtain ⟨i,hi⟩:=hδ j b hj
   exact .inr (.inr ⟨i,hi⟩)
 have hnew: ∀i,n<=i->i<bs.length->w0.heap.size<=ν' i:=by
  intro i hi hlt
  obtain ⟨id,h1,h2⟩:=hget i hlt
  rcases h.fix _ _ h2 with h3|⟨_,h3⟩<;>grind [List.getElem?_inj]
 have hdnew: ∀j b,δ' j=some b->w0.heap.size<=b\/ ∃i,δ i=some b:=by
  intro j b hj
  obtain ⟨i,hi⟩:=hδ j b hj
  rcases (h.dnew i b hi).2 with h1|h1
  ·rw [cbl] at h1
   rcases eu.1 h1 with h1|h1
   ·obtain ⟨k,hk,e⟩:=dA.1 h1
    rw [List.mem_range] at hk
    subst e
    exact absurd (hμν k hk) (h.dbox i _ _ hi)
   grind
  grind
 have hl:(bs.map fun b=>b.2.ren keep (cX (bs.map (·.1)))).length=bs.length:=by simp
 have hgb:=hg.bnd
 rw [hl] at hgb
 have hex:Ext (qz n m ν δ) w0 w:=by have:=h.ext;grind
 refine ⟨⟨hex,by omega,hold,by grind,hdnew, ?_,fun k b hb=> ?_⟩,hsub⟩
 ·rw [hl]
  refine ⟨hgb.inj,hgb.lt,hgb.dlt,hgb.dinj,hgb.dν,fun b o hn=>⟨Nat.lt_of_lt_of_le (hb0.n0 b o hn).1 hex.size,fun i hi e=> ?_,fun j hj=> ?_⟩⟩
  ·by_cases hin:i<n
   ·exact (hb0.n0 b o hn).2.1 i hin (by grind)
   ·have:=hnew i (by omega) hi
    have:=(hb0.n0 b o hn).1
    omega
  ·rcases hdnew j b hj with h1|⟨i,h1⟩
   ·have:=(hb0.n0 b o hn).1;omega
   ·exact (hb0.n0 b o hn).2.2 i h1
 ·have:=hg.boxes k b hb
  rw [hl] at this ⊢
  exact this.mono rfl (fun _ _ _ _=>rfl) (fun b o _ hn=>hsub b o hn) (Gh.le.refl _)
end
section
variable {U:Uni} {V:Env U} {P:Program} {X:Link V P}
theorem RepG.ofAny {w:World} {N:aQ} {g:Gh U} {v:Value} {Do:Option Nat} {p:PV U} (h:Rep X w N g v p):RepG X w N g v Do p:=by
 cases p<;>first|exact h|cases h
theorem RepR.ofG {w:World} {N:aQ} {g:Gh U} {v:Value} {δ:Nat->Option Nat} {p:PV U} (h:RepG X w N g v (δ 0) p):RepR X w N g v δ p:=by
 cases p with
 |tuple ps=>
  cases (show Rep X w N g v (.tuple ps) from h) with
  |tuple vs _ hl hh=>exact ⟨vs,rfl,hl,fun j p hp=> .ofAny (hh j p hp)⟩
 |_=>exact h
theorem adY {fn:Func} {tmps:Array Value} {us:List Value} {w:World} (h:(fn.results.toList.mapM (tL tmps)).run P w= .ok us w):
  (results fn tmps).run P w= .ok (if h:us.toArray.size=1 then us.toArray[0] else .tuple us.toArray) w:=by
 simp_all [adX,Array.mapM_eq_mapM_toList]
variable {w0:World} {N0:aQ} {n m:Nat} {ν:Nat->Nat} {δ:Nat->Option Nat} {K:d6 U} {c:Ctx}
theorem ag5 {w:World} {σ:St U} {g:Gh U} {N:aQ} {hand:List Bool} {ps:List (PV U)} {us:List Value} {k:List (PV U)->M U} {fp gp:List Loc} {r:MR U} {τ:St U} (hl:us.length=ps.length) (hp: ∀ (j:Nat) p,ps[j]? =some p->Rep X w N g (us.getD j undef) p)
  (hr:(HZ hand ps k).Rel K σ fp r τ gp): ∃qs,(k qs).Rel K σ fp r τ gp/\us.length=qs.length/\ ∀ (j:Nat) p,qs[j]? =some p->Rep X w N g (us.getD j undef) p:=by
 unfold HZ at hr
 cases hb:ay hand.length (ps.length+1) with
 |false=>grind
 |true=>
  rw [hb] at hr
  simp only [cond_true] at hr
  split at hr
  ·rename_i v
   split at hr
   ·rename_i v' hv
    refine ⟨[v'],hr,hl,fun j p hj=> ?_⟩
    cases j with
    |succ j=>simp at hj
    |zero=>
     simp at hj
     subst hj
     have h0:=hp 0 v rfl
     generalize us.getD 0 undef=u at h0
     unfold PV.asFull at hv
     split at hv
     ·injection hv with hv
      subst hv
      cases h0 with
      |sl A n c e l o val h1 h2 h3 h4 h5=>exact .sl A n c _ _ .full val h1 h2 (by omega) h4 h5
     all_goals grind
   ·exact hr.elim
  ·exact hr.elim
theorem tN {fn:Func} {tm:Array Value} {w:World} {σ:St U} {g:Gh U} {D:Nat->Option Nat} {ο:Nat->Array Value} (hc:CtxOf c w0 N0 n m ν δ ο) (hdom: ∀j b,δ j=some b->j<m) (h:Sim X c tm w σ g D)
  {keep:Bool} {hand:List Bool} {out:Out U} {τ:St U} {fp gp:List Loc} (hr:(mE V keep hand fn.results.toList n).Rel K σ fp (.out out) τ gp):
  ∃v,(results fn tm).run P w= .ok v w/\Ret X w0 N0 ν δ ο n m out (.returned v) w:=by
 unfold mE at hr
 obtain ⟨ps,us,fp1,hr1,hl1,hp1,hrun⟩:=adW h _ hr
 obtain ⟨ps,hr1,hl1,hp1⟩:=ag5 hl1 hp1 hr1
 obtain ⟨q1,σ1,D1,fp2,hr2,hF1,hl2,hq1⟩:=JI hand ps h (fun j=>us.getD j undef) hp1 hr1
 obtain ⟨bs0,fp3,hr3,hk0,hb0'⟩:=Ep _ hr2
 obtain ⟨bs1,fp4,hr4,hb1⟩:=Yn 100 _ bs0 hb0' hr3
 obtain ⟨bs2,σ2,D2,fp5,hr5,hF2,hkeys,hb2⟩:=Eo _ hF1.sim (fun x hx=>hF1.sim.boxes x.1 x.2 (hb1 x hx)) hr4
 have h2:=hF2.sim
 obtain ⟨qs,σ3,fp6,G,δ',hr6,hl6,hSp,_,hδ,hδi,hqs⟩:=JO h2 hand q1 (fun j=>us.getD j undef) (.refl σ2) (fun j p hp=>hF2.rep (hq1 j p hp)) hr5
 cases hh:nj qs bs2 with
 |false=>rw [hh] at hr6;exact hr6.elim
 |true=>
 rw [hh] at hr6
 obtain ⟨e1,_,_⟩:=hr6
 injection e1 with e1
 subst e1
 have hb2: ∀x∈bs2,mQ X w (c.N g D2) g ο x:=hc.oo▸hb2
 obtain ⟨ν',hν⟩:=L3 hb2
 have hgd: ∀j,us.toArray.getD j undef=us.getD j undef:=fun j=>JM j (by simp)
 obtain ⟨hNB,hg⟩:=Es h2 keep (ο:=ο) (fun b hb=>by rw [<-hc.oo];exact c.oz b (fC h2.ext.size hb)) (vs:=us.toArray) (by grind) hb2 hh (fun j b hj=>by rw [hl6];exact hδ j b hj) hδi (fun j q hq=>by grind) hν (F:=fun b=>b.2.ren keep (cX (bs2.map (·.1)))) fun x hx g' t k hμ hbx=>hbx.ren keep _ rfl (fun _ _ _ _=>rfl) (fun _ _ _ h=>h) (.inl hx) hμ
 have hnd:=(vE hh).2.2.1
 obtain ⟨hback,hsub⟩:=Il hc hdom h2 ⟨bs1.map (·.1),by grind⟩ hnd hν (fun j b hj=>by grind) hg hNB
 suffices hR:RepR X w (NB N0 bs2.length ν' δ') (gB U bs2.length ν') (if h:us.toArray.size=1 then us.toArray[0] else .tuple us.toArray) δ' (qC (PV.renL keep (cX (bs2.map (·.1))) qs)) by
  have hrr:=adY hrun
  grind [Ret]
 have hbl:(bs2.map fun b=>b.2.ren keep (cX (bs2.map (·.1)))).length=bs2.length:=by simp
 have hargs: ∀ (j:Nat) p,(PV.renL keep (cX (bs2.map (·.1))) qs)[j]? =some p->RepG X w (NB N0 bs2.length ν' δ') (gB U bs2.length ν') (us.toArray.getD j undef) (δ' j) p:=fun j p hp=>by
  have:=hg.args j p hp
  rw [hbl] at this
  exact this.lessN hsub
 have hlr:(PV.renL keep (cX (bs2.map (·.1))) qs).length=us.length:=by grind [jQ]
 generalize PV.renL keep (cX (bs2.map (·.1))) qs=rs at hargs hlr
 by_cases h1:us.toArray.size=1
 ·rw [dif_pos h1]
  have hu1:us.length=1:=by omega
  obtain ⟨p,rfl⟩: ∃p,rs=[p]:=by
   match rs,hlr with
   |[p],_=>simp
   |[],h=>grind
   |_::_::_,h=>grind
  have:=hargs 0 p rfl
  have hu:us.toArray.getD 0 undef=us.toArray[0]:=by grind
  rw [hu] at this
  exact .ofG this
 ·rw [dif_neg h1]
  have hone:qC rs= .tuple rs:=by
   match rs,hlr with
   |[],_=>rfl
   |[p],h=>grind
   |_::_::_,_=>rfl
  rw [hone]
  exact ⟨us.toArray,rfl,by grind,hargs⟩
theorem FD {tm:Array Value} {w:World} {σ:St U} {g:Gh U} {D:Nat->Option Nat} {ο:Nat->Array Value} (hc:CtxOf c w0 N0 n m ν δ ο) (hdom: ∀j b,δ j=some b->j<m) (h:Sim X c tm w σ g D)
  {v:PV U} {val:Value} (hv:Rep X w (c.N g D) g val v) {out:Out U} {τ:St U} {fp gp:List Loc} (hr:(FC v n).Rel K σ fp (.out out) τ gp):
  Ret X w0 N0 ν δ ο n m out (.panicked [{v:=val,recovered:=false}]) w:=by
 unfold FC at hr
 obtain ⟨bs0,fp3,hr3,hk0,hb0'⟩:=Ep _ hr
 obtain ⟨bs2,σ2,D2,fp5,hr5,hF2,hkeys,hb2⟩:=Eo _ h (fun x hx=>h.boxes x.1 x.2 (hb0' x hx)) hr3
 obtain ⟨q,σ3,D3,fp6,hr6,hF3,hq,_⟩:=p5 v hF2.sim (hF2.rep hv) hr5
 cases hh:nj [q] bs2 with
 |false=>simp only [hh] at hr6;exact hr6.elim
 |true=>
 simp only [hh] at hr6
 obtain ⟨e1,_,_⟩:=hr6
 injection e1 with e1
 subst e1
 have hb3: ∀x∈bs2,mQ X w (c.N g D3) g ο x:=fun x hx=>by
  obtain ⟨k,hk,hbx⟩:=hb2 x hx
  rw [hc.oo] at hbx
  exact ⟨k,hk,hbx.mono rfl (fun _ _ _ _=>rfl) (fun b o _ hn=>by
   rcases hn with hn|hn|⟨i,hi⟩
   ·exact .inl hn
   ·exact .inr (.inl hn)
   ·exact .inr (.inr ⟨i,hF3.D i b hi⟩)) (Gh.le.refl g)⟩
 have hkk:bs2.map (·.1)=eA (fH 0) n:=hkeys.trans hk0
 have hlen:bs2.length=n:=by grind [Fr]
 have hν: ∀ (k:Nat) id,(bs2.map (·.1))[k]? =some id->g.μ id=some (ν k):=by
  intro k id hid
  obtain ⟨x,hx,rfl⟩:=dA.1 (je hid)
  obtain ⟨kb,hk,_⟩:=hb3 x hx
  have hkn:k<n:=by grind
  rw [hkk,L4 _ _ _ hkn] at hid
  injection hid with hid
  have hfix:c.fix x.1=some (ν k):=by
   rw [<-hid,<-hc.fix k hkn]
   rfl
  rcases h.fix _ _ hk with h2|⟨h2,_⟩<;>grind
 obtain ⟨hNB,hg⟩:=Es (G:=[]) (δ:=fun _=>none) hF3.sim false (ο:=ο) (fun b hb=>by rw [<-hc.oo];exact c.oz b (fC h.ext.size hb)) (vs:= #[val]) (by simp) hb3 hh (by simp) (by simp) (fun j q' hq'=>by
  cases j with
  |zero=>simp at hq';subst hq';exact .of hq
  |succ j=>simp_all) hν (F:=fun b=>b.2.ren false (cX (bs2.map (·.1)))) fun x hx g' t k hμ hbx=>hbx.ren false _ rfl (fun _ _ _ _=>rfl) (fun _ _ _ h=>h) (.inl hx) hμ
 obtain ⟨hback,hsub⟩:=Il hc hdom hF3.sim ⟨[],by grind⟩ (vE hh).2.2.1 hν (by simp) hg hNB
 refine ⟨by grind,val,rfl,hback, ?_⟩
 have hbl:(bs2.map fun b=>b.2.ren false (cX (bs2.map (·.1)))).length=bs2.length:=by simp
 have:=hg.args 0 _ rfl
 rw [hbl] at this
 have:=this.lessN hsub
 rw [hlen] at this
 have hf:(q.ren false (cX (bs2.map (·.1)))).notFresh=true:=by
  rw [BF]
  cases q<;>first|rfl|cases hq
 exact this.rep hf
theorem OH (hm:P.follows .mixedOrders=true) (hI:nT X) {S:Side U} (hS:S.rcv=none) (hpin:S.pin=fun _=>false) {R:Type} {C:Oracle U R} (hC:C.Tells (d5 X)) {f:FuncId} {fn:Func} (hf:P.funcs[f]? =some fn)
  (hname:(fn.name== "runtime.NumGoroutine")=false) (hbody:fn.body.isNone=false) (hnt:fn.ntmps=S.nt) (hlow:S.nt<=1000000) {args:List (PV U)} {boxes:List (Box U)} (hargs:args.length<=S.nt)
  {ann:Nat->Option Ann} {fuel:Nat} {keep:Bool} {hand:List Bool} {κ:Out U->Option R} {x:R} (h:tP V S C ann fuel keep hand fn args boxes κ=some x): ∃out,κ out=some x/\d5 X f args boxes out:=by
 obtain ⟨code,hcode⟩: ∃code,fn.body=some code:=by
  cases hb:fn.body<;>grind
 unfold tP kI at h
 rw [hcode] at h
 obtain ⟨e,τ,hbig,hk⟩:=BJ (d5 X) V S ann hC fuel code h
 have key: ∀ {M:M U} {out:Out U} {τ0:St U} {gp:List Loc},M.Rel (d5 X) τ [] (.out out) τ0 gp->(∀ (w:World) (vs:Array Value) (N0:aQ) (ν:Nat->Nat) (δ:Nat->Option Nat) (ο:Nat->Array Value) (hg:Given X w vs N0 ν δ ο args boxes),
   Lands X (kE w N0 boxes.length args.length ν δ ο hg.oz S.nt hlow hg.bnd X.gblk hg.glob) [] e τ (bodyPost P fn (Ret X w N0 ν δ ο boxes.length args.length out)))->d5 X f args boxes out:=by
  intro M out τ0 gp _ hl
  refine ⟨⟨fn,hf,hname,hbody⟩,fun w vs N0 ν δ ο hg=> ?_⟩
  suffices hgoal:Calls P f vs w (Ret X w N0 ν δ ο boxes.length args.length out) from hgoal.mono fun e w h=>Ret.full h
  refine calls_of_wp hf hcode ?_
  have hs:=BZ hg hargs hlow
  rw [hnt]
  exact rn hm (qD hI hS fun d hd=>by grind) rfl hbig _ w _ _ _ hs (hl w vs N0 ν δ ο hg)
 cases e with
 |exit id=>cases hk
 |normal=>
  obtain ⟨r,τ0,τ1,gp,hr,ht,hfin⟩:=kJ hC _ hk (St.eqv.refl τ)
  cases r with
  |out o=>
   refine ⟨o,hfin,key hr fun w vs N0 ν δ ο hg a' w' g' D' hd hs=> ?_⟩
   obtain ⟨v,h1,h2⟩:=tN nQ hg.dom hs hr
   exact ⟨hd,v,h1,h2⟩
  |_=>cases hfin
 |ret=>
  obtain ⟨r,τ0,τ1,gp,hr,ht,hfin⟩:=kJ hC _ hk (St.eqv.refl τ)
  cases r with
  |out o=>
   refine ⟨o,hfin,key hr fun w vs N0 ν δ ο hg a' w' g' D' hd hs=> ?_⟩
   obtain ⟨v,h1,h2⟩:=tN nQ hg.dom hs hr
   exact ⟨hd,v,h1,h2⟩
  |_=>cases hfin
 |panic v=>
  obtain ⟨r,τ0,τ1,gp,hr,ht,hfin⟩:=kJ hC _ hk (St.eqv.refl τ)
  cases r with
  |out o=>
   refine ⟨o,hfin,key hr fun w vs N0 ν δ ο hg a' w' g' D' hd hs val hval=> ?_⟩
   exact ⟨hd,FD nQ hg.dom hs hval hr⟩
  |_=>cases hfin
end
section
variable {U:Uni} {R:Type} (V:Env U) (S:Side U) (C:Oracle U R) (ann:Nat->Option Ann) (fuel:Nat)
def Ot (o:Oper):Option Tmp:=
 match o.dst,o.op,o.guard with
 |some d,.call c,.none=>match c.callee with
  | .builtin .recover=>some d
  |_=> .none
 |_,_,_=> .none
def OJ (v:PV U):Code->St U->(Ex U->St U->Option R)->Option R
 | .seq (.region _ ops draw) b,σ,κ=>match ops.toList with
  |o::more=>match Ot o with
   |some d=>bif !draw&&(Nat.blt d S.nt&&more.all (cW S.nt)) then tQ V S C ops.toList more [] (σ.setR d v) fun
     | .normal,σ',_=>run V S C ann fuel b σ' κ
     |_,_,_=> .none
    else .none
   | .none=> .none
  |[]=> .none
 |_,_,_=> .none
def Gt (keep:Bool) (hand:List Bool) (fn:Func) (v:PV U) (args:List (PV U)) (boxes:List (Box U)) (κ:Out U->Option R):Option R:=
 OJ V S C ann fuel v (kI fn) (ld args boxes) (kF V C keep hand fn boxes.length κ)
def DW:List Oper->Option (Oper×Tmp)
 |[o,q]=>match o.dst,o.guard,q.dst,q.op,q.guard with
  |some m,.none,.none,.defer c,.none=>match c.callee with
   | .value (.tmp n)=>bif ay m n&&c.args.isEmpty then some (o,n) else .none
   |_=> .none
  |_,_,_,_,_=> .none
 |_=> .none
def PV.pinned:PV U->Bool
 | .ptr id _=>dI 1000000 id
 |_=>false
def qM:Code->St U->(Ex U->St U->Option R)->(FuncId->List (PV U)->Ex U->St U->Option R)->Option R
 | .seq a b,σ,κ0,κ1=>match a with
  | .region id ops draw=>match DW ops.toList with
   |some (o,n)=>bif !draw&&cW S.nt o then (dz V S o).cps C σ [] fun
     | .done,σ',_=>match σ'.r n with
      | .func h [] caps=>bif caps.all PV.pinned then run V {S with pin:=fun _=>false} C ann fuel b σ' (κ1 h caps) else .none
      |_=> .none
     |_,_,_=> .none
    else .none
   | .none=>run V S C ann fuel (.region id ops draw) σ fun
    | .normal,σ'=>qM b σ' κ0 κ1
    |e,σ'=>κ0 e σ'
  |a=>run V S C ann fuel a σ fun
   | .normal,σ'=>qM b σ' κ0 κ1
   |e,σ'=>κ0 e σ'
 |_,_,_,_=> .none
def kD (Cd:PV U->Oracle U R) (keep:Bool) (hand:List Bool) (fn:Func) (nb:Nat) (κ:Out U->Option R) (h:FuncId) (caps:List (PV U)):Ex U->St U->Option R
 | .normal,σ=>(lD (PV.idsL caps) fun _=>mc (fun _=>0) (fun _=>[]) [] .none (.func h [] caps) []).cps (Cd .nilIface) σ [] fun
  | .done,σ',_=>(mE V keep hand fn.results.toList nb).cps C σ' [] (fin κ)
  |_,_,_=> .none
 | .ret,σ=>(lD (PV.idsL caps) fun _=>mc (fun _=>0) (fun _=>[]) [] .none (.func h [] caps) []).cps (Cd .nilIface) σ [] fun
  | .done,σ',_=>(mE V keep hand fn.results.toList nb).cps C σ' [] (fin κ)
  |_,_,_=> .none
 | .panic v,σ=>match v with
  | .iface t (.int k n)=>(lD (PV.idsL caps) fun _=>mc (fun _=>0) (fun _=>[]) [] .none (.func h [] caps) []).cps (Cd (.iface t (.int k n))) σ [] fun
   | .done,σ',_=>(mE V keep hand fn.results.toList nb).cps C σ' [] (fin κ)
   |_,_,_=> .none
  |_=> .none
 | .exit _,_=> .none
def Kv:Code->List Bool->List (St U->Option R)->(Nat->Option Ann)->(Ex U->St U->Option R)->(FuncId->List (PV U)->Ex U->St U->Option R)->Ex U->St U->Option R
 | .seq a b,false::p,rs,an,κ0,κ1=>nu V S C ann fuel a p rs an fun
  | .normal,σ'=>qM V S C ann fuel b σ' κ0 κ1
  |e,σ'=>κ0 e σ'
 | .seq _ b,true::p,rs,an,κ0,κ1=>Kv b p rs an κ0 κ1
 |_,_,_,_,κ0,_=>κ0
def Gs (Cd:PV U->Oracle U R) (keep:Bool) (hand:List Bool) (fn:Func) (args:List (PV U)) (boxes:List (Box U)) (κ:Out U->Option R):Option R:=
 qM V S C ann fuel (kI fn) (ld args boxes) (kF V C keep hand fn boxes.length κ) (kD V C Cd keep hand fn boxes.length κ)
end
section
variable {U:Uni} {V:Env U} {P:Program} {X:Link V P}
inductive RcvOK:PV U->FrameMode->FrameMode->Prop
 |nil:RcvOK .nilIface .returning .returning
 |err (t:TypeId) (k:IntKind) (n:Int):RcvOK (.iface t (.int k n)) (.panicking [{v:= .iface t (.int k n),recovered:=false}]) (.panicking [{v:= .iface t (.int k n),recovered:=true}])
def mR (P:Program) (u u':FrameMode):FuncId->Array Value->World->(Ending->World->Prop)->Prop:=fun f vs w R=>CallsD P f vs u w fun e u2 w'=>u2=u'/\R e w'
theorem ahi {ops:Array Oper} {cs:List Frame} {Q:Exit->Act->List Frame->World->Prop} (hQ: ¬LetsOut (fun e a' w'=>Q e a' cs w')): ∀ (l:List Nat) (a:Act) (w:World),wpOps P ops (fun e a' w'=>Q e a' cs w') l a w->wpOpsS P ops Q l a cs w:=by
 intro l
 induction l with
 |nil=>intro a w h;exact h
 |cons i l ih=>
  intro a w h
  simp only [wpOps,wpOpsS] at h ⊢
  cases ho:ops[i]? with
  |none=>grind
  |some o=>
   rw [ho] at h
   simp only at h ⊢
   split
   ·rename_i hw
    rw [if_pos hw] at h
    have h:=h.resolve_right fun h=>hQ h.2
    have h:=Oper.wp_mono ih h
    unfold Oper.wp at h
    split
    ·rename_i w' hrun
     rw [hrun] at h
     exact h.elim
    simp_all
   grind
theorem ad6 (hm:P.follows .mixedOrders=true) (hI:nT X) {S:Side U} (hS:S.rcv=none) (hpin:S.pin=fun _=>false) {R:Type} {C:Oracle U R} (hC:C.Tells (d5 X)) {f:FuncId} {fn:Func} (hf:P.funcs[f]? =some fn)
  (hname:(fn.name== "runtime.NumGoroutine")=false) (hbody:fn.body.isNone=false) (hnt:fn.ntmps=S.nt) (hlow:S.nt<=1000000) {v:PV U} {u u':FrameMode} (hv:RcvOK v u u') {args:List (PV U)} {boxes:List (Box U)} (hargs:args.length<=S.nt)
  {ann:Nat->Option Ann} {fuel:Nat} {keep:Bool} {hand:List Bool} {κ:Out U->Option R} {x:R} (h:Gt V S C ann fuel keep hand fn v args boxes κ=some x): ∃out,κ out=some x/\ma X (mR P u u') f args boxes out:=by
 obtain ⟨code,hcode⟩: ∃code,fn.body=some code:=by
  cases hb:fn.body<;>grind
 unfold Gt kI at h
 rw [hcode] at h
 simp only at h
 unfold OJ at h
 split at h
 case h_2=>cases h
 rename_i id ops draw b
 split at h
 case h_2=>cases h
 rename_i o more hops
 split at h
 case h_2=>cases h
 rename_i d hrec
 cases hc:(!draw&&(Nat.blt d S.nt&&more.all (cW S.nt))) with
 |false=>grind
 |true=>
 rw [hc] at h
 simp only [cond_true] at h
 simp only [af,jd] at hc
 obtain ⟨hdraw,hd,hall⟩:=hc
 subst hdraw
 have hd:d<S.nt:=by simp_all
 unfold Ot at hrec
 obtain ⟨dst,op,ty,pos,after,gd⟩:=o
 simp only at hrec
 split at hrec
 case h_2=>simp_all
 rename_i d0 cl
 split at hrec
 case h_2=>simp_all
 rename_i hcl
 injection hrec with hrec
 subst hrec
 obtain ⟨e1,fps,τ0,τ1,hops1,ht1,hk1⟩:=OI (d5 X) V S hC ops.toList more h (St.eqv.refl _)
 cases e1 with
 |exit id=>cases hk1
 |ret=>cases hk1
 |panic v=>cases hk1
 |normal=>
 simp only at hk1
 obtain ⟨e,τ,hbig,hk⟩:=BJ (d5 X) V S ann hC fuel b hk1
 have hsz:ops.size=more.length+1:=by have:=congrArg List.length hops;omega
 have key: ∀ {out:Out U},(∀ (w:World) (vs:Array Value) (N0:aQ) (ν:Nat->Nat) (δ:Nat->Option Nat) (ο:Nat->Array Value) (hg:Given X w vs N0 ν δ ο args boxes),
   Lands X (kE w N0 boxes.length args.length ν δ ο hg.oz S.nt hlow hg.bnd X.gblk hg.glob) [] e τ (bodyPost P fn (Ret X w N0 ν δ ο boxes.length args.length out)))->ma X (mR P u u') f args boxes out:=by
  intro out hl
  refine ⟨⟨fn,hf,hname,hbody⟩,fun w vs N0 ν δ ο hg=> ?_⟩
  suffices hgoal:mR P u u' f vs w (Ret X w N0 ν δ ο boxes.length args.length out) from CallsD.mono hgoal fun e u2 w2 h=>⟨h.1,Ret.full h.2⟩
  refine callsD_of_wpS hf hcode fun c₀ cs hu=> ?_
  have hs:=BZ hg hargs hlow
  rw [hnt]
  have hl:=hl w vs N0 ν δ ο hg
  generalize hcx:kE w N0 boxes.length args.length ν δ ο hg.oz S.nt hlow hg.bnd X.gblk hg.glob=c at hs hl
  have hcnt:c.nt=S.nt:=by rw [<-hcx];rfl
  have hOS:pB X (d5 X) S c:=qD hI hS fun d hd=>by grind
  obtain ⟨val,cs2,hrv,hrep⟩: ∃val cs2,(match recoverD (c₀::cs) with|some (v,cs')=>v=val/\cs'=cs2|none=>val= .nilIface/\cs2=c₀::cs)/\(∃c1:Frame,cs2={c₀ with mode:=u'}::cs)/\ ∀ (w:World) (N:aQ) (g:Gh U),Rep X w N g val v:=by
   cases hv with
   |nil=>
    refine ⟨.nilIface,c₀::cs, ?_,⟨c₀, ?_⟩,fun _ _ _=> .nilIface⟩
    ·simp [recoverD,hu]
    ·rw [<-hu]
   |err t k n=>
    refine ⟨.iface t (.int k n),_, ?_,⟨c₀,rfl⟩,fun _ _ _=> .iface _ _ _ (.int _ _)⟩
    simp [recoverD,hu]
  obtain ⟨⟨_,hcs2⟩,hrep⟩:=hrep
  refine wpS_seq (wpS_region ?_)
  rw [hsz,List.range_eq_range',List.range'_succ]
  have h0:ops[0]? =some ⟨some d0,.call cl,ty,pos,after,none⟩:=by rw [<-Array.getElem?_toList,hops];rfl
  simp only [wpOpsS,h0]
  have hrun:(execOp (Act.eval ⟨vs++Array.replicate (S.nt-vs.size) undef,[]⟩) ⟨some d0,.call cl,ty,pos,after,none⟩).run P w= .ok .recover w:=by
   simp_all [OM,builtin]
  rw [if_pos (by rfl),hrun]
  simp only
  have hnext:wpOpsS P ops (Exit.thenS (b.wpS P (bodyPostS P fn c₀ cs fun e u2 w'=>u2=u'/\Ret X w N0 ν δ ο boxes.length args.length out e w')) (bodyPostS P fn c₀ cs fun e u2 w'=>u2=u'/\Ret X w N0 ν δ ο boxes.length args.length out e w')) (List.range' (0+1) more.length)
    (Act.put ⟨vs++Array.replicate (S.nt-vs.size) undef,[]⟩ (some d0) val) cs2 w:=by
   have hs1:=hs.put (d:=d0) (by grind) (hrep w _ _)
   have hLO: ∀ {next:Act->List Frame->World->Prop},¬LetsOut (fun e a' w'=>Exit.thenS next (bodyPostS P fn c₀ cs fun e u2 w'=>u2=u'/\Ret X w N0 ν δ ο boxes.length args.length out e w') e a' cs2 w'):=by
    rintro next ⟨a',w',u2,_,hq⟩
    exact hq
   refine ahi hLO _ _ _ ?_
   refine Qs hOS more 1 _ w _ _ _ fps (by grind) (by grind) hs1 hops1 ?_
   intro a2 w2 g2 D2 hd2 hs2
   simp only [Exit.thenS]
   refine wpS_of_wp (rn hm hOS hcnt hbig a2 w2 g2 D2 _ (hs2.eqv ht1) ?_)
   intro a3 w3 g3 D3 hd3 hs3
   have hd0:a3.defers=[]:=hd3.trans hd2
   have hb:=hl a3 w3 g3 D3 hd0 hs3
   rw [hcs2]
   cases e with
   |normal=>obtain ⟨q1,v1,q2,q3⟩:=hb;exact ⟨q1,u',rfl,v1,q2,rfl,q3⟩
   |ret=>obtain ⟨q1,v1,q2,q3⟩:=hb;exact ⟨q1,u',rfl,v1,q2,rfl,q3⟩
   |exit id=>exact hb.elim
   |panic pv=>intro val' hval';obtain ⟨q1,q3⟩:=hb val' hval';exact ⟨q1,u',rfl,rfl,q3⟩
  grind
 cases e with
 |exit id=>cases hk
 |normal=>
  obtain ⟨r,τ0,τ1,gp,hr,ht,hfin⟩:=kJ hC _ hk (St.eqv.refl τ)
  cases r with
  |out o=>
   refine ⟨o,hfin,key fun w vs N0 ν δ ο hg a' w' g' D' hd hs=> ?_⟩
   obtain ⟨v,h1,h2⟩:=tN nQ hg.dom hs hr
   exact ⟨hd,v,h1,h2⟩
  |_=>cases hfin
 |ret=>
  obtain ⟨r,τ0,τ1,gp,hr,ht,hfin⟩:=kJ hC _ hk (St.eqv.refl τ)
  cases r with
  |out o=>
   refine ⟨o,hfin,key fun w vs N0 ν δ ο hg a' w' g' D' hd hs=> ?_⟩
   obtain ⟨v,h1,h2⟩:=tN nQ hg.dom hs hr
   exact ⟨hd,v,h1,h2⟩
  |_=>cases hfin
 |panic v=>
  obtain ⟨r,τ0,τ1,gp,hr,ht,hfin⟩:=kJ hC _ hk (St.eqv.refl τ)
  cases r with
  |out o=>
   refine ⟨o,hfin,key fun w vs N0 ν δ ο hg a' w' g' D' hd hs val hval=> ?_⟩
   exact ⟨hd,FD nQ hg.dom hs hval hr⟩
  |_=>cases hfin
end
section
variable {U:Uni} {V:Env U} {P:Program} {X:Link V P}
def Ctx.refix (c:Ctx) (μ:Nat->Option Nat) (L:List Nat) (hnt:c.nt<=1000000) (hL: ∀id∈L,1000000<=id):Ctx:=
 {c with
  fix:=fun id=>if id∈L then μ id else c.fix id
  low:=fun id k h=>by
   split at h
   ·grind
   ·exact c.low id k h}
theorem Sim.refix {c:Ctx} {tm:Array Value} {w:World} {σ:St U} {g:Gh U} {D:Nat->Option Nat} (h:Sim X c tm w σ g D) {L:List Nat} {hnt:c.nt<=1000000} {hL: ∀id∈L,1000000<=id}:
  Sim X (c.refix g.μ L hnt hL) tm w σ g D where
 nt:=h.nt
 regs:=h.regs
 boxes:=h.boxes
 dom:=h.dom
 inj:=h.inj
 new:=h.new
 objs:=h.objs
 nobj:=h.nobj
 dinj:=h.dinj
 dnew:=h.dnew
 dbox:=h.dbox
 ext:=h.ext
 gl:=h.gl
 fix:=fun id k hk=>by
  simp only [Ctx.refix]
  by_cases hin:id∈L
  ·grind
  ·rw [if_neg hin];exact h.fix id k hk
theorem CtxOf.refix {c:Ctx} {tm:Array Value} {w:World} {σ:St U} {g:Gh U} {D:Nat->Option Nat} (h:Sim X c tm w σ g D) {L:List Nat} {hnt:c.nt<=1000000} {hL: ∀id∈L,1000000<=id} (hLμ: ∀id∈L,∃b,g.μ id=some b)
  {w0:World} {N0:aQ} {n m:Nat} {ν:Nat->Nat} {δ:Nat->Option Nat} {ο:Nat->Array Value} (hc:CtxOf c w0 N0 n m ν δ ο):CtxOf (c.refix g.μ L hnt hL) w0 N0 n m ν δ ο where
 cw:=hc.cw
 cN:=hc.cN
 bl:=hc.bl
 fix i hi:=by
  simp only [Ctx.refix]
  by_cases hin:fH i∈L
  ·rw [if_pos hin]
   obtain ⟨b,hb⟩:=hLμ _ hin
   rcases h.fix _ _ hb with h1|⟨h1,_⟩
   ·rw [hb,<-h1];exact hc.fix i hi
   ·rw [hc.fix i hi] at h1;cases h1
  ·rw [if_neg hin];exact hc.fix i hi
 other id k hk:=by
  simp only [Ctx.refix] at hk
  by_cases hin:id∈L
  ·rw [if_pos hin] at hk
   rcases h.fix _ _ hk with h1|⟨_,h1⟩
   ·exact hc.other id k h1
   ·rw [hc.cw] at h1;omega
  ·rw [if_neg hin] at hk;exact hc.other id k hk
 bnd:=hc.bnd
 oo:=hc.oo
def Ce (c':Ctx) (caps:List (PV U)) (us:Array Value):Prop:=us.size=caps.length/\ ∀ (j:Nat) p,caps[j]? =some p-> ∃id off b,p= .ptr id off/\c'.fix id=some b/\us.getD j undef= .pointer (some ⟨b,off,none⟩)
def Cg (X:Link V P) (S:Side U) (code:Code) (σ:St U) (h:FuncId) (caps:List (PV U)) (e:Ex U) (τ:St U):Prop:=
 ∀ (c:Ctx),PinOK S c->c.nt=S.nt-> ∀ (a:Act) (w:World) (g:Gh U) (D:Nat->Option Nat) (Q:Exit->Act->World->Prop),Sim X c a.tmps w σ g D->a.defers=[]->
  (∀ (us:Array Value) (c':Ctx),(∀w0 N0 n m ν δ ο,CtxOf c w0 N0 n m ν δ ο->CtxOf c' w0 N0 n m ν δ ο)->c'.nt=c.nt->Ce c' caps us->Lands X c' [{target:= .fn (.func h) us,args:= #[]}] e τ Q)->code.wp P Q a w
theorem VI {l:List Oper} {o:Oper} {n:Tmp} (h:DW l=some (o,n)): ∃q cl,l=[o,q]/\o.dst=some n/\o.guard=none/\q.dst=none/\q.op= .defer cl/\q.guard=none/\cl.callee= .value (.tmp n)/\cl.args= #[]:=by
 unfold DW at h
 split at h
 case h_2=>cases h
 rename_i o' q
 split at h
 case h_2=>cases h
 rename_i m cl h1 h2 h3 h4 h5
 split at h
 case h_2=>cases h
 rename_i n' hcl
 cases hb:(ay m n'&&cl.args.isEmpty)<;>simp_all
theorem ad5 (hm:P.follows .mixedOrders=true) (hI:nT X) {S:Side U} (hS:S.rcv=none) (hlow:S.nt<=1000000) {R:Type} {C:Oracle U R} (hC:C.Tells (d5 X)) {ann:Nat->Option Ann} {fuel:Nat}:
  ∀ (code:Code) {σ:St U} {κ0:Ex U->St U->Option R} {κ1:FuncId->List (PV U)->Ex U->St U->Option R} {x:R},qM V S C ann fuel code σ κ0 κ1=some x->
   (∃e τ,e≠ .normal/\κ0 e τ=some x/\ ∀c,PinOK S c->c.nt=S.nt->xh X c none code σ e τ)\/
   (∃h caps e τ,κ1 h caps e τ=some x/\Cg X S code σ h caps e τ):=by
 intro code
 induction code with
 |seq a b iha ihb=>
  intro σ κ0 κ1 x h
  have step:run V S C ann fuel a σ (fun| .normal,σ'=>qM V S C ann fuel b σ' κ0 κ1|e,σ'=>κ0 e σ')=some x->
    (∃e τ,e≠ .normal/\κ0 e τ=some x/\ ∀c,PinOK S c->c.nt=S.nt->xh X c none (.seq a b) σ e τ)\/
    (∃h caps e τ,κ1 h caps e τ=some x/\Cg X S (.seq a b) σ h caps e τ):=by
   intro h
   obtain ⟨e,τ,hbig,hk⟩:=BJ (d5 X) V S ann hC fuel a h
   have early:e≠ .normal->κ0 e τ=some x->_:=fun he hk=>(.inl ⟨e,τ,he,hk,fun c hP hnt=>rn hm (qD hI hS hP) hnt (.seqE a b _ _ _ hbig he)⟩:
    (∃e τ,e≠ .normal/\κ0 e τ=some x/\ ∀c,PinOK S c->c.nt=S.nt->xh X c none (.seq a b) σ e τ)\/(∃h caps e τ,κ1 h caps e τ=some x/\Cg X S (.seq a b) σ h caps e τ))
   cases e with
   |normal=>
    rcases ihb hk with ⟨e',τ',he',hk',hB⟩|⟨hh,caps,e',τ',hk',hB⟩
    ·exact .inl ⟨e',τ',he',hk',fun c hP hnt a' w g D Q hs hl=>wp_seq (rn hm (qD hI hS hP) hnt hbig a' w g D _ hs fun a2 w2 g2 D2 hd2 hs2=>hB c hP hnt a2 w2 g2 D2 Q hs2 (by grind))⟩
    ·exact .inr ⟨hh,caps,e',τ',hk',fun c hP hnt a' w g D Q hs hd hl=>wp_seq (rn hm (qD hI hS hP) hnt hbig a' w g D _ hs fun a2 w2 g2 D2 hd2 hs2=>hB c hP hnt a2 w2 g2 D2 Q hs2 (hd2.trans hd) hl)⟩
   |exit id=>grind
   |ret=>grind
   |panic v=>grind
  clear iha
  unfold qM at h
  split at h
  case h_2=>grind
  rename_i id ops draw
  split at h
  case h_2=>grind
  rename_i o n hdfr
  obtain ⟨q,cl,hops,ho1,ho2,hq1,hq2,hq3,hcl,hargs⟩:=VI hdfr
  cases hc:(!draw&&cW S.nt o) with
  |false=>grind
  |true=>
  rw [hc] at h
  simp only [cond_true] at h
  simp only [af,jd] at hc
  obtain ⟨hdraw,hdo⟩:=hc
  subst hdraw
  obtain ⟨r,τ0,τ,gp,hrel,ht,hk⟩:=kJ hC _ h (St.eqv.refl σ)
  cases r with
  |raise v=>cases hk
  |out o=>cases hk
  |done=>
  simp only at hk
  split at hk
  case h_2=>cases hk
  rename_i hh caps hfun
  cases hp:caps.all PV.pinned with
  |false=>grind
  |true=>
  rw [hp] at hk
  simp only [cond_true] at hk
  obtain ⟨e,τ2,hbig,hk2⟩:=BJ (d5 X) V {S with pin:=fun _=>false} ann hC fuel b hk
  refine .inr ⟨hh,caps,e,τ2,hk2,fun c hP hnt a w g D Q hs hdef hl=>wp_seq (wp_region ?_)⟩
  have hsz:ops.size=2:=by have:=congrArg List.length hops;omega
  have h0:ops[0]? =some o:=by rw [<-Array.getElem?_toList,hops];rfl
  have h1:ops[1]? =some q:=by rw [<-Array.getElem?_toList,hops];rfl
  rw [hsz,show fz 2=[0,1] from rfl]
  simp only [wpOps,h0,h1]
  rw [if_pos (by simp [Region.wanted,ho2])]
  refine .inl (qD hI hS hP o a w σ g D .done τ0 [] gp _ _ (by grind) hs hrel ⟨fun _ a2 w2 g2 D2 hd2 hs2=> ?_,fun v hv=>by cases hv⟩)
  rw [if_pos (by simp [Region.wanted,hq3])]
  refine .inl ?_
  have hs3:=hs2.eqv ht
  have hR:=hs3.regs n
  rw [hfun] at hR
  generalize hev:a2.tmps.getD n undef=ev at hR
  cases hR with
  |func _ _ _ vs us hvs hus hf1 hf2=>
  have hvs0:vs= #[]:=by
   grind
  subst hvs0
  obtain ⟨qd,qo,qt,qp,qa,qg⟩:=q
  simp only at hq1 hq2 hq3
  subst hq1;subst hq2;subst hq3
  have hrun:(execOp a2.eval ⟨none,.defer cl,qt,qp,qa,none⟩).run P w2= .ok (.defer {target:= .fn (.func hh) us,args:= #[]}) w2:=by
   have hev':a2.eval (.tmp n)= .func (.func hh) #[] us:=hev
   simp_all [execOp,resolve,Deferred.ofValue]
  unfold Oper.wp
  rw [hrun,Oper.upon_defer]
  have hids: ∀id∈PV.idsL caps,1000000<=id/\ ∃b,g2.μ id=some b:=by
   intro id hid
   obtain ⟨p,hpm,hpi⟩: ∃p∈caps,id∈p.ids:=by
    clear hl hk2 hbig hk hf1 hf2 hus hfun hp h step
    induction caps<;>grind [PV.idsL]
   have hpp:=dU.1 hp p hpm
   obtain ⟨j,hj⟩:=List.mem_iff_getElem?.1 hpm
   have hr:=hf2 j p hj
   cases p with
   |ptr id' off=>
    simp only [PV.ids,List.mem_singleton] at hpi
    subst hpi
    refine ⟨by simp_all [PV.pinned], ?_⟩
    generalize us.getD j undef=uv at hr
    cases hr<;>grind
   |_=>cases hpp
  have hcnt:c.nt<=1000000:=by omega
  refine rn (S:={S with pin:=fun _=>false}) hm (qD hI hS fun d hd=>by cases hd) (c:=c.refix g2.μ (PV.idsL caps) hcnt fun id hid=>(hids id hid).1) hnt hbig _ w2 g2 D2 Q hs3.refix ?_
  have hld:=hl us (c.refix g2.μ (PV.idsL caps) hcnt fun id hid=>(hids id hid).1) (fun w0 N0 n m ν δ ο hc=>CtxOf.refix hs3 (fun id hid=>(hids id hid).2) hc) rfl ⟨hus,fun j p hj=> ?_⟩
  ·grind [Act.put]
  ·have hpp:=dU.1 hp p (je hj)
   have hr:=hf2 j p hj
   cases p with
   |ptr id off=>
    have hin:id∈PV.idsL caps:=jo hj id (by simp [PV.ids])
    generalize us.getD j undef=uv at hr
    cases hr<;>grind [Ctx.refix]
   |_=>cases hpp
 |_=>intro σ κ0 κ1 x h;cases h
end
section
variable {U:Uni} {V:Env U} {P:Program} {X:Link V P}
theorem EU {fn:Func} {w0:World} {N0:aQ} {n m:Nat} {ν:Nat->Nat} {δ:Nat->Option Nat} {c':Ctx} {ο:Nat->Array Value} (hc:CtxOf c' w0 N0 n m ν δ ο) (hdom: ∀j b,δ j=some b->j<m) {v:PV U} {u u':FrameMode} (hv:RcvOK v u u')
  {hh:FuncId} {caps:List (PV U)} {us:Array Value} (hct:Ce c' caps us) {τ τ1:St U} {r:MR U} {τ0:St U} {gp gp':List Loc} {K:d6 U} {keep:Bool} {hand:List Bool} {out:Out U} {τ2:St U}
  (hrel:(lD (PV.idsL caps) fun _=>mc (fun _=>0) (fun _=>[]) [] none (.func hh [] caps) []).Rel (ma X (mR P u u')) τ [] r τ0 gp) (hr:r= .done) (ht:τ0.eqv τ1) (hret:(mE V keep hand fn.results.toList n).Rel K τ1 [] (.out out) τ2 gp')
  {a:Act} {w:World} {g:Gh U} {D:Nat->Option Nat} (hs:Sim X c' a.tmps w τ g D):
  Leaves P fn a.tmps (Ret X w0 N0 ν δ ο n m out) [{target:= .fn (.func hh) us,args:= #[]}] u w:=by
 obtain ⟨bs,fp1,hrel1,hkeys,hbs⟩:=Ep _ hrel
 have hR:Rep X w (c'.N g D) g (.func (.func hh) #[] us) (.func hh [] caps):=by
  refine .func hh [] caps #[] us rfl hct.1 (by simp) fun j p hp=> ?_
  obtain ⟨id,off,b,rfl,hfix,hus⟩:=hct.2 j p hp
  rw [hus]
  refine .ptr id off b ?_
  have hin:id∈PV.idsL caps:=jo hp id (by simp [PV.ids])
  rw [<-hkeys] at hin
  obtain ⟨x,hx,rfl⟩:=dA.1 hin
  obtain ⟨k,hk,_⟩:=hs.boxes x.1 x.2 (hbs x hx)
  rcases hs.fix _ _ hk with h1|⟨h1,_⟩
  ·rw [hfix] at h1;injection h1 with h1;rw [h1];exact hk
  ·rw [hfix] at h1;cases h1
 obtain ⟨f,a0s,bs',hfv,⟨fnh,hfh,hnameh,hbodyh⟩,hcall⟩:=Iu (X:=X) (c:=c') (a:=a) (dst:=none) (o:=⟨none,.move (.const undef),0, "",#[],none⟩) (CP:=mR P u u') (xs:= #[])
  (next:=fun a2 w2=>Leaves P fn a2.tmps (Ret X w0 N0 ν δ ο n m out) [] .returning w2) (Q:=fun _ _ _=>False)
  (fun {f vs w R R'} h hm=>CallsD.mono h fun e u2 w2 ⟨h1,h2⟩=>⟨h1,hm e w2 h2⟩) hs hR rfl (by simp) rfl rfl hrel1
  ⟨fun _ a2 w2 g2 D2 _ hs2=>by
   obtain ⟨v,h1,h2⟩:=tN hc hdom (hs2.eqv ht) hret
   exact ⟨v,h1,h2⟩,fun v hv=>by rw [hr] at hv;cases hv⟩
 injection hfv with e1 e2 e3
 injection e1 with e1
 subst e1;subst e2;subst e3
 have hun:u≠ .run:=by cases hv<;>simp
 refine leaves_cons hun (f:=hh) (args:= #[]++us) (by simp only [invoke];exact ON hfh hnameh hbodyh _ w) ?_
 have hcall2:CallsD P hh (#[]++us) u w fun e u2 w'=>u2=u'/\(match e,w' with
    | .returned v,w''=>Leaves P fn (a.put none v).tmps (Ret X w0 N0 ν δ ο n m out) [] .returning w''
    | .panicked chain,w''=>False
    | .outgrown,_=>LetsOut (fun _ _ _=>False)):=by
  have:=hcall
  simp only [Array.append_empty] at this
  exact this.mono fun e u2 w2 ⟨h1,h2⟩=>⟨h1,by cases e<;>exact h2⟩
 refine hcall2.mono fun e u2 w2 ⟨h1,h2⟩=> ?_
 subst h1
 cases e with
 |returned rv=>
  simp only [Act.put] at h2
  have hset:settle u2= .returning:=by cases hv<;>rfl
  simp only [hset]
  exact h2
 |panicked chain=>exact h2.elim
 |outgrown=>obtain ⟨_,_,h⟩:=h2;exact h.elim
theorem ad4 (hm:P.follows .mixedOrders=true) (hI:nT X) {S:Side U} (hS:S.rcv=none) {R:Type} {C:Oracle U R} (hC:C.Tells (d5 X)) {Cd:PV U->Oracle U R} (hCd: ∀v u u',RcvOK v u u'->(Cd v).Tells (ma X (mR P u u')))
  {f:FuncId} {fn:Func} (hf:P.funcs[f]? =some fn)
  (hname:(fn.name== "runtime.NumGoroutine")=false) (hbody:fn.body.isNone=false) (hnt:fn.ntmps=S.nt) (hlow:S.nt<=1000000) {args:List (PV U)} {boxes:List (Box U)} (hargs:args.length<=S.nt) (hboxes:boxes.length<=1000000)
  {ann:Nat->Option Ann} {fuel:Nat} {keep:Bool} {hand:List Bool} {κ:Out U->Option R} {x:R} (h:Gs V S C ann fuel Cd keep hand fn args boxes κ=some x): ∃out,κ out=some x/\d5 X f args boxes out:=by
 obtain ⟨code,hcode⟩: ∃code,fn.body=some code:=by
  cases hb:fn.body with
  |none=>rw [hb] at hbody;cases hbody
  |some code=>exact ⟨code,rfl⟩
 unfold Gs kI at h
 rw [hcode] at h
 have hpin: ∀ {w:World} {vs:Array Value} {N0:aQ} {ν:Nat->Nat} {δ:Nat->Option Nat} {ο:Nat->Array Value} (hg:Given X w vs N0 ν δ ο args boxes),PinOK S (kE w N0 boxes.length args.length ν δ ο hg.oz S.nt hlow hg.bnd X.gblk hg.glob):=by
  intro w vs N0 ν δ ο hg d _
  simp only [kE]
  rw [if_neg (by omega)]
 rcases ad5 (X:=X) hm hI hS hlow hC code h with ⟨e,τ,he,hk,hB⟩|⟨hh,caps,e,τ,hk,hB⟩
 ·have key: ∀ {out:Out U},(∀ (w:World) (vs:Array Value) (N0:aQ) (ν:Nat->Nat) (δ:Nat->Option Nat) (ο:Nat->Array Value) (hg:Given X w vs N0 ν δ ο args boxes),
    Lands X (kE w N0 boxes.length args.length ν δ ο hg.oz S.nt hlow hg.bnd X.gblk hg.glob) [] e τ (bodyPost P fn (Ret X w N0 ν δ ο boxes.length args.length out)))->d5 X f args boxes out:=by
   intro out hl
   refine ⟨⟨fn,hf,hname,hbody⟩,fun w vs N0 ν δ ο hg=>Calls.mono (calls_of_wp (R:=Ret X w N0 ν δ ο boxes.length args.length out) hf hcode ?_) fun e w h=>Ret.full h⟩
   have hs:=BZ hg hargs hlow
   rw [hnt]
   exact hB _ (hpin hg) rfl _ w _ _ _ hs (hl w vs N0 ν δ ο hg)
  cases e with
  |exit id=>cases hk
  |normal=>exact absurd rfl he
  |ret=>
   obtain ⟨r,τ0,τ1,gp,hr,ht,hfin⟩:=kJ hC _ hk (St.eqv.refl τ)
   cases r with
   |out o=>
    refine ⟨o,hfin,key fun w vs N0 ν δ ο hg a' w' g' D' hd hs=> ?_⟩
    obtain ⟨v,h1,h2⟩:=tN nQ hg.dom hs hr
    exact ⟨hd,v,h1,h2⟩
   |_=>cases hfin
  |panic v=>
   obtain ⟨r,τ0,τ1,gp,hr,ht,hfin⟩:=kJ hC _ hk (St.eqv.refl τ)
   cases r with
   |out o=>
    refine ⟨o,hfin,key fun w vs N0 ν δ ο hg a' w' g' D' hd hs val hval=> ?_⟩
    exact ⟨hd,FD nQ hg.dom hs hval hr⟩
   |_=>cases hfin
 ·have key: ∀ {out:Out U},(∀ (w:World) (vs:Array Value) (N0:aQ) (ν:Nat->Nat) (δ:Nat->Option Nat) (ο:Nat->Array Value) (hg:Given X w vs N0 ν δ ο args boxes) (us:Array Value) (c':Ctx),CtxOf c' w N0 boxes.length args.length ν δ ο->Ce c' caps us->
    Lands X c' [{target:= .fn (.func hh) us,args:= #[]}] e τ (bodyPostD P fn (Ret X w N0 ν δ ο boxes.length args.length out)))->d5 X f args boxes out:=by
   intro out hl
   refine ⟨⟨fn,hf,hname,hbody⟩,fun w vs N0 ν δ ο hg=>Calls.mono (calls_of_wp_defers (R:=Ret X w N0 ν δ ο boxes.length args.length out) hf hcode ?_) fun e w h=>Ret.full h⟩
   have hs:=BZ hg hargs hlow
   rw [hnt]
   exact hB _ (hpin hg) rfl _ w _ _ _ hs rfl fun us c' hcx _ hct=>hl w vs N0 ν δ ο hg us c' (hcx _ _ _ _ _ _ _ nQ) hct
  have fin: ∀ {v:PV U} {u u':FrameMode},RcvOK v u u'->(lD (PV.idsL caps) fun _=>mc (fun _=>0) (fun _=>[]) [] none (.func hh [] caps) []).cps (Cd v) τ [] (fun| .done,σ',_=>(mE V keep hand fn.results.toList boxes.length).cps C σ' [] (Go.Proofs.YtgajalidbabccaaGreatDoor.PI.fin κ)|_,_,_=>none)=some x->
    ∃ (out:Out U) (r:MR U) (τ0 τ1 τ2:St U) (gp gp':List Loc),κ out=some x/\(lD (PV.idsL caps) fun _=>mc (fun _=>0) (fun _=>[]) [] none (.func hh [] caps) []).Rel (ma X (mR P u u')) τ [] r τ0 gp/\r= .done/\τ0.eqv τ1/\(mE V keep hand fn.results.toList boxes.length).Rel (d5 X) τ1 [] (.out out) τ2 gp':=by
   intro v u u' hv hk
   obtain ⟨r,τ0,τ1,gp,hr,ht,hk1⟩:=kJ (hCd v u u' hv) _ hk (St.eqv.refl τ)
   cases r with
   |raise v=>cases hk1
   |out o=>cases hk1
   |done=>
    obtain ⟨r',τ2,τ3,gp',hr',ht',hk2⟩:=kJ hC _ hk1 (St.eqv.refl τ1)
    cases r' with
    |out o=>exact ⟨o,.done,τ0,τ1,τ2,gp,gp',hk2,hr,rfl,ht,hr'⟩
    |_=>cases hk2
  cases e with
  |exit id=>cases hk
  |normal=>
   obtain ⟨out,r,τ0,τ1,τ2,gp,gp',h1,h2,h3,h4,h5⟩:=fin .nil hk
   refine ⟨out,h1,key fun w vs N0 ν δ ο hg us c' hcx hct a' w' g' D' hd hs=> ?_⟩
   simp only [bodyPostD,hd]
   exact EU hcx hg.dom .nil hct h2 h3 h4 h5 hs
  |ret=>
   obtain ⟨out,r,τ0,τ1,τ2,gp,gp',h1,h2,h3,h4,h5⟩:=fin .nil hk
   refine ⟨out,h1,key fun w vs N0 ν δ ο hg us c' hcx hct a' w' g' D' hd hs=> ?_⟩
   simp only [bodyPostD,hd]
   exact EU hcx hg.dom .nil hct h2 h3 h4 h5 hs
  |panic v=>
   simp only [kD] at hk
   split at hk
   case h_2=>cases hk
   rename_i t k n'
   obtain ⟨out,r,τ0,τ1,τ2,gp,gp',h1,h2,h3,h4,h5⟩:=fin (.err t k n') hk
   refine ⟨out,h1,key fun w vs N0 ν δ ο hg us c' hcx hct a' w' g' D' hd hs val hval=> ?_⟩
   simp only [bodyPostD,hd]
   cases hval with
   |iface _ u _ hu=>cases hu;exact EU hcx hg.dom (.err t k n') hct h2 h3 h4 h5 hs
end
end Go.Proofs.YtgajalidbabccaaGreatDoor.PI
namespace Go.Proofs.YtgajalidbabccaaGreatDoor
open Go PI
set_option maxRecDepth 100000
noncomputable section
noncomputable def vA:ET->TypeId
 | .C=>53
 | .T=>26
 | .B=>48
 | .I=>3
 | .F=>22
noncomputable def rW:ET->Nat
 | .C=>2
 | .T=>6
 | .B=>2
 | .I=>1
 | .F=>1
noncomputable def z7:ET->Nat
 | .C=>8
 | .T=>104
 | .B=>48
 | .I=>8
 | .F=>24
noncomputable def Ai (e:ET):Value:=((Tryz.prog.info? (vA e)).bind (·.zero)).getD undef
noncomputable def Eb (e:ET):Bool:=match Tryz.prog.info? (vA e) with
 |some i=>i.zero.isSome&&(ay i.size (rW e)&&ay i.bytes (z7 e))&&ay (Ai e).cells.size (rW e)
 | .none=>false
theorem Jm (e:ET):Eb e=true:=by cases e<;>kernel_rfl
theorem PS: ∀t r,w7 t=some r->HS Tryz.prog vA t r=true:=by
 intro t r h
 unfold w7 at h
 split at h<;>first|(injection h with h;subst h;kernel_rfl)|cases h
theorem ZW: ∀t r e,w7 t=some r->r.keys=some e->e= .C:=by
 intro t r e h hk
 unfold w7 at h
 split at h<;>first|(injection h with h;subst h;cases hk;done)|(injection h with h;subst h;injection hk with hk;exact hk.symm)|cases h
theorem ags: ∀e cs y,PQ e cs=some y->cs.length=rW e/\cs.all PV.isCell=true/\ ∀ (k:Nat) p,cs[k]? =some p-> ∃q,(gE e y)[k]? =some q/\p.less q:=by
 have hC: ∀ {p:PU} {l},ul p=some l-> ∃o,p= .sl (U:=UU) ET.C l o:=by
  intro p l h;unfold ul at h;split at h<;>first|(injection h with h;subst h;exact ⟨_,rfl⟩)|cases h
 have hT: ∀ {p:PU} {l},xt p=some l-> ∃o,p= .sl (U:=UU) ET.T l o:=by
  intro p l h;unfold xt at h;split at h<;>first|(injection h with h;subst h;exact ⟨_,rfl⟩)|cases h
 have hB: ∀ {p:PU} {l},C0 p=some l-> ∃o,p= .sl (U:=UU) ET.B l o:=by
  intro p l h;unfold C0 at h;split at h<;>first|(injection h with h;subst h;exact ⟨_,rfl⟩)|cases h
 intro e cs y h
 cases e
 ·have h:HO cs=some y:=h
  unfold HO at h
  split at h
  case h_2=>cases h
  injection h with h;subst h
  refine ⟨rfl,rfl,fun k p hp=> ?_⟩
  match k,hp with
  |0,hp=>exact ⟨_,rfl,.inl (Option.some.inj hp).symm⟩
  |1,hp=>exact ⟨_,rfl,.inl (Option.some.inj hp).symm⟩
  |k+2,hp=>simp at hp
 ·have h:HR cs=some y:=h
  unfold HR at h
  split at h
  case h_2=>cases h
  split at h
  case h_2=>cases h
  rename_i h1 h2 h3
  injection h with h;subst h
  obtain ⟨o1,rfl⟩:=hC h1;obtain ⟨o2,rfl⟩:=hT h2;obtain ⟨o3,rfl⟩:=hB h3
  refine ⟨rfl,rfl,fun k p hp=> ?_⟩
  match k,hp with
  |0,hp=>exact ⟨_,rfl,.inl (Option.some.inj hp).symm⟩
  |1,hp=>exact ⟨_,rfl,.inl (Option.some.inj hp).symm⟩
  |2,hp=>exact ⟨_,rfl,.inl (Option.some.inj hp).symm⟩
  |3,hp=>exact ⟨_,rfl,.inr ⟨_,_,_,(Option.some.inj hp).symm,rfl⟩⟩
  |4,hp=>exact ⟨_,rfl,.inr ⟨_,_,_,(Option.some.inj hp).symm,rfl⟩⟩
  |5,hp=>exact ⟨_,rfl,.inr ⟨_,_,_,(Option.some.inj hp).symm,rfl⟩⟩
  |k+6,hp=>simp at hp
 ·have h:HN cs=some y:=h
  unfold HN at h
  split at h
  case h_2=>cases h
  split at h
  case h_2=>cases h
  rename_i h1 h2
  injection h with h;subst h
  obtain ⟨o1,rfl⟩:=hC h1;obtain ⟨o2,rfl⟩:=hT h2
  refine ⟨rfl,rfl,fun k p hp=> ?_⟩
  match k,hp with
  |0,hp=>exact ⟨_,rfl,.inr ⟨_,_,_,(Option.some.inj hp).symm,rfl⟩⟩
  |1,hp=>exact ⟨_,rfl,.inr ⟨_,_,_,(Option.some.inj hp).symm,rfl⟩⟩
  |k+2,hp=>simp at hp
 ·have h:HQ cs=some y:=h
  unfold HQ at h
  split at h
  case h_2=>cases h
  injection h with h;subst h
  refine ⟨rfl,rfl,fun k p hp=> ?_⟩
  match k,hp with
  |0,hp=>exact ⟨_,rfl,.inl (Option.some.inj hp).symm⟩
  |k+1,hp=>simp at hp
 ·have h:HP cs=some y:=h
  unfold HP at h
  split at h
  case h_2=>cases h
  obtain ⟨o1,rfl⟩:=hC h
  refine ⟨rfl,rfl,fun k p hp=> ?_⟩
  match k,hp with
  |0,hp=>exact ⟨_,rfl,.inr ⟨_,_,_,(Option.some.inj hp).symm,rfl⟩⟩
  |k+1,hp=>simp at hp
theorem XM (e:ET): ∃i,Tryz.prog.info? (vA e)=some i/\i.zero=some (Ai e)/\i.size=rW e/\i.bytes=z7 e:=by
 have h:=Jm e
 unfold Eb at h
 split at h
 ·rename_i i hi
  simp only [af] at h
  obtain ⟨⟨h1,h2,h3⟩,h4⟩:=h
  refine ⟨i,hi, ?_,by simpa using h2,by simpa using h3⟩
  unfold Ai
  rw [hi]
  obtain ⟨z,hz⟩:=Option.isSome_iff_exists.1 h1
  simp [hz]
 ·cases h
noncomputable def LL (o:Obj):Link VV Tryz.prog where
 gblk:=[(0,o)]
 etid:=vA
 esize:=rW
 ebytes:=z7
 ezero:=Ai
 einfo:=XM
 zsize:=fun e=>by
  have h:=Jm e
  unfold Eb at h
  split at h
  ·simp only [af] at h
   exact by simpa using h.2
  ·cases h
 epos:=fun e=>by cases e<;>decide
 broom:=fun e n h=>by
  have h':n<=1099511627776:=h
  cases e<;>simp only [z7,maxLen]<;>omega
 len:=fun e x=>by cases e<;>rfl
 small:=fun e=>by cases e<;>decide
 ecell':=fun e x=>by cases e<;>rfl
 toEl:=ags
 ty:=fun t r h=>PR (PS t r h)
 keyT:=fun t r e h hk=>by
  have he:=ZW t r e h hk
  subst he
  obtain ⟨fs,h1,h2,_,h4,h5⟩:=(PR (PS 53 _ rfl)).isInts rfl
  exact ⟨⟨fs,h1,h2,h4,h5⟩,fun x y=>⟨_,by simp only [VV,gE,PV.eqvI];rfl⟩⟩
theorem AO:Tryz.prog.follows .mixedOrders=true:=by kernel_rfl
theorem sw {A B:Out UU->Prop} (h: ∃out,A out/\B out): ∃out,B out/\A out:=by obtain ⟨o,a,b⟩:=h;exact ⟨o,b,a⟩
theorem U4 {S:Type} {b:Bool} {x y:Option S} {v:S} (h:(bif b then x else y)=some v):x=some v\/y=some v:=by
 cases b
 ·exact .inr h
 ·exact .inl h
end
end Go.Proofs.YtgajalidbabccaaGreatDoor
namespace Go.Proofs.YtgajalidbabccaaGreatDoor
open Go PI
def U32 (s:Int):Prop:=0<=s/\s<4294967296
theorem U32.nat {s:Int} (h:U32 s): ∃n:Nat,n<4294967296/\s=n:=⟨s.toNat,by have:=h.1;have:=h.2;omega,by have:=h.1;omega⟩
theorem rx {n:Nat} (h:n<4294967296):(BitVec.ofInt 32 (n:Int)).toNat=n:=by
 grind
theorem po (n:Nat) (h:n<4294967296):aj .u32 (n:Int)=n:=by
 grind [aj,IntKind.bits,IntKind.signed]
theorem l_ (n:Nat) (h:n<18446744073709551616):aj .u64 (n:Int)=n:=by
 grind [aj,IntKind.bits,IntKind.signed]
theorem Qu {n:Int} (h1: -9223372036854775808<=n) (h2:n<9223372036854775808):aj .i64 n=n:=by
 grind [aj,IntKind.bits,IntKind.signed]
theorem xq {a b n:Nat} (h:a<2^n):a&&&b<2^n:=Nat.lt_of_le_of_lt Nat.and_le_left h
theorem nV {a b:Nat} (ha:a<4294967296) (hb:b<4294967296):cF .and .u32 (a:Int) (b:Int)=((a&&&b:Nat):Int):=by
 have h1:=rx ha;have h2:=rx hb
 simp only [cF]
 show aj .u32 (((BitVec.ofInt 32 (a:Int))&&&(BitVec.ofInt 32 (b:Int))).toNat:Int)=_
 rw [BitVec.toNat_and,h1,h2]
 exact po _ (xq (n:=32) ha)
theorem xu {a b:Nat} (ha:a<4294967296) (hb:b<4294967296):cF .or .u32 (a:Int) (b:Int)=((a|||b:Nat):Int):=by
 have h1:=rx ha;have h2:=rx hb
 simp only [cF]
 show aj .u32 (((BitVec.ofInt 32 (a:Int))|||(BitVec.ofInt 32 (b:Int))).toNat:Int)=_
 rw [BitVec.toNat_or,h1,h2]
 exact po _ (Nat.or_lt_two_pow (n:=32) ha hb)
def nF (a b:Nat):Nat:=a^^^(a&&&b)
theorem tp (a b i:Nat):(nF a b).testBit i=(a.testBit i&& !b.testBit i):=by
 grind [nF]
theorem Fo {a b n:Nat} (h:a<2^n):nF a b<2^n:=Nat.xor_lt_two_pow h (xq h)
theorem C2 {a b:Nat} (ha:a<4294967296) (hb:b<4294967296):cF .andNot .u32 (a:Int) (b:Int)=((nF a b:Nat):Int):=by
 have h1:=rx ha;have h2:=rx hb
 simp only [cF]
 show aj .u32 (((BitVec.ofInt 32 (a:Int))&&& ~~~(BitVec.ofInt 32 (b:Int))).toNat:Int)=_
 have e:((BitVec.ofInt 32 (a:Int))&&& ~~~(BitVec.ofInt 32 (b:Int))).toNat=nF a b:=by
  apply Nat.eq_of_testBit_eq
  intro i
  rw [tp,BitVec.toNat_and,Nat.testBit_and,h1]
  by_cases hi:i<32
  ·grind
  ·have:a.testBit i=false:=Nat.testBit_lt_two_pow (Nat.lt_of_lt_of_le ha (by exact Nat.pow_le_pow_right (n:=2) (by decide) (show 32<=i by omega)))
   grind
 rw [e]
 exact po _ (Fo (n:=32) ha)
theorem eC {α:Type} (p:Prop) [Decidable p] (x y:α):ac (decide p) x y=if p then x else y:=by
 grind [au,ak]
theorem jR {α:Type} (c:Bool) (x y:α):ac c x y=if c=true then x else y:=by
 grind [ak,au]
abbrev Fu (k:Nat):Prop:=4294967296<=k
theorem ao {R S:Type} {k:Nat} (h:Fu k) (f:(R->OS S)->OS S) (g:R->OS S):aa k f g=f g:=Iw (by omega) f g
theorem dm {S:Type} {n m:Nat} (h:n+m<=1099511627776) (f:Unit->OS S):ag (bH 1099511627776 n m) f=f ():=by
 grind [bH]
theorem bL {α:Type} {l p r:List α} {x:α} (h:l=p++x::r) (hl:l.length<4611686018427387904):
  decide ((p.length:Int)<(l.length:Int))=true/\ar l (p.length:Int)=some x/\aj .i64 ((p.length:Int)+1)=((p++[x]).length:Int)/\l=(p++[x])++r:=by
 subst h
 rw [List.length_append,er] at hl
 refine ⟨decide_eq_true (by grind), ?_, ?_,by simp⟩
 all_goals grind [ar,aj,IntKind.bits]
theorem eL {α:Type} {l p:List α} (h:l=p++[]):decide ((p.length:Int)<(l.length:Int))=false:=by
 grind
theorem ax {n m:Nat} (h:n<m): ∃q,m=q+1/\n<=q:=⟨m-1,by omega,by omega⟩
theorem mY {S:Type} (p:Prop) [Decidable p] (h:p) (f:Unit->OS S):ag (eV p) f=f ():=by simp [eV,h]
theorem JN {α:Type} (l:List α) (i:Nat):ar l (i:Int)=l[i]? :=by rfl
end Go.Proofs.YtgajalidbabccaaGreatDoor
namespace Go.Proofs.YtgajalidbabccaaGreatDoor
open Go PI
set_option maxRecDepth 100000
noncomputable section
variable {S:Type}
abbrev lj (S:Type):=Tm->Int->(Int->OS S)->OS S
def yi (hd:lj S) (k:Nat) (J:Int->OS S) (t:Tm) (most i7:Int) (rec1:Int->Int->OS S) (rec2:Int->Int->OS S) (v5'' v8:Int):OS S:=ag (ar t.sys i7) fun x5=>ac (decide ((v8:Int)<(x5.kids.length:Int))) (ac (decide ((v5'':Int)<=most)) (ag (ar t.sys i7) fun x6=>ag (ar x6.kids v8) fun x7=>hd (ae x7) (aj .i64 (most-v5'')) fun r8=>rec2 (aj .i64 (v5''+r8)) (aj .i64 (v8+1))) (rec1 v5'' (aj .i64 (i7+1)))) (rec1 v5'' (aj .i64 (i7+1)))
def nz (hd:lj S) (k:Nat) (J:Int->OS S) (rec1:Int->Int->OS S) (t:Tm) (most i7:Int):Nat->Int->Int->OS S
 |0=>fun _ _=> .none
 |m+1=>fun v5'' v8=>yi hd k J t most i7 rec1 (nz hd k J rec1 t most i7 m) v5'' v8
def uB (hd:lj S) (k:Nat) (J:Int->OS S) (t:Tm) (most:Int) (J2:Int->Int->Int->OS S) (rec1:Int->Int->OS S) (v5' i7:Int):OS S:=ac (decide ((i7:Int)<(t.sys.length:Int))) (ac (decide ((v5':Int)<=most)) (ag (ar t.sys i7) fun x3=>ac (decide (((x3.face.length:Int):Int)>most)) (J (aj .i64 (most+1))) (ag (ar t.sys i7) fun x4=>J2 i7 (aj .i64 ((aj .i64 (v5'+1))+(x4.face.length:Int))) 0)) (J v5')) (J v5')
def mu (hd:lj S) (k:Nat) (J:Int->OS S) (t:Tm) (most:Int):Nat->Int->Int->OS S
 |0=>fun _ _=> .none
 |m+1=>fun v5' i7=>uB hd k J t most (fun i7 v5'' v8=>nz hd k J (mu hd k J t most m) t most i7 k v5'' v8) (mu hd k J t most m) v5' i7
def uA (hd:lj S) (k:Nat) (J:Int->OS S) (t:Tm) (most:Int) (J1:Int->Int->OS S) (rec0:Int->Int->OS S) (v5 i6:Int):OS S:=ac (decide ((i6:Int)<(t.kids.length:Int))) (ac (decide ((v5:Int)<=most)) (ag (ar t.kids i6) fun x1=>hd (ae x1) (aj .i64 (most-v5)) fun r2=>rec0 (aj .i64 (v5+r2)) (aj .i64 (i6+1))) (J1 v5 0)) (J1 v5 0)
def qj (hd:lj S) (k:Nat) (J:Int->OS S) (t:Tm) (most:Int):Nat->Int->Int->OS S
 |0=>fun _ _=> .none
 |m+1=>fun v5 i6=>uA hd k J t most (fun v5' i7=>mu hd k J t most k v5' i7) (qj hd k J t most m) v5 i6
def Hu (hd:lj S) (k:Nat) (J:Int->OS S) (J0:Int->Int->OS S) (t:Tm) (most:Int):OS S:=ac (decide (((t.r.length:Int):Int)>most)) (J (aj .i64 (most+1))) (ac (decide (((t.name.size:Int):Int)>most)) (J (aj .i64 (most+1))) (J0 (aj .i64 ((aj .i64 (1+(t.r.length:Int)))+(t.name.size:Int))) 0))
def kO:Nat->Tm->Int->(Int->OS S)->OS S
 |0=>fun _ _ _=> .none
 |k+1=>fun t most J=>Hu (kO k) k J (fun v5 i6=>qj (kO k) k J t most k v5 i6) t most
def nd (k:Nat) (kind kid:Int) (J:Int×Int->OS S):OS S:=ac (kind==4) (ac (kid==1) (J (1,0)) (J (0,0))) (ac (kind==7) (ac (kid==1) (J (1,0)) (J (0,0))) (ac (kind==5) (ac (kid==0) (J (1,0)) (J (0,0))) (ac (kind==22) (ac (kid==0) (J (1,0)) (J (0,0))) (ac (kind==27) (ac (kid==0) (J (1,0)) (J (0,0))) (ac (kind==11) (ac (kid==0) (J (0,1)) (J (0,0))) (ac (kind==12) (ac (kid==0) (J (0,1)) (J (0,0))) (ac (kind==14) (ac (kid==0) (J (0,1)) (J (0,0))) (J (0,0)))))))))
abbrev fY (S:Type):=Tm->Int->(Bool->OS S)->OS S
def vj (hd:fY S) (k:Nat) (a_k:Tm) (p p' c0:Int) (J:Bool->OS S):OS S:=hd (ae a_k) (aj .i64 (c0-1)) fun r1=>J r1
def yu (hd:fY S) (k:Nat) (J:Bool->OS S) (c0:Int) (t:Tm) (v42:Int) (x4:(Br Tm)) (more9:Int) (rec1:Int->Int->OS S) (rec2:Int->OS S) (v49:Int):OS S:=ac (decide ((v49:Int)<(x4.kids.length:Int))) (ag (ar x4.kids v49) fun x5=>aa k (vj hd k (ae x5) 0 more9 c0) fun r6=>ac (!r6) (J false) (rec2 (aj .i64 (v49+1)))) (rec1 (aj .i64 (v42+1)) more9)
def qm (hd:fY S) (k:Nat) (J:Bool->OS S) (rec1:Int->Int->OS S) (c0:Int) (t:Tm) (v42:Int) (x4:(Br Tm)) (more9:Int):Nat->Int->OS S
 |0=>fun _=> .none
 |m+1=>fun v49=>yu hd k J c0 t v42 x4 more9 rec1 (qm hd k J rec1 c0 t v42 x4 more9 m) v49
def uH (hd:fY S) (k:Nat) (J:Bool->OS S) (c0:Int) (t:Tm) (J2:Int->(Br Tm)->Int->Int->OS S) (rec1:Int->Int->OS S) (v42 more9:Int):OS S:=ac (decide ((v42:Int)<(t.sys.length:Int))) (ag (ar t.sys v42) fun x4=>J2 v42 x4 more9 0) (J true)
def mw (hd:fY S) (k:Nat) (J:Bool->OS S) (c0:Int) (t:Tm):Nat->Int->Int->OS S
 |0=>fun _ _=> .none
 |m+1=>fun v42 more9=>uH hd k J c0 t (fun v42 x4 more9 v49=>qm hd k J (mw hd k J c0 t m) c0 t v42 x4 more9 k v49) (mw hd k J c0 t m) v42 more9
def uG (hd:fY S) (k:Nat) (J:Bool->OS S) (c0:Int) (t:Tm) (J1:Int->Int->OS S) (rec0:Int->OS S) (v17:Int):OS S:=ac (decide ((v17:Int)<(t.kids.length:Int))) (ag (ar t.kids v17) fun x1=>aa k (nd k t.kind v17) fun r2=>aa k (vj hd k (ae x1) r2.1 r2.2 c0) fun r3=>ac (!r3) (J false) (rec0 (aj .i64 (v17+1)))) (ac (t.kind==15) (J1 0 1) (J1 0 0))
def td (hd:fY S) (k:Nat) (J:Bool->OS S) (c0:Int) (t:Tm):Nat->Int->OS S
 |0=>fun _=> .none
 |m+1=>fun v17=>uG hd k J c0 t (fun v42 more9=>mw hd k J c0 t k v42 more9) (td hd k J c0 t m) v17
def HE (hd:fY S) (k:Nat) (J:Bool->OS S) (J0:Int->OS S) (t:Tm) (c0:Int):OS S:=J0 0
def DU (hd:fY S) (k:Nat) (t:Tm) (c0:Int) (J:Bool->OS S):OS S:=HE hd k J (fun v17=>td hd k J c0 t k v17) t c0
def PL (hd:fY S) (k:Nat) (J:Bool->OS S) (t:Tm) (left:Int):OS S:=ac (decide ((left:Int)>0)) (aa k (DU hd k (ae t) left) fun r1=>J r1) (J false)
def mj:Nat->Tm->Int->(Bool->OS S)->OS S
 |0=>fun _ _ _=> .none
 |k+1=>fun t left J=>PL (mj k) k J t left
abbrev gP (S:Type):=Tm->Int->(Bool×Int->OS S)->OS S
def rQ (hd:gP S) (k:Nat) (t:Tm) (c0:Int) (J:Bool×Int->OS S):OS S:=ac (decide ((aj .i64 (c0-1):Int)>=0)) (hd (ae t) (aj .i64 (c0-1)) fun r1=>J (r1.1,r1.2)) (J (false,aj .i64 (c0-1)))
def vl (hd:gP S) (k:Nat) (a_k:Tm) (p p' c1:Int) (J:Bool×Int->OS S):OS S:=aa k (rQ hd k (ae a_k) c1) fun r1=>J (r1.1,r1.2)
def yq (hd:gP S) (k:Nat) (J:Bool×Int->OS S) (t:Tm) (v42:Int) (x4:(Br Tm)) (more9:Int) (rec1:Int->Int->Int->OS S) (rec2:Int->Int->OS S) (e1_0'' v49:Int):OS S:=ac (decide ((v49:Int)<(x4.kids.length:Int))) (ag (ar x4.kids v49) fun x5=>aa k (vl hd k (ae x5) 0 more9 e1_0'') fun r6=>ac (!r6.1) (J (false,r6.2)) (rec2 r6.2 (aj .i64 (v49+1)))) (rec1 e1_0'' (aj .i64 (v42+1)) more9)
def nA (hd:gP S) (k:Nat) (J:Bool×Int->OS S) (rec1:Int->Int->Int->OS S) (t:Tm) (v42:Int) (x4:(Br Tm)) (more9:Int):Nat->Int->Int->OS S
 |0=>fun _ _=> .none
 |m+1=>fun e1_0'' v49=>yq hd k J t v42 x4 more9 rec1 (nA hd k J rec1 t v42 x4 more9 m) e1_0'' v49
def uD (hd:gP S) (k:Nat) (J:Bool×Int->OS S) (t:Tm) (J2:Int->(Br Tm)->Int->Int->Int->OS S) (rec1:Int->Int->Int->OS S) (e1_0' v42 more9:Int):OS S:=ac (decide ((v42:Int)<(t.sys.length:Int))) (ag (ar t.sys v42) fun x4=>J2 v42 x4 more9 e1_0' 0) (J (true,e1_0'))
def lH (hd:gP S) (k:Nat) (J:Bool×Int->OS S) (t:Tm):Nat->Int->Int->Int->OS S
 |0=>fun _ _ _=> .none
 |m+1=>fun e1_0' v42 more9=>uD hd k J t (fun v42 x4 more9 e1_0'' v49=>nA hd k J (lH hd k J t m) t v42 x4 more9 k e1_0'' v49) (lH hd k J t m) e1_0' v42 more9
def uC (hd:gP S) (k:Nat) (J:Bool×Int->OS S) (t:Tm) (J1:Int->Int->Int->OS S) (rec0:Int->Int->OS S) (dp v17:Int):OS S:=ac (decide ((v17:Int)<(t.kids.length:Int))) (ag (ar t.kids v17) fun x1=>aa k (nd k t.kind v17) fun r2=>aa k (vl hd k (ae x1) r2.1 r2.2 dp) fun r3=>ac (!r3.1) (J (false,r3.2)) (rec0 r3.2 (aj .i64 (v17+1)))) (ac (t.kind==15) (J1 dp 0 1) (J1 dp 0 0))
def qk (hd:gP S) (k:Nat) (J:Bool×Int->OS S) (t:Tm):Nat->Int->Int->OS S
 |0=>fun _ _=> .none
 |m+1=>fun dp v17=>uC hd k J t (fun e1_0' v42 more9=>lH hd k J t k e1_0' v42 more9) (qk hd k J t m) dp v17
def HC (hd:gP S) (k:Nat) (J:Bool×Int->OS S) (J0:Int->Int->OS S) (t:Tm) (c1:Int):OS S:=J0 c1 0
def jE:Nat->Tm->Int->(Bool×Int->OS S)->OS S
 |0=>fun _ _ _=> .none
 |k+1=>fun t c1 J=>HC (jE k) k J (fun dp v17=>qk (jE k) k J t k dp v17) t c1
def zN (k:Nat) (t:Tm) (most:Int) (J:Bool->OS S):OS S:=aa k (rQ (jE k) k (ae t) most) fun r1=>J r1.1
def vk (k:Nat) (t:Tm) (J:Int->OS S):OS S:=mj k (ae t) 200 fun r1=>ac (!r1) (J 62) (aa k (zN k (ae t) 20000) fun r2=>ac (!r2) (J 221) (J 0))
def zK (k:Nat) (kind:Int) (J:Int->OS S):OS S:=ac (kind==1) (J 0) (ac (kind==2) (J 0) (ac (kind==3) (J 0) (ac (kind==19) (J 0) (ac (kind==20) (J 0) (ac (kind==24) (J 0) (ac (kind==25) (J 0) (ac (kind==21) (J 0) (ac (kind==5) (J 1) (ac (kind==9) (J 1) (ac (kind==10) (J 1) (ac (kind==23) (J 1) (ac (kind==12) (J 1) (ac (kind==16) (J 1) (ac (kind==17) (J 1) (ac (kind==18) (J 1) (ac (kind==26) (J 1) (ac (kind==4) (J 2) (ac (kind==7) (J 2) (ac (kind==6) (J 2) (ac (kind==8) (J 2) (ac (kind==14) (J 2) (ac (kind==15) (J 2) (ac (kind==28) (J 2) (ac (kind==11) (J 3) (ac (kind==13) (J 3) (ac (kind==22) (J 4) (ac (kind==27) (J 5) (J (-1)))))))))))))))))))))))))))))
def n7 (k:Nat) (kind:Int) (J:Int->OS S):OS S:=ac (kind==15) (J 1) (ac (kind==17) (J 1) (ac (kind==18) (J 1) (ac (kind==16) (J 2) (J 0))))
def C5 (k:Nat) (J:Bool->OS S) (s:BA) (v8:Int) (x1:UInt8) (rec0:Int->OS S) (letter5:Bool):OS S:=ac (!letter5) (ac (v8==0) (J false) (ac (decide (((x1.toNat:Int):Int)<48)) (J false) (ac (decide (((x1.toNat:Int):Int)>57)) (J false) (rec0 (aj .i64 (v8+1)))))) (rec0 (aj .i64 (v8+1)))
def AC (k:Nat) (J:Bool->OS S) (rec0:Int->OS S) (s:BA) (v8:Int) (x1:UInt8):Nat->Bool->OS S
 |0=>fun _=> .none
 |_+1=>fun letter5=>C5 k J s v8 x1 rec0 letter5
def uI (k:Nat) (J:Bool->OS S) (s:BA) (J1:Int->UInt8->Bool->OS S) (rec0:Int->OS S) (v8:Int):OS S:=ac (decide ((v8:Int)<(s.size:Int))) (ag (ar s.data.toList v8) fun x1=>ac (decide (((x1.toNat:Int):Int)>=97)) (ac (decide (((x1.toNat:Int):Int)<=122)) (J1 v8 x1 true) (ac (decide (((x1.toNat:Int):Int)>=65)) (ac (decide (((x1.toNat:Int):Int)<=90)) (J1 v8 x1 true) (J1 v8 x1 ((x1.toNat:Int)==95))) (J1 v8 x1 ((x1.toNat:Int)==95)))) (ac (decide (((x1.toNat:Int):Int)>=65)) (ac (decide (((x1.toNat:Int):Int)<=90)) (J1 v8 x1 true) (J1 v8 x1 ((x1.toNat:Int)==95))) (J1 v8 x1 ((x1.toNat:Int)==95)))) (J (!(s==aw)))
def qn (k:Nat) (J:Bool->OS S) (s:BA):Nat->Int->OS S
 |0=>fun _=> .none
 |m+1=>fun v8=>uI k J s (fun v8 x1 letter5=>AC k J (qn k J s m) s v8 x1 k letter5) (qn k J s m) v8
def HF (k:Nat) (J:Bool->OS S) (J0:Int->OS S) (s:BA):OS S:=J0 0
def zM (k:Nat) (s:BA) (J:Bool->OS S):OS S:=HF k J (fun v8=>qn k J s k v8) s
def rM (k:Nat) (s:Int) (J:Bool->OS S):OS S:=J ((cF .andNot .u32 s 16777215)==0)
def uR (k:Nat) (c:Cl) (J:Bool->OS S):OS S:=aa k (rM k c.pos) fun r1=>ac (r1) (aa k (rM k c.neg) fun r2=>J r2) (J false)
def rA (k:Nat) (a b:Cl) (J:Cl->OS S):OS S:=J (Cl.mk (cF .or .u32 a.pos b.pos) (cF .or .u32 a.neg b.neg))
def yS (k:Nat) (a b:Cl) (J:Bool->OS S):OS S:=aa k (rA k a b) fun r1=>J ((r1.pos==a.pos)&&((r1.neg==a.neg)&&true))
def yU (k:Nat) (d c0:Cl) (J:Bool->OS S):OS S:=ac (!((c0.pos==d.pos)&&((c0.neg==d.neg)&&true))) (aa k (yS k c0 d) fun r1=>J r1) (J false)
def ym (k:Nat) (J:Int->OS S) (c0:Cl) (s:LC) (rec0:Int->OS S) (v8:Int):OS S:=ac (decide ((v8:Int)<(s.length:Int))) (ag (ar s v8) fun x1=>aa k (yU k x1 c0) fun r2=>ac (r2) (J v8) (rec0 (aj .i64 (v8+1)))) (J (-1))
def s_ (k:Nat) (J:Int->OS S) (c0:Cl) (s:LC):Nat->Int->OS S
 |0=>fun _=> .none
 |m+1=>fun v8=>ym k J c0 s (s_ k J c0 s m) v8
def Hy (k:Nat) (J:Int->OS S) (J0:Int->OS S) (s:LC) (c0:Cl):OS S:=J0 0
def DS (k:Nat) (s:LC) (c0:Cl) (J:Int->OS S):OS S:=Hy k J (fun v8=>s_ k J c0 s k v8) s c0
def DQ (k:Nat) (s:LC) (c0:Cl) (J:Bool->OS S):OS S:=aa k (DS k s c0) fun r1=>J (decide ((r1:Int)>=0))
def yT (k:Nat) (c:Cl) (c0:LC) (J:Bool->OS S):OS S:=aa k (DQ k c0 c) fun r1=>J r1
def xw (k:Nat) (J:LC×Int->OS S) (b5_0:LC) (rec1:Int->(LC)->OS S) (v36:Int) (kept9:LC):OS S:=ac (decide ((v36:Int)<(b5_0.length:Int))) (ag (ar b5_0 v36) fun x4=>aa k (yT k x4 b5_0) fun r5=>ac (!r5) (ag (bH 1099511627776 kept9.length [x4].length) fun x6=>rec1 (aj .i64 (v36+1)) (kept9++[x4])) (rec1 (aj .i64 (v36+1)) kept9)) (ac (decide (((kept9.length:Int):Int)>64)) (J (([]:LC),3)) (J (sortCl kept9,0)))
def p9 (k:Nat) (J:LC×Int->OS S) (b5_0:LC):Nat->Int->(LC)->OS S
 |0=>fun _ _=> .none
 |m+1=>fun v36 kept9=>xw k J b5_0 (p9 k J b5_0 m) v36 kept9
def uo (k:Nat) (J:LC×Int->OS S) (l:LC) (J1:(LC)->Int->(LC)->OS S) (rec0:(List (Cl×Bool))->(LC)->Int->OS S) (hJ:List (Cl×Bool)) (b5_0:LC) (v15:Int):OS S:=ac (decide ((v15:Int)<(l.length:Int))) (ag (ar l v15) fun x1=>aa k (uR k x1) fun r2=>ac (!r2) (J (([]:LC),2)) (ac (!((g4 VV ET.C hJ x1).getD false)) (ag (bH 1099511627776 b5_0.length [x1].length) fun x3=>rec0 (jN VV ET.C hJ x1 true) (b5_0++[x1]) (aj .i64 (v15+1))) (rec0 hJ b5_0 (aj .i64 (v15+1))))) (J1 b5_0 0 ([]:LC))
def sr (k:Nat) (J:LC×Int->OS S) (l:LC):Nat->(List (Cl×Bool))->(LC)->Int->OS S
 |0=>fun _ _ _=> .none
 |m+1=>fun hJ b5_0 v15=>uo k J l (fun b5_0 v36 kept9=>p9 k J b5_0 k v36 kept9) (sr k J l m) hJ b5_0 v15
def GW (k:Nat) (J:LC×Int->OS S) (J0:(List (Cl×Bool))->(LC)->Int->OS S) (l:LC):OS S:=J0 ([]:List (Cl×Bool)) ([]:LC) 0
def j9 (k:Nat) (l:LC) (J:LC×Int->OS S):OS S:=GW k J (fun hJ b5_0 v15=>sr k J l k hJ b5_0 v15) l
def yl (k:Nat) (J:Bool->OS S) (s1 s2:LC) (rec0:Int->OS S) (v13:Int):OS S:=ac (decide ((v13:Int)<(s1.length:Int))) (ag (ar s1 v13) fun x1=>ag (ar s2 v13) fun x2=>ac (!((x1.pos==x2.pos)&&((x1.neg==x2.neg)&&true))) (J false) (rec0 (aj .i64 (v13+1)))) (J true)
def s9 (k:Nat) (J:Bool->OS S) (s1 s2:LC):Nat->Int->OS S
 |0=>fun _=> .none
 |m+1=>fun v13=>yl k J s1 s2 (s9 k J s1 s2 m) v13
def Hx (k:Nat) (J:Bool->OS S) (J0:Int->OS S) (s1 s2:LC):OS S:=ac (!((s1.length:Int)==(s2.length:Int))) (J false) (J0 0)
def zJ (k:Nat) (s1 s2:LC) (J:Bool->OS S):OS S:=Hx k J (fun v13=>s9 k J s1 s2 k v13) s1 s2
def lv (k:Nat) (f:LC) (J:Bool->OS S):OS S:=aa k (j9 k f) fun r1=>ac (r1.2==0) (aa k (zJ k r1.1 f) fun r2=>J r2) (J false)
def pR (k:Nat) (i:Int) (J:Bool->OS S):OS S:=ac (decide ((i:Int)>=0)) (J (decide ((i:Int)<24))) (J false)
def nc (k:Nat) (s i:Int) (J:Int->OS S):OS S:=aa k (pR k i) fun r1=>ac (!r1) (J (cF .and .u32 s 16777215)) (ag (eV (0<=(aj .u64 i))) fun x2=>J (cF .andNot .u32 (cF .and .u32 s 16777215) (aj .u32 (1*2^min (Int.toNat (aj .u64 i)) 32))))
def xM (k:Nat) (J:Int->OS S) (f:LC) (rec0:Int->Int->OS S) (s3 v8:Int):OS S:=ac (decide ((v8:Int)<(f.length:Int))) (ag (ar f v8) fun x1=>rec0 (cF .or .u32 s3 (cF .or .u32 x1.pos x1.neg)) (aj .i64 (v8+1))) (aa k (nc k s3 (-1)) fun r2=>J r2)
def sI (k:Nat) (J:Int->OS S) (f:LC):Nat->Int->Int->OS S
 |0=>fun _ _=> .none
 |m+1=>fun s3 v8=>xM k J f (sI k J f m) s3 v8
def Hb (k:Nat) (J:Int->OS S) (J0:Int->Int->OS S) (f:LC):OS S:=J0 0 0
def rD (k:Nat) (f:LC) (J:Int->OS S):OS S:=Hb k J (fun s3 v8=>sI k J f k s3 v8) f
def n8 (k:Nat) (f:LC) (dims:Int) (J:Bool->OS S):OS S:=ac (decide ((dims:Int)>=24)) (J true) (aa k (rD k f) fun r1=>ag (eV (0<=(aj .u64 dims))) fun x2=>J ((Int.fdiv r1 (2^min (Int.toNat (aj .u64 dims)) 32))==0))
def uQ (k:Nat) (c:Cl) (J:Bool->OS S):OS S:=J (!((cF .and .u32 c.pos c.neg)==0))
def yn (k:Nat) (J:Int->OS S) (s:LC) (rec0:Int->OS S) (v8:Int):OS S:=ac (decide ((v8:Int)<(s.length:Int))) (ag (ar s v8) fun x1=>aa k (uQ k x1) fun r2=>ac (r2) (J v8) (rec0 (aj .i64 (v8+1)))) (J (-1))
def ta (k:Nat) (J:Int->OS S) (s:LC):Nat->Int->OS S
 |0=>fun _=> .none
 |m+1=>fun v8=>yn k J s (ta k J s m) v8
def Hz (k:Nat) (J:Int->OS S) (J0:Int->OS S) (s:LC):OS S:=J0 0
def DT (k:Nat) (s:LC) (J:Int->OS S):OS S:=Hz k J (fun v8=>ta k J s k v8) s
def DR (k:Nat) (s:LC) (J:Bool->OS S):OS S:=aa k (DT k s) fun r1=>J (decide ((r1:Int)>=0))
def m7 (k:Nat) (f:LC) (J:Bool->OS S):OS S:=aa k (lv k f) fun r1=>ac (r1) (aa k (DR k f) fun r2=>J (!r2)) (J false)
def yv (k:Nat) (J:Bool->OS S) (t:Tm) (dims:Int) (rec1:Int->OS S) (v109:Int):OS S:=ac (decide ((v109:Int)<(t.sys.length:Int))) (ag (ar t.sys v109) fun x12=>aa k (n7 k t.kind) fun r13=>ac (!((x12.kids.length:Int)==r13)) (J false) (aa k (m7 k x12.face) fun r14=>ac (!r14) (J false) (aa k (n8 k x12.face dims) fun r15=>ac (!r15) (J false) (rec1 (aj .i64 (v109+1)))))) (J ((t.r.length:Int)==0))
def nC (k:Nat) (J:Bool->OS S) (t:Tm) (dims:Int):Nat->Int->OS S
 |0=>fun _=> .none
 |m+1=>fun v109=>yv k J t dims (nC k J t dims m) v109
def uJ (k:Nat) (J:Bool->OS S) (t:Tm) (vars dims:Int) (J1:Int->OS S):OS S:=ac (t.kind==1) (ac ((t.r.length:Int)==0) (ac (decide ((t.n:Int)>=0)) (ac (decide ((vars:Int)<0)) (J true) (J (decide ((t.n:Int)<vars)))) (J false)) (J false)) (ac (t.kind==2) (ac ((t.r.length:Int)==0) (aa k (zM k t.name) fun r3=>J r3) (J false)) (ac (t.kind==13) (aa k (lv k t.r) fun r4=>ac (r4) (aa k (n8 k t.r dims) fun r5=>J r5) (J false)) (ac (t.kind==21) (aa k (lv k t.r) fun r6=>ac (r6) (aa k (n8 k t.r dims) fun r7=>J r7) (J false)) (ac (t.kind==26) (aa k (lv k t.r) fun r8=>ac (r8) (aa k (n8 k t.r dims) fun r9=>J r9) (J false)) (ac (t.kind==14) (aa k (m7 k t.r) fun r10=>ac (r10) (aa k (n8 k t.r dims) fun r11=>J r11) (J false)) (J1 0))))))
def AD (k:Nat) (J:Bool->OS S) (t:Tm) (vars dims:Int):Nat->OS S
 |0=> .none
 |_+1=>uJ k J t vars dims (fun v109=>nC k J t dims k v109)
def HG (k:Nat) (J:Bool->OS S) (J0:OS S) (t:Tm) (vars dims:Int):OS S:=aa k (zK k t.kind) fun r1=>ac (!(r1==(t.kids.length:Int))) (J false) (ac (!(t.kind==1)) (ac (!(t.n==0)) (J false) (ac (!(t.kind==2)) (ac (!(t.name==aw)) (J false) (aa k (n7 k t.kind) fun r2=>ac (r2==0) (ac (decide (((t.sys.length:Int):Int)>0)) (J false) (J0)) (J0))) (aa k (n7 k t.kind) fun r16=>ac (r16==0) (ac (decide (((t.sys.length:Int):Int)>0)) (J false) (J0)) (J0)))) (ac (!(t.kind==2)) (ac (!(t.name==aw)) (J false) (aa k (n7 k t.kind) fun r17=>ac (r17==0) (ac (decide (((t.sys.length:Int):Int)>0)) (J false) (J0)) (J0))) (aa k (n7 k t.kind) fun r18=>ac (r18==0) (ac (decide (((t.sys.length:Int):Int)>0)) (J false) (J0)) (J0))))
def vi (k:Nat) (t:Tm) (vars dims:Int) (J:Bool->OS S):OS S:=HG k J (AD k J t vars dims k) t vars dims
abbrev fX (S:Type):=Tm->Int->Int->Bool->(Bool->OS S)->OS S
def vg (hd:fX S) (k:Nat) (a_k:Tm) (v d c0 c1:Int) (c2:Bool) (J:Bool->OS S):OS S:=ac (decide ((c0:Int)<0)) (hd (ae a_k) (aj .i64 (c0+0)) (aj .i64 (c1+d)) c2 fun r1=>J r1) (hd (ae a_k) (aj .i64 (c0+v)) (aj .i64 (c1+d)) c2 fun r2=>J r2)
def yr (hd:fX S) (k:Nat) (J:Bool->OS S) (c0 c1:Int) (c2:Bool) (t:Tm) (v42:Int) (x4:(Br Tm)) (more9:Int) (rec1:Int->Int->OS S) (rec2:Int->OS S) (v49:Int):OS S:=ac (decide ((v49:Int)<(x4.kids.length:Int))) (ag (ar x4.kids v49) fun x5=>aa k (vg hd k (ae x5) 0 more9 c0 c1 c2) fun r6=>ac (!r6) (J false) (rec2 (aj .i64 (v49+1)))) (rec1 (aj .i64 (v42+1)) more9)
def oO (hd:fX S) (k:Nat) (J:Bool->OS S) (rec1:Int->Int->OS S) (c0 c1:Int) (c2:Bool) (t:Tm) (v42:Int) (x4:(Br Tm)) (more9:Int):Nat->Int->OS S
 |0=>fun _=> .none
 |m+1=>fun v49=>yr hd k J c0 c1 c2 t v42 x4 more9 rec1 (oO hd k J rec1 c0 c1 c2 t v42 x4 more9 m) v49
def uF (hd:fX S) (k:Nat) (J:Bool->OS S) (c0 c1:Int) (c2:Bool) (t:Tm) (J2:Int->(Br Tm)->Int->Int->OS S) (rec1:Int->Int->OS S) (v42 more9:Int):OS S:=ac (decide ((v42:Int)<(t.sys.length:Int))) (ag (ar t.sys v42) fun x4=>J2 v42 x4 more9 0) (J true)
def lJ (hd:fX S) (k:Nat) (J:Bool->OS S) (c0 c1:Int) (c2:Bool) (t:Tm):Nat->Int->Int->OS S
 |0=>fun _ _=> .none
 |m+1=>fun v42 more9=>uF hd k J c0 c1 c2 t (fun v42 x4 more9 v49=>oO hd k J (lJ hd k J c0 c1 c2 t m) c0 c1 c2 t v42 x4 more9 k v49) (lJ hd k J c0 c1 c2 t m) v42 more9
def uE (hd:fX S) (k:Nat) (J:Bool->OS S) (c0 c1:Int) (c2:Bool) (t:Tm) (J1:Int->Int->OS S) (rec0:Int->OS S) (v17:Int):OS S:=ac (decide ((v17:Int)<(t.kids.length:Int))) (ag (ar t.kids v17) fun x1=>aa k (nd k t.kind v17) fun r2=>aa k (vg hd k (ae x1) r2.1 r2.2 c0 c1 c2) fun r3=>ac (!r3) (J false) (rec0 (aj .i64 (v17+1)))) (ac (t.kind==15) (J1 0 1) (J1 0 0))
def ql (hd:fX S) (k:Nat) (J:Bool->OS S) (c0 c1:Int) (c2:Bool) (t:Tm):Nat->Int->OS S
 |0=>fun _=> .none
 |m+1=>fun v17=>uE hd k J c0 c1 c2 t (fun v42 more9=>lJ hd k J c0 c1 c2 t k v42 more9) (ql hd k J c0 c1 c2 t m) v17
def HD (hd:fX S) (k:Nat) (J:Bool->OS S) (J0:Int->OS S) (t:Tm) (c0 c1:Int) (c2:Bool):OS S:=J0 0
def zL (hd:fX S) (k:Nat) (t:Tm) (c0 c1:Int) (c2:Bool) (J:Bool->OS S):OS S:=HD hd k J (fun v17=>ql hd k J c0 c1 c2 t k v17) t c0 c1 c2
def PK (hd:fX S) (k:Nat) (J:Bool->OS S) (t:Tm) (vars dims:Int) (bound:Bool):OS S:=ac (bound) (ac (decide ((dims:Int)>24)) (J false) (aa k (vi k (ae t) vars dims) fun r1=>ac (!r1) (J false) (aa k (zL hd k (ae t) vars dims bound) fun r2=>J r2))) (aa k (vi k (ae t) vars dims) fun r3=>ac (!r3) (J false) (aa k (zL hd k (ae t) vars dims bound) fun r4=>J r4))
def jD:Nat->Tm->Int->Int->Bool->(Bool->OS S)->OS S
 |0=>fun _ _ _ _ _=> .none
 |k+1=>fun t vars dims bound J=>PK (jD k) k J t vars dims bound
def lw (k:Nat) (t:Tm) (J:Int->OS S):OS S:=aa k (vk k (ae t)) fun r1=>ac (!(r1==0)) (J r1) (jD k (ae t) (-1) 24 false fun r2=>ac (!r2) (J 100) (J 0))
abbrev jb (S:Type):=Tm->(Tm->OS S)->OS S
def yp (hd:jb S) (k:Nat) (J:LT->OS S) (l:LT) (rec0:(LT)->Int->OS S) (out3:LT) (v8:Int):OS S:=ac (decide ((v8:Int)<(l.length:Int))) (ag (ar l v8) fun x1=>hd (ae x1) fun r2=>ag (bH 1099511627776 out3.length [(ae r2)].length) fun x3=>rec0 (out3++[(ae r2)]) (aj .i64 (v8+1))) (J out3)
def tc (hd:jb S) (k:Nat) (J:LT->OS S) (l:LT):Nat->(LT)->Int->OS S
 |0=>fun _ _=> .none
 |m+1=>fun out3 v8=>yp hd k J l (tc hd k J l m) out3 v8
def HB (hd:jb S) (k:Nat) (J:LT->OS S) (J0:(LT)->Int->OS S) (l:LT):OS S:=J0 ([]:LT) 0
def vh (hd:jb S) (k:Nat) (l:LT) (J:LT->OS S):OS S:=HB hd k J (fun out3 v8=>tc hd k J l k out3 v8) l
def yo (hd:jb S) (k:Nat) (J:Tm->OS S) (t:Tm) (r1:LC) (r2:LT) (rec0:(LB)->Int->OS S) (b3_5:LB) (v22:Int):OS S:=ac (decide ((v22:Int)<(t.sys.length:Int))) (ag (ar t.sys v22) fun x3=>tv x3.face fun r4=>aa k (vh hd k x3.kids) fun r5=>ag (bH 1099511627776 b3_5.length [(Br.mk r4 r5)].length) fun x6=>rec0 (b3_5++[(Br.mk r4 r5)]) (aj .i64 (v22+1))) (J (Tm.mk t.kind t.n t.name r1 r2 b3_5))
def tb (hd:jb S) (k:Nat) (J:Tm->OS S) (t:Tm) (r1:LC) (r2:LT):Nat->(LB)->Int->OS S
 |0=>fun _ _=> .none
 |m+1=>fun b3_5 v22=>yo hd k J t r1 r2 (tb hd k J t r1 r2 m) b3_5 v22
def HA (hd:jb S) (k:Nat) (J:Tm->OS S) (J0:(LC)->(LT)->(LB)->Int->OS S) (t:Tm):OS S:=tv t.r fun r1=>aa k (vh hd k t.kids) fun r2=>J0 r1 r2 ([]:LB) 0
def fF:Nat->Tm->(Tm->OS S)->OS S
 |0=>fun _ _=> .none
 |k+1=>fun t J=>HA (fF k) k J (fun r1 r2 b3_5 v22=>tb (fF k) k J t r1 r2 k b3_5 v22) t
def kN (k:Nat) (t:Tm) (a_e c0:Int) (J:Tm×Int->OS S):OS S:=ac (c0==0) (ac (!(a_e==0)) (J ((Tm.mk 0 0 aw [] [] []),a_e)) (J ((ae t),a_e))) (ac (!(c0==0)) (J ((Tm.mk 0 0 aw [] [] []),c0)) (J ((ae t),c0)))
def fE (k:Nat) (c0:Int) (J:Bool->OS S):OS S:=J (c0==0)
def mi (k:Nat) (t:Tm) (c0:Int) (J:Tm×Bool×Int×Int->OS S):OS S:=aa k (lw k (ae t)) fun r1=>aa k (kN k (ae t) r1 c0) fun r2=>fF k (ae r2.1) fun r3=>aa k (fE k r2.2) fun r4=>J ((ae r3),r4,r2.2,r2.2)
def xS (k:Nat) (J:Int->OS S) (l:List (LC)) (rec0:Int->OS S) (v7:Int):OS S:=ac (decide ((v7:Int)<(l.length:Int))) (ag (ar l v7) fun x1=>aa k (lv k x1) fun r2=>ac (!r2) (J 2) (rec0 (aj .i64 (v7+1)))) (J 0)
def sN (k:Nat) (J:Int->OS S) (l:List (LC)):Nat->Int->OS S
 |0=>fun _=> .none
 |m+1=>fun v7=>xS k J l (sN k J l m) v7
def Hi (k:Nat) (J:Int->OS S) (J0:Int->OS S) (l:List (LC)):OS S:=J0 0
def rF (k:Nat) (l:List (LC)) (J:Int->OS S):OS S:=Hi k J (fun v7=>sN k J l k v7) l
def pN (k:Nat) (J:LC->OS S):OS S:=J ([]:LC)
def rN (k:Nat) (i:Int) (J:Int->OS S):OS S:=ag (eV (0<=(aj .u64 (if 24<i then 24 else i)))) fun x1=>J (aj .u32 (aj .u64 ((aj .u64 (1*2^min (Int.toNat (aj .u64 (if 24<i then 24 else i))) 64))-1)))
def n5 (k:Nat) (s a_from a_by:Int) (J:Int×Int->OS S):OS S:=ac (decide ((a_from:Int)<0)) (J (0,2)) (ac (decide ((a_by:Int)<0)) (J (0,2)) (aa k (rN k a_from) fun r1=>aa k (rN k a_from) fun r2=>ac ((aj .u64 (cF .andNot .u32 (cF .and .u32 s 16777215) r2))==0) (J (cF .and .u32 (cF .and .u32 s 16777215) r1,0)) (ac (decide ((a_by:Int)>=24)) (J (0,10)) (ag (eV (0<=(aj .u64 a_by))) fun x3=>ac (decide ((aj .u64 ((aj .u64 (cF .andNot .u32 (cF .and .u32 s 16777215) r2))*2^min (Int.toNat (aj .u64 a_by)) 64):Int)>16777215)) (J (0,10)) (ag (eV (0<=(aj .u64 a_by))) fun x4=>J (cF .or .u32 (cF .and .u32 (cF .and .u32 s 16777215) r1) (aj .u32 (aj .u64 ((aj .u64 (cF .andNot .u32 (cF .and .u32 s 16777215) r2))*2^min (Int.toNat (aj .u64 a_by)) 64))),0))))))
def yV (k:Nat) (c:Cl) (a_from a_by:Int) (J:Cl×Int->OS S):OS S:=aa k (uR k c) fun r1=>ac (!r1) (J ((Cl.mk 0 0),2)) (aa k (n5 k c.pos a_from a_by) fun r2=>ac (!(r2.2==0)) (J ((Cl.mk 0 0),r2.2)) (aa k (n5 k c.neg a_from a_by) fun r3=>ac (!(r3.2==0)) (J ((Cl.mk 0 0),r3.2)) (J ((Cl.mk r2.1 r3.1),0))))
def DG (k:Nat) (a_have:LC) (c:Cl) (c0 c1:Int) (J:LC×Int->OS S):OS S:=aa k (yV k c c0 c1) fun r1=>ag (bH 1099511627776 a_have.length [r1.1].length) fun x2=>J (a_have++[r1.1],r1.2)
def xP (k:Nat) (J:LC×Int->OS S) (c0 c1:Int) (l:LC) (rec0:(LC)->Int->OS S) (v1:LC) (v15:Int):OS S:=ac (decide ((v15:Int)<(l.length:Int))) (ag (ar l v15) fun x1=>aa k (DG k v1 x1 c0 c1) fun r2=>ac (!(r2.2==0)) (J (([]:LC),r2.2)) (rec0 r2.1 (aj .i64 (v15+1)))) (J (v1,0))
def sL (k:Nat) (J:LC×Int->OS S) (c0 c1:Int) (l:LC):Nat->(LC)->Int->OS S
 |0=>fun _ _=> .none
 |m+1=>fun v1 v15=>xP k J c0 c1 l (sL k J c0 c1 l m) v1 v15
def Hf (k:Nat) (J:LC×Int->OS S) (J0:(LC)->Int->OS S) (l a_from:LC) (c0 c1:Int):OS S:=J0 a_from 0
def zj (k:Nat) (l a_from:LC) (c0 c1:Int) (J:LC×Int->OS S):OS S:=Hf k J (fun v1 v15=>sL k J c0 c1 l k v1 v15) l a_from c0 c1
def n3 (k:Nat) (f:LC) (a_from a_by:Int) (J:LC×Int->OS S):OS S:=aa k (rF k [f]) fun r1=>ac (!(r1==0)) (J (([]:LC),r1)) (aa k (pN k) fun r2=>aa k (zj k f r2 a_from a_by) fun r3=>ac (!(r3.2==0)) (J (([]:LC),r3.2)) (aa k (j9 k r3.1) fun r4=>J (r4.1,r4.2)))
def vc (k:Nat) (l_0 l_1:Int) (f:LC) (a_from:Int) (J:Pan Int (LC)->OS S):OS S:=ac (l_1==0) (ag (bH 1099511627776 0 f.length) fun x1=>J (.ok f)) (ac (decide ((a_from:Int)>=24)) (ag (bH 1099511627776 0 f.length) fun x2=>J (.ok f)) (aa k (n3 k f a_from l_1) fun r3=>ac (!(r3.2==0)) (J (.pan r3.2)) (J (.ok r3.1))))
abbrev jT (S:Type):=Int->Int->Tm->Int->Int->(Pan Int Tm->OS S)->OS S
def yg (hd:jT S) (k:Nat) (J:Pan Int Tm->OS S) (r12:LC) (l_0 l_1:Int) (t:Tm) (bP:Int) (r2:LC) (b9_4:LT) (b9_5:LB) (x10:(Br Tm)) (more14 v d v90:Int) (rec2:(LB)->Int->Int->OS S) (rec3:(LT)->Int->OS S) (b17_1:LT) (v103:Int):OS S:=ac (decide ((v103:Int)<(x10.kids.length:Int))) (ag (ar x10.kids v103) fun x14=>hd l_0 l_1 (ae x14) v (aj .i64 (d+more14)) fun r16=>Pan.elim r16 (fun r16=>ag (bH 1099511627776 b17_1.length [(ae r16)].length) fun x18=>rec3 (b17_1++[(ae r16)]) (aj .i64 (v103+1))) (fun e17=>J (.pan e17))) (ag (bH 1099511627776 b9_5.length [(Br.mk r12 b17_1)].length) fun x19=>rec2 (b9_5++[(Br.mk r12 b17_1)]) more14 (aj .i64 (v90+1)))
def oN (hd:jT S) (k:Nat) (J:Pan Int Tm->OS S) (rec2:(LB)->Int->Int->OS S) (r12:LC) (l_0 l_1:Int) (t:Tm) (bP:Int) (r2:LC) (b9_4:LT) (b9_5:LB) (x10:(Br Tm)) (more14 v d v90:Int):Nat->(LT)->Int->OS S
 |0=>fun _ _=> .none
 |m+1=>fun b17_1 v103=>yg hd k J r12 l_0 l_1 t bP r2 b9_4 b9_5 x10 more14 v d v90 rec2 (oN hd k J rec2 r12 l_0 l_1 t bP r2 b9_4 b9_5 x10 more14 v d v90 m) b17_1 v103
def uz (hd:jT S) (k:Nat) (J:Pan Int Tm->OS S) (l_0 l_1:Int) (t:Tm) (bP:Int) (r2:LC) (b9_4:LT) (v d:Int) (J3:(LC)->(LB)->(Br Tm)->Int->Int->(LT)->Int->OS S) (rec2:(LB)->Int->Int->OS S) (b9_5:LB) (more14 v90:Int):OS S:=ac (decide ((v90:Int)<(t.sys.length:Int))) (ag (ar t.sys v90) fun x10=>aa k (vc k l_0 l_1 x10.face d) fun r12=>Pan.elim r12 (fun r12=>J3 r12 b9_5 x10 more14 v90 ([]:LT) 0) (fun e13=>J (.pan e13))) (J (.ok (Tm.mk t.kind bP t.name r2 b9_4 b9_5)))
def lE (hd:jT S) (k:Nat) (J:Pan Int Tm->OS S) (l_0 l_1:Int) (t:Tm) (bP:Int) (r2:LC) (b9_4:LT) (v d:Int):Nat->(LB)->Int->Int->OS S
 |0=>fun _ _ _=> .none
 |m+1=>fun b9_5 more14 v90=>uz hd k J l_0 l_1 t bP r2 b9_4 v d (fun r12 b9_5 x10 more14 v90 b17_1 v103=>oN hd k J (lE hd k J l_0 l_1 t bP r2 b9_4 v d m) r12 l_0 l_1 t bP r2 b9_4 b9_5 x10 more14 v d v90 k b17_1 v103) (lE hd k J l_0 l_1 t bP r2 b9_4 v d m) b9_5 more14 v90
def uy (hd:jT S) (k:Nat) (J:Pan Int Tm->OS S) (l_0 l_1:Int) (t:Tm) (bP:Int) (r2:LC) (v d:Int) (J2:(LT)->(LB)->Int->Int->OS S) (rec1:(LT)->Int->OS S) (b9_4:LT) (v57:Int):OS S:=ac (decide ((v57:Int)<(t.kids.length:Int))) (ag (ar t.kids v57) fun x4=>aa k (nd k t.kind v57) fun r5=>hd l_0 l_1 (ae x4) (aj .i64 (v+r5.1)) (aj .i64 (d+r5.2)) fun r7=>Pan.elim r7 (fun r7=>ag (bH 1099511627776 b9_4.length [(ae r7)].length) fun x9=>rec1 (b9_4++[(ae r7)]) (aj .i64 (v57+1))) (fun e8=>J (.pan e8))) (ac (t.kind==15) (J2 b9_4 ([]:LB) 1 0) (J2 b9_4 ([]:LB) 0 0))
def ny (hd:jT S) (k:Nat) (J:Pan Int Tm->OS S) (l_0 l_1:Int) (t:Tm) (bP:Int) (r2:LC) (v d:Int):Nat->(LT)->Int->OS S
 |0=>fun _ _=> .none
 |m+1=>fun b9_4 v57=>uy hd k J l_0 l_1 t bP r2 v d (fun b9_4 b9_5 more14 v90=>lE hd k J l_0 l_1 t bP r2 b9_4 v d k b9_5 more14 v90) (ny hd k J l_0 l_1 t bP r2 v d m) b9_4 v57
def C4 (hd:jT S) (k:Nat) (J:Pan Int Tm->OS S) (l_0 l_1:Int) (t:Tm) (r2:LC) (v d:Int) (J1:Int->(LT)->Int->OS S) (bP:Int):OS S:=J1 bP ([]:LT) 0
def vL (hd:jT S) (k:Nat) (J:Pan Int Tm->OS S) (l_0 l_1:Int) (t:Tm) (r2:LC) (v d:Int):Nat->Int->OS S
 |0=>fun _=> .none
 |_+1=>fun bP=>C4 hd k J l_0 l_1 t r2 v d (fun bP b9_4 v57=>ny hd k J l_0 l_1 t bP r2 v d k b9_4 v57) bP
def Hs (hd:jT S) (k:Nat) (J:Pan Int Tm->OS S) (J0:(LC)->Int->OS S) (l_0 l_1:Int) (t:Tm) (v d:Int):OS S:=aa k (vc k l_0 l_1 t.r d) fun r2=>Pan.elim r2 (fun r2=>ac (t.kind==1) (ac (decide ((t.n:Int)>=v)) (ac (decide ((t.n:Int)>(aj .i64 (1000000000-l_0)))) (J (.pan 100)) (J0 r2 (aj .i64 (t.n+l_0)))) (J0 r2 t.n)) (J0 r2 t.n)) (fun e3=>J (.pan e3))
def gF:Nat->Int->Int->Tm->Int->Int->(Pan Int Tm->OS S)->OS S
 |0=>fun _ _ _ _ _ _=> .none
 |k+1=>fun l_0 l_1 t v d J=>Hs (gF k) k J (fun r2 bP=>vL (gF k) k J l_0 l_1 t r2 v d k bP) l_0 l_1 t v d
def zA (k:Nat) (c0 c1:Int) (c2:Tm) (J:Pan Int Tm->OS S):OS S:=gF k c1 0 (ae c2) 0 0 fun r2=>Pan.elim r2 (fun r2=>gF k 0 c0 (ae r2) 0 0 fun r5=>Pan.elim r5 (fun r5=>J (.ok (ae r5))) (fun e6=>J (.pan e6))) (fun e3=>J (.pan e3))
def yf (k:Nat) (J:Tm×Int->OS S) (c0 c1:Int) (c2:Tm) (numbers:List Int) (rec0:Int->OS S) (v19:Int):OS S:=ac (decide ((v19:Int)<(numbers.length:Int))) (ag (ar numbers v19) fun x2=>ac (decide ((x2:Int)<0)) (J ((Tm.mk 0 0 aw [] [] []),2)) (rec0 (aj .i64 (v19+1)))) (aa k (zA k c0 c1 (ae c2)) fun r4=>Pan.elim r4 (fun r4=>J ((ae r4),0)) (fun e5=>J ((Tm.mk 0 0 aw [] [] []),e5)))
def qi (k:Nat) (J:Tm×Int->OS S) (c0 c1:Int) (c2:Tm) (numbers:List Int):Nat->Int->OS S
 |0=>fun _=> .none
 |m+1=>fun v19=>yf k J c0 c1 c2 numbers (qi k J c0 c1 c2 numbers m) v19
def B2 (k:Nat) (J:Tm×Int->OS S) (J0:Int->OS S) (t:Tm) (numbers:List Int) (c0 c1:Int) (c2:Tm):OS S:=aa k (lw k (ae t)) fun r1=>ac (!(r1==0)) (J ((Tm.mk 0 0 aw [] [] []),r1)) (J0 0)
def zD (k:Nat) (t:Tm) (numbers:List Int) (c0 c1:Int) (c2:Tm) (J:Tm×Int->OS S):OS S:=B2 k J (fun v19=>qi k J c0 c1 c2 numbers k v19) t numbers c0 c1 c2
def pQ (k:Nat) (t:Tm) (vars dims:Int) (J:Tm×Int->OS S):OS S:=aa k (zD k (ae t) [vars,dims,aj .i64 (1000000-vars)] dims vars (ae t)) fun r1=>J ((ae r1.1),r1.2)
def j_ (k:Nat) (t:Tm) (vars dims c0:Int) (J:Tm×Int->OS S):OS S:=aa k (fE k c0) fun r1=>ac (!r1) (J ((Tm.mk 0 0 aw [] [] []),c0)) (aa k (pQ k (ae t) vars dims) fun r2=>aa k (kN k (ae r2.1) r2.2 c0) fun r3=>J ((ae r3.1),r3.2))
def kK (k:Nat) (a_e c0:Int) (J:Int->OS S):OS S:=ac (c0==0) (J a_e) (J c0)
def xv (k:Nat) (J:Int->OS S) (l:LT) (rec0:Int->Int->OS S) (j5 v10:Int):OS S:=ac (decide ((v10:Int)<(l.length:Int))) (ag (ar l v10) fun x1=>aa k (lw k (ae x1)) fun r2=>aa k (kK k r2 j5) fun r3=>rec0 r3 (aj .i64 (v10+1))) (J j5)
def sq (k:Nat) (J:Int->OS S) (l:LT):Nat->Int->Int->OS S
 |0=>fun _ _=> .none
 |m+1=>fun j5 v10=>xv k J l (sq k J l m) j5 v10
def GV (k:Nat) (J:Int->OS S) (J0:Int->Int->OS S) (l:LT):OS S:=J0 0 0
def m6 (k:Nat) (l:LT) (J:Int->OS S):OS S:=GV k J (fun j5 v10=>sq k J l k j5 v10) l
def ew (k:Nat) (c0:Int) (J:Bool->OS S):OS S:=J (c0==0)
def mg (k:Nat) (f:LC) (c0:Int) (J:LC×Int->OS S):OS S:=aa k (ew k c0) fun r1=>ac (!r1) (J (([]:LC),c0)) (aa k (n3 k f 0 1) fun r2=>aa k (kK k r2.2 c0) fun r3=>J (r2.1,r3))
def xL (k:Nat) (J:Int->OS S) (l:List (LC)) (rec0:Int->OS S) (v7:Int):OS S:=ac (decide ((v7:Int)<(l.length:Int))) (ag (ar l v7) fun x1=>aa k (m7 k x1) fun r2=>ac (!r2) (J 2) (rec0 (aj .i64 (v7+1)))) (J 0)
def sH (k:Nat) (J:Int->OS S) (l:List (LC)):Nat->Int->OS S
 |0=>fun _=> .none
 |m+1=>fun v7=>xL k J l (sH k J l m) v7
def Ha (k:Nat) (J:Int->OS S) (J0:Int->OS S) (l:List (LC)):OS S:=J0 0
def ze (k:Nat) (l:List (LC)) (J:Int->OS S):OS S:=Ha k J (fun v7=>sH k J l k v7) l
def uZ (k:Nat) (f g:LC) (J:LC×Int->OS S):OS S:=ag (bH 1099511627776 ([]:LC).length f.length) fun x1=>ag (bH 1099511627776 (([]:LC)++f).length g.length) fun x2=>aa k (j9 k ((([]:LC)++f)++g)) fun r3=>J (r3.1,r3.2)
def y9 (k:Nat) (f g:LC) (J:LC×Int->OS S):OS S:=aa k (ze k [f,g]) fun r1=>ac (!(r1==0)) (J (([]:LC),r1)) (aa k (uZ k f g) fun r2=>J (r2.1,r2.2))
def nZ (k:Nat) (f g:LC) (c0:Int) (J:LC×Int->OS S):OS S:=aa k (ew k c0) fun r1=>ac (!r1) (J (([]:LC),c0)) (aa k (y9 k f g) fun r2=>aa k (kK k r2.2 c0) fun r3=>J (r2.1,r3))
def zC (k:Nat) (c0:Int) (c1:Tm) (c2:Int) (J:Pan Int Tm->OS S):OS S:=gF k 0 c0 (ae c1) 0 (if 24<c2 then 24 else c2) fun r2=>Pan.elim r2 (fun r2=>J (.ok (ae r2))) (fun e3=>J (.pan e3))
def ye (k:Nat) (J:Tm×Int->OS S) (c0:Int) (c1:Tm) (c2:Int) (numbers:List Int) (rec0:Int->OS S) (v19:Int):OS S:=ac (decide ((v19:Int)<(numbers.length:Int))) (ag (ar numbers v19) fun x2=>ac (decide ((x2:Int)<0)) (J ((Tm.mk 0 0 aw [] [] []),2)) (rec0 (aj .i64 (v19+1)))) (aa k (zC k c0 (ae c1) c2) fun r4=>Pan.elim r4 (fun r4=>J ((ae r4),0)) (fun e5=>J ((Tm.mk 0 0 aw [] [] []),e5)))
def qh (k:Nat) (J:Tm×Int->OS S) (c0:Int) (c1:Tm) (c2:Int) (numbers:List Int):Nat->Int->OS S
 |0=>fun _=> .none
 |m+1=>fun v19=>ye k J c0 c1 c2 numbers (qh k J c0 c1 c2 numbers m) v19
def Hr (k:Nat) (J:Tm×Int->OS S) (J0:Int->OS S) (t:Tm) (numbers:List Int) (c0:Int) (c1:Tm) (c2:Int):OS S:=aa k (lw k (ae t)) fun r1=>ac (!(r1==0)) (J ((Tm.mk 0 0 aw [] [] []),r1)) (J0 0)
def DP (k:Nat) (t:Tm) (numbers:List Int) (c0:Int) (c1:Tm) (c2:Int) (J:Tm×Int->OS S):OS S:=Hr k J (fun v19=>qh k J c0 c1 c2 numbers k v19) t numbers c0 c1 c2
def zB (k:Nat) (t:Tm) (a_from a_by:Int) (J:Tm×Int->OS S):OS S:=aa k (DP k (ae t) [a_from,a_by] a_by (ae t) a_from) fun r1=>J ((ae r1.1),r1.2)
def mh (k:Nat) (s i:Int) (J:Int->OS S):OS S:=aa k (pR k i) fun r1=>ac (!r1) (J (cF .and .u32 s 16777215)) (ag (eV (0<=(aj .u64 i))) fun x2=>J (cF .or .u32 (cF .and .u32 s 16777215) (aj .u32 (1*2^min (Int.toNat (aj .u64 i)) 32))))
def IN (k:Nat) (a_x:Int) (J:Int->OS S):OS S:=ag (ar (ByteArray.mk #[0,1,1,2,1,2,2,3,1,2,2,3,2,3,3,4,1,2,2,3,2,3,3,4,2,3,3,4,3,4,4,5,1,2,2,3,2,3,3,4,2,3,3,4,3,4,4,5,2,3,3,4,3,4,4,5,3,4,4,5,4,5,5,6,1,2,2,3,2,3,3,4,2,3,3,4,3,4,4,5,2,3,3,4,3,4,4,5,3,4,4,5,4,5,5,6,2,3,3,4,3,4,4,5,3,4,4,5,4,5,5,6,3,4,4,5,4,5,5,6,4,5,5,6,5,6,6,7,1,2,2,3,2,3,3,4,2,3,3,4,3,4,4,5,2,3,3,4,3,4,4,5,3,4,4,5,4,5,5,6,2,3,3,4,3,4,4,5,3,4,4,5,4,5,5,6,3,4,4,5,4,5,5,6,4,5,5,6,5,6,6,7,2,3,3,4,3,4,4,5,3,4,4,5,4,5,5,6,3,4,4,5,4,5,5,6,4,5,5,6,5,6,6,7,3,4,4,5,4,5,5,6,4,5,5,6,5,6,6,7,4,5,5,6,5,6,6,7,5,6,6,7,6,7,7,8]).data.toList (Int.fdiv a_x (2^min (Int.toNat 24) 32))) fun x1=>ag (ar (ByteArray.mk #[0,1,1,2,1,2,2,3,1,2,2,3,2,3,3,4,1,2,2,3,2,3,3,4,2,3,3,4,3,4,4,5,1,2,2,3,2,3,3,4,2,3,3,4,3,4,4,5,2,3,3,4,3,4,4,5,3,4,4,5,4,5,5,6,1,2,2,3,2,3,3,4,2,3,3,4,3,4,4,5,2,3,3,4,3,4,4,5,3,4,4,5,4,5,5,6,2,3,3,4,3,4,4,5,3,4,4,5,4,5,5,6,3,4,4,5,4,5,5,6,4,5,5,6,5,6,6,7,1,2,2,3,2,3,3,4,2,3,3,4,3,4,4,5,2,3,3,4,3,4,4,5,3,4,4,5,4,5,5,6,2,3,3,4,3,4,4,5,3,4,4,5,4,5,5,6,3,4,4,5,4,5,5,6,4,5,5,6,5,6,6,7,2,3,3,4,3,4,4,5,3,4,4,5,4,5,5,6,3,4,4,5,4,5,5,6,4,5,5,6,5,6,6,7,3,4,4,5,4,5,5,6,4,5,5,6,5,6,6,7,4,5,5,6,5,6,6,7,5,6,6,7,6,7,7,8]).data.toList (cF .and .u32 (Int.fdiv a_x (2^min (Int.toNat 16) 32)) 255)) fun x2=>ag (ar (ByteArray.mk #[0,1,1,2,1,2,2,3,1,2,2,3,2,3,3,4,1,2,2,3,2,3,3,4,2,3,3,4,3,4,4,5,1,2,2,3,2,3,3,4,2,3,3,4,3,4,4,5,2,3,3,4,3,4,4,5,3,4,4,5,4,5,5,6,1,2,2,3,2,3,3,4,2,3,3,4,3,4,4,5,2,3,3,4,3,4,4,5,3,4,4,5,4,5,5,6,2,3,3,4,3,4,4,5,3,4,4,5,4,5,5,6,3,4,4,5,4,5,5,6,4,5,5,6,5,6,6,7,1,2,2,3,2,3,3,4,2,3,3,4,3,4,4,5,2,3,3,4,3,4,4,5,3,4,4,5,4,5,5,6,2,3,3,4,3,4,4,5,3,4,4,5,4,5,5,6,3,4,4,5,4,5,5,6,4,5,5,6,5,6,6,7,2,3,3,4,3,4,4,5,3,4,4,5,4,5,5,6,3,4,4,5,4,5,5,6,4,5,5,6,5,6,6,7,3,4,4,5,4,5,5,6,4,5,5,6,5,6,6,7,4,5,5,6,5,6,6,7,5,6,6,7,6,7,7,8]).data.toList (cF .and .u32 (Int.fdiv a_x (2^min (Int.toNat 8) 32)) 255)) fun x3=>ag (ar (ByteArray.mk #[0,1,1,2,1,2,2,3,1,2,2,3,2,3,3,4,1,2,2,3,2,3,3,4,2,3,3,4,3,4,4,5,1,2,2,3,2,3,3,4,2,3,3,4,3,4,4,5,2,3,3,4,3,4,4,5,3,4,4,5,4,5,5,6,1,2,2,3,2,3,3,4,2,3,3,4,3,4,4,5,2,3,3,4,3,4,4,5,3,4,4,5,4,5,5,6,2,3,3,4,3,4,4,5,3,4,4,5,4,5,5,6,3,4,4,5,4,5,5,6,4,5,5,6,5,6,6,7,1,2,2,3,2,3,3,4,2,3,3,4,3,4,4,5,2,3,3,4,3,4,4,5,3,4,4,5,4,5,5,6,2,3,3,4,3,4,4,5,3,4,4,5,4,5,5,6,3,4,4,5,4,5,5,6,4,5,5,6,5,6,6,7,2,3,3,4,3,4,4,5,3,4,4,5,4,5,5,6,3,4,4,5,4,5,5,6,4,5,5,6,5,6,6,7,3,4,4,5,4,5,5,6,4,5,5,6,5,6,6,7,4,5,5,6,5,6,6,7,5,6,6,7,6,7,7,8]).data.toList (cF .and .u32 a_x 255)) fun x4=>J (aj .i64 (aj .u8 ((aj .u8 ((aj .u8 ((x1.toNat:Int)+(x2.toNat:Int)))+(x3.toNat:Int)))+(x4.toNat:Int))))
def n4 (k:Nat) (s:Int) (J:Int->OS S):OS S:=aa k (IN k (cF .and .u32 s 16777215)) fun r1=>J r1
def yW (k:Nat) (i:Int) (J:Bool->OS S):OS S:=aa k (mh k 0 i) fun r1=>aa k (n4 k r1) fun r2=>J (r2==1)
def y7 (k:Nat) (t:Tm) (i:Int) (a_r:LC) (J:Int->OS S):OS S:=aa k (lw k (ae t)) fun r1=>ac (!(r1==0)) (J r1) (aa k (yW k i) fun r2=>ac (!r2) (J 2) (aa k (lv k a_r) fun r3=>ac (!r3) (J 2) (J 0)))
def Dy (k:Nat) (c0:Int) (c1:LC) (J:Unit->OS S):OS S:=J ()
def Dz (k:Nat) (c0:Int) (c1:LC) (J:Unit->OS S):OS S:=J ()
def Dx (k:Nat) (i:Int) (a_r:LC) (J:Int×LC->OS S):OS S:=aa k (Dy k i a_r) fun r1=>aa k (Dz k i a_r) fun r2=>J (i,a_r)
def kM (k:Nat) (s i:Int) (J:Bool->OS S):OS S:=aa k (pR k i) fun r1=>ac (r1) (ag (eV (0<=(aj .u64 i))) fun x2=>J ((cF .and .u32 (Int.fdiv s (2^min (Int.toNat (aj .u64 i)) 32)) 1)==1)) (J false)
def uS (k:Nat) (f:LC) (J:LC->OS S):OS S:=ag (bH 1099511627776 0 f.length) fun x1=>J f
def uY (k:Nat) (i:Int) (J:Bool->OS S):OS S:=aa k (mh k 0 i) fun r1=>aa k (n4 k r1) fun r2=>J (r2==1)
def uX (k:Nat) (c:Cl) (J:Cl×Bool->OS S):OS S:=aa k (uQ k c) fun r1=>J (c,!r1)
def xH (k:Nat) (J:LC->OS S) (l:LC) (rec0:Int->(LC)->OS S) (v12:Int) (out5:LC):OS S:=ac (decide ((v12:Int)<(l.length:Int))) (ag (ar l v12) fun x1=>aa k (uX k x1) fun r2=>ac (r2.2) (ag (bH 1099511627776 out5.length [r2.1].length) fun x3=>rec0 (aj .i64 (v12+1)) (out5++[r2.1])) (rec0 (aj .i64 (v12+1)) out5)) (J out5)
def sD (k:Nat) (J:LC->OS S) (l:LC):Nat->Int->(LC)->OS S
 |0=>fun _ _=> .none
 |m+1=>fun v12 out5=>xH k J l (sD k J l m) v12 out5
def G8 (k:Nat) (J:LC->OS S) (J0:Int->(LC)->OS S) (l:LC):OS S:=J0 0 ([]:LC)
def zc (k:Nat) (l:LC) (J:LC->OS S):OS S:=G8 k J (fun v12 out5=>sD k J l k v12 out5) l
def uW (k:Nat) (f:LC) (J:LC×Int->OS S):OS S:=aa k (lv k f) fun r1=>ac (!r1) (J (([]:LC),2)) (aa k (zc k f) fun r2=>aa k (j9 k r2) fun r3=>J (r3.1,r3.2))
def zd (k:Nat) (b c0:Cl) (J:Cl×Bool->OS S):OS S:=aa k (rA k c0 b) fun r1=>aa k (uX k r1) fun r2=>J (r2.1,r2.2)
def xG (k:Nat) (J:LC->OS S) (c0:Cl) (l:LC) (rec0:Int->(LC)->OS S) (v12:Int) (out5:LC):OS S:=ac (decide ((v12:Int)<(l.length:Int))) (ag (ar l v12) fun x1=>aa k (zd k x1 c0) fun r2=>ac (r2.2) (ag (bH 1099511627776 out5.length [r2.1].length) fun x3=>rec0 (aj .i64 (v12+1)) (out5++[r2.1])) (rec0 (aj .i64 (v12+1)) out5)) (J out5)
def sA (k:Nat) (J:LC->OS S) (c0:Cl) (l:LC):Nat->Int->(LC)->OS S
 |0=>fun _ _=> .none
 |m+1=>fun v12 out5=>xG k J c0 l (sA k J c0 l m) v12 out5
def G7 (k:Nat) (J:LC->OS S) (J0:Int->(LC)->OS S) (l:LC) (c0:Cl):OS S:=J0 0 ([]:LC)
def zb (k:Nat) (l:LC) (c0:Cl) (J:LC->OS S):OS S:=G7 k J (fun v12 out5=>sA k J c0 l k v12 out5) l c0
def xK (k:Nat) (J:LC×Int->OS S) (g f:LC) (rec0:Int->(LC)->OS S) (v11:Int) (out6:LC):OS S:=ac (decide ((v11:Int)<(f.length:Int))) (ag (ar f v11) fun x1=>aa k (zb k g x1) fun r2=>ag (bH 1099511627776 out6.length r2.length) fun x3=>rec0 (aj .i64 (v11+1)) (out6++r2)) (aa k (j9 k out6) fun r4=>J (r4.1,r4.2))
def sF (k:Nat) (J:LC×Int->OS S) (g f:LC):Nat->Int->(LC)->OS S
 |0=>fun _ _=> .none
 |m+1=>fun v11 out6=>xK k J g f (sF k J g f m) v11 out6
def G_ (k:Nat) (J:LC×Int->OS S) (J0:Int->(LC)->OS S) (f g:LC):OS S:=J0 0 ([]:LC)
def rC (k:Nat) (f g:LC) (J:LC×Int->OS S):OS S:=G_ k J (fun v11 out6=>sF k J g f k v11 out6) f g
def m8 (k:Nat) (J:LC->OS S):OS S:=J [(Cl.mk 0 0)]
def xR (k:Nat) (J:LC×Int->OS S) (r5:List Int) (rec1:Int->(LC)->OS S) (v28:Int) (out4':LC):OS S:=ac (decide ((v28:Int)<(r5.length:Int))) (ag (ar r5 v28) fun x6=>aa k (mh k 0 x6) fun r7=>ag (bH 1099511627776 out4'.length [(Cl.mk r7 0)].length) fun x8=>rec1 (aj .i64 (v28+1)) (out4'++[(Cl.mk r7 0)])) (aa k (j9 k out4') fun r9=>J (r9.1,r9.2))
def qb (k:Nat) (J:LC×Int->OS S) (r5:List Int):Nat->Int->(LC)->OS S
 |0=>fun _ _=> .none
 |m+1=>fun v28 out4'=>xR k J r5 (qb k J r5 m) v28 out4'
def ut (k:Nat) (J:LC×Int->OS S) (c:Cl) (r1:List Int) (J1:(List Int)->Int->(LC)->OS S) (rec0:Int->(LC)->OS S) (v13:Int) (out4:LC):OS S:=ac (decide ((v13:Int)<(r1.length:Int))) (ag (ar r1 v13) fun x2=>aa k (mh k 0 x2) fun r3=>ag (bH 1099511627776 out4.length [(Cl.mk 0 r3)].length) fun x4=>rec0 (aj .i64 (v13+1)) (out4++[(Cl.mk 0 r3)])) (wt c.neg fun r5=>J1 r5 0 out4)
def sM (k:Nat) (J:LC×Int->OS S) (c:Cl) (r1:List Int):Nat->Int->(LC)->OS S
 |0=>fun _ _=> .none
 |m+1=>fun v13 out4=>ut k J c r1 (fun r5 v28 out4'=>qb k J r5 k v28 out4') (sM k J c r1 m) v13 out4
def Hh (k:Nat) (J:LC×Int->OS S) (J0:(List Int)->Int->(LC)->OS S) (c:Cl):OS S:=wt c.pos fun r1=>J0 r1 0 ([]:LC)
def zm (k:Nat) (c:Cl) (J:LC×Int->OS S):OS S:=Hh k J (fun r1 v13 out4=>sM k J c r1 k v13 out4) c
def xQ (k:Nat) (J:LC×Int->OS S) (x1:Cl) (g f:LC) (v13:Int) (rec0:Int->(LC)->OS S) (rec1:Int->(LC)->OS S) (v19:Int) (out6':LC):OS S:=ac (decide ((v19:Int)<(g.length:Int))) (ag (ar g v19) fun x2=>aa k (rA k x1 x2) fun r3=>ag (bH 1099511627776 out6'.length [r3].length) fun x4=>rec1 (aj .i64 (v19+1)) (out6'++[r3])) (rec0 (aj .i64 (v13+1)) out6')
def p_ (k:Nat) (J:LC×Int->OS S) (rec0:Int->(LC)->OS S) (x1:Cl) (g f:LC) (v13:Int):Nat->Int->(LC)->OS S
 |0=>fun _ _=> .none
 |m+1=>fun v19 out6'=>xQ k J x1 g f v13 rec0 (p_ k J rec0 x1 g f v13 m) v19 out6'
def ur (k:Nat) (J:LC×Int->OS S) (g f:LC) (J1:Cl->Int->Int->(LC)->OS S) (rec0:Int->(LC)->OS S) (v13:Int) (out6:LC):OS S:=ac (decide ((v13:Int)<(f.length:Int))) (ag (ar f v13) fun x1=>J1 x1 v13 0 out6) (aa k (j9 k out6) fun r5=>J (r5.1,r5.2))
def oK (k:Nat) (J:LC×Int->OS S) (g f:LC):Nat->Int->(LC)->OS S
 |0=>fun _ _=> .none
 |m+1=>fun v13 out6=>ur k J g f (fun x1 v13 v19 out6'=>p_ k J (oK k J g f m) x1 g f v13 k v19 out6') (oK k J g f m) v13 out6
def Hg (k:Nat) (J:LC×Int->OS S) (J0:Int->(LC)->OS S) (f g:LC):OS S:=J0 0 ([]:LC)
def m9 (k:Nat) (f g:LC) (J:LC×Int->OS S):OS S:=Hg k J (fun v13 out6=>oK k J g f k v13 out6) f g
def zk (k:Nat) (a_have:LC) (c:Cl) (J:LC×Int->OS S):OS S:=aa k (zm k c) fun r1=>ac (!(r1.2==0)) (J (([]:LC),r1.2)) (aa k (m9 k a_have r1.1) fun r2=>J (r2.1,r2.2))
def xO (k:Nat) (J:LC×Int->OS S) (l:LC) (rec0:(LC)->Int->OS S) (v1:LC) (v15:Int):OS S:=ac (decide ((v15:Int)<(l.length:Int))) (ag (ar l v15) fun x1=>aa k (zk k v1 x1) fun r2=>ac (!(r2.2==0)) (J (([]:LC),r2.2)) (rec0 r2.1 (aj .i64 (v15+1)))) (J (v1,0))
def sK (k:Nat) (J:LC×Int->OS S) (l:LC):Nat->(LC)->Int->OS S
 |0=>fun _ _=> .none
 |m+1=>fun v1 v15=>xO k J l (sK k J l m) v1 v15
def He (k:Nat) (J:LC×Int->OS S) (J0:(LC)->Int->OS S) (l a_from:LC):OS S:=J0 a_from 0
def DI (k:Nat) (l a_from:LC) (J:LC×Int->OS S):OS S:=He k J (fun v1 v15=>sK k J l k v1 v15) l a_from
def rE (k:Nat) (f:LC) (J:LC×Int->OS S):OS S:=aa k (m8 k) fun r1=>aa k (DI k f r1) fun r2=>J (r2.1,r2.2)
def zg (k:Nat) (f:LC) (J:LC×Int->OS S):OS S:=aa k (rF k [f]) fun r1=>ac (!(r1==0)) (J (([]:LC),r1)) (aa k (rE k f) fun r2=>J (r2.1,r2.2))
def y_ (k:Nat) (f:LC) (J:LC×Int->OS S):OS S:=aa k (zg k f) fun r1=>ac (!(r1.2==0)) (J (([]:LC),r1.2)) (aa k (uW k r1.1) fun r2=>J (r2.1,r2.2))
def xF (k:Nat) (J:LC×Int->OS S) (i:Int) (a_r f:LC) (v29:Int) (v8:LC) (rec0:Int->(LC)->OS S) (g11:LC) (v13:Int):OS S:=ac (v13==0) (aa k (uZ k v8 g11) fun r10=>ac (!(r10.2==0)) (J (([]:LC),r10.2)) (rec0 (aj .i64 (v29+1)) r10.1)) (ac (!(v13==0)) (J (([]:LC),v13)) (rec0 (aj .i64 (v29+1)) v8))
def sz (k:Nat) (J:LC×Int->OS S) (rec0:Int->(LC)->OS S) (i:Int) (a_r f:LC) (v29:Int) (v8:LC):Nat->(LC)->Int->OS S
 |0=>fun _ _=> .none
 |_+1=>fun g11 v13=>xF k J i a_r f v29 v8 rec0 g11 v13
def uq (k:Nat) (J:LC×Int->OS S) (i:Int) (a_r f:LC) (J1:Int->(LC)->(LC)->Int->OS S) (rec0:Int->(LC)->OS S) (v29:Int) (v8:LC):OS S:=ac (decide ((v29:Int)<(f.length:Int))) (ag (ar f v29) fun x4=>aa k (nc k x4.pos i) fun r5=>aa k (nc k x4.neg i) fun r6=>aa k (kM k x4.pos i) fun r7=>ac (r7) (aa k (uW k a_r) fun r8=>ac (r8.2==0) (aa k (rC k [(Cl.mk r5 r6)] r8.1) fun r9=>J1 v29 v8 r9.1 r9.2) (J1 v29 v8 [(Cl.mk r5 r6)] r8.2)) (aa k (kM k x4.neg i) fun r11=>ac (r11) (aa k (y_ k a_r) fun r12=>ac (r12.2==0) (aa k (rC k [(Cl.mk r5 r6)] r12.1) fun r13=>J1 v29 v8 r13.1 r13.2) (J1 v29 v8 [(Cl.mk r5 r6)] r12.2)) (J1 v29 v8 [(Cl.mk r5 r6)] 0))) (J (v8,0))
def oJ (k:Nat) (J:LC×Int->OS S) (i:Int) (a_r f:LC):Nat->Int->(LC)->OS S
 |0=>fun _ _=> .none
 |m+1=>fun v29 v8=>uq k J i a_r f (fun v29 v8 g11 v13=>sz k J (oJ k J i a_r f m) i a_r f v29 v8 k g11 v13) (oJ k J i a_r f m) v29 v8
def G6 (k:Nat) (J:LC×Int->OS S) (J0:Int->(LC)->OS S) (f:LC) (i:Int) (a_r:LC):OS S:=aa k (m7 k f) fun r1=>ac (!r1) (J (([]:LC),2)) (aa k (uY k i) fun r2=>ac (!r2) (J (([]:LC),2)) (aa k (lv k a_r) fun r3=>ac (!r3) (J (([]:LC),2)) (J0 0 [])))
def za (k:Nat) (f:LC) (i:Int) (a_r:LC) (J:LC×Int->OS S):OS S:=G6 k J (fun v29 v8=>oJ k J i a_r f k v29 v8) f i a_r
def uT (k:Nat) (f:LC) (depth c0:Int) (c1:LC) (J:LC×Int->OS S):OS S:=aa k (rD k f) fun r1=>aa k (kM k r1 (aj .i64 (c0+depth))) fun r2=>ac (!r2) (aa k (uS k f) fun r3=>J (r3,0)) (aa k (n3 k c1 0 depth) fun r4=>ac (!(r4.2==0)) (J (([]:LC),r4.2)) (aa k (za k f (aj .i64 (c0+depth)) r4.1) fun r5=>J (r5.1,r5.2)))
def zf (k:Nat) (i:Int) (J:LC×Int->OS S):OS S:=aa k (mh k 0 i) fun r1=>aa k (n4 k r1) fun r2=>ac (r2==0) (J (([]:LC),2)) (aa k (mh k 0 i) fun r3=>J ([(Cl.mk r3 0)],0))
def pO (k:Nat) (f g:LC) (J:LC×Int->OS S):OS S:=ag (bH 1099511627776 ([]:LC).length f.length) fun x1=>ag (bH 1099511627776 (([]:LC)++f).length g.length) fun x2=>aa k (j9 k ((([]:LC)++f)++g)) fun r3=>J (r3.1,r3.2)
def zi (k:Nat) (a_have:LC) (c:Cl) (c0:Int) (c1:LC) (J:LC×Int->OS S):OS S:=aa k (nc k c.pos c0) fun r1=>aa k (nc k c.neg c0) fun r2=>aa k (kM k c.pos c0) fun r3=>ac (r3) (aa k (m9 k [(Cl.mk r1 r2)] c1) fun r4=>ac (!(r4.2==0)) (J (([]:LC),r4.2)) (aa k (kM k c.neg c0) fun r5=>ac (r5) (aa k (rE k c1) fun r6=>ac (!(r6.2==0)) (J (([]:LC),r6.2)) (aa k (m9 k r4.1 r6.1) fun r7=>ac (!(r7.2==0)) (J (([]:LC),r7.2)) (aa k (pO k a_have r7.1) fun r8=>J (r8.1,r8.2)))) (aa k (pO k a_have r4.1) fun r9=>J (r9.1,r9.2)))) (aa k (kM k c.neg c0) fun r10=>ac (r10) (aa k (rE k c1) fun r11=>ac (!(r11.2==0)) (J (([]:LC),r11.2)) (aa k (m9 k [(Cl.mk r1 r2)] r11.1) fun r12=>ac (!(r12.2==0)) (J (([]:LC),r12.2)) (aa k (pO k a_have r12.1) fun r13=>J (r13.1,r13.2)))) (aa k (pO k a_have [(Cl.mk r1 r2)]) fun r14=>J (r14.1,r14.2)))
def xN (k:Nat) (J:LC×Int->OS S) (c0:Int) (c1 l:LC) (rec0:(LC)->Int->OS S) (v1:LC) (v15:Int):OS S:=ac (decide ((v15:Int)<(l.length:Int))) (ag (ar l v15) fun x1=>aa k (zi k v1 x1 c0 c1) fun r2=>ac (!(r2.2==0)) (J (([]:LC),r2.2)) (rec0 r2.1 (aj .i64 (v15+1)))) (J (v1,0))
def sJ (k:Nat) (J:LC×Int->OS S) (c0:Int) (c1 l:LC):Nat->(LC)->Int->OS S
 |0=>fun _ _=> .none
 |m+1=>fun v1 v15=>xN k J c0 c1 l (sJ k J c0 c1 l m) v1 v15
def Hc (k:Nat) (J:LC×Int->OS S) (J0:(LC)->Int->OS S) (l a_from:LC) (c0:Int) (c1:LC):OS S:=J0 a_from 0
def DH (k:Nat) (l a_from:LC) (c0:Int) (c1:LC) (J:LC×Int->OS S):OS S:=Hc k J (fun v1 v15=>sJ k J c0 c1 l k v1 v15) l a_from c0 c1
def zh (k:Nat) (f:LC) (i:Int) (a_r:LC) (J:LC×Int->OS S):OS S:=aa k (rF k [f,a_r]) fun r1=>ac (!(r1==0)) (J (([]:LC),r1)) (aa k (zf k i) fun r2=>ac (!(r2.2==0)) (J (([]:LC),r2.2)) (aa k (pN k) fun r3=>aa k (DH k f r3 i a_r) fun r4=>J (r4.1,r4.2)))
def yX (k:Nat) (f:LC) (depth c0:Int) (c1:LC) (J:LC×Int->OS S):OS S:=aa k (rD k f) fun r1=>aa k (kM k r1 (aj .i64 (c0+depth))) fun r2=>ac (!r2) (aa k (uS k f) fun r3=>J (r3,0)) (aa k (n3 k c1 0 depth) fun r4=>ac (!(r4.2==0)) (J (([]:LC),r4.2)) (aa k (zh k f (aj .i64 (c0+depth)) r4.1) fun r5=>J (r5.1,r5.2)))
def yY (k:Nat) (t:Tm) (depth c0:Int) (c1:LC) (J:LC×Int->OS S):OS S:=ac (t.kind==14) (aa k (uT k t.r depth c0 c1) fun r1=>J (r1.1,r1.2)) (aa k (yX k t.r depth c0 c1) fun r2=>J (r2.1,r2.2))
def uU (k:Nat) (i:Int) (c0:Tm) (J:Int->OS S):OS S:=aa k (nd k c0.kind i) fun r1=>J r1.2
def uV (k:Nat) (p c0:Int) (J:Int->OS S):OS S:=J c0
abbrev eZ (S:Type):=Tm->Int->Int->(LC)->(Tm×Int->OS S)->OS S
def xA (hd:eZ S) (k:Nat) (J:LT×Int->OS S) (c0:Int) (c1:LC) (c4:Int) (l:LT) (depth:Int) (rec0:(LT)->Int->OS S) (out10:LT) (v17:Int):OS S:=ac (decide ((v17:Int)<(l.length:Int))) (ag (ar l v17) fun x1=>aa k (uV k v17 c4) fun r2=>hd (ae x1) (aj .i64 (depth+r2)) c0 c1 fun r3=>ac (!(r3.2==0)) (J (([]:LT),r3.2)) (ag (bH 1099511627776 out10.length [(ae r3.1)].length) fun x4=>rec0 (out10++[(ae r3.1)]) (aj .i64 (v17+1)))) (J (out10,0))
def oH (hd:eZ S) (k:Nat) (J:LT×Int->OS S) (c0:Int) (c1:LC) (c4:Int) (l:LT) (depth:Int):Nat->(LT)->Int->OS S
 |0=>fun _ _=> .none
 |m+1=>fun out10 v17=>xA hd k J c0 c1 c4 l depth (oH hd k J c0 c1 c4 l depth m) out10 v17
def G2 (hd:eZ S) (k:Nat) (J:LT×Int->OS S) (J0:(LT)->Int->OS S) (l:LT) (depth c0:Int) (c1:LC) (c4:Int):OS S:=J0 ([]:LT) 0
def DC (hd:eZ S) (k:Nat) (l:LT) (depth c0:Int) (c1:LC) (c4:Int) (J:LT×Int->OS S):OS S:=G2 hd k J (fun out10 v17=>oH hd k J c0 c1 c4 l depth k out10 v17) l depth c0 c1 c4
def xB (hd:eZ S) (k:Nat) (J:LT×Int->OS S) (c0:Int) (c1:LC) (c4:Tm) (l:LT) (depth:Int) (rec0:(LT)->Int->OS S) (out10:LT) (v17:Int):OS S:=ac (decide ((v17:Int)<(l.length:Int))) (ag (ar l v17) fun x1=>aa k (uU k v17 (ae c4)) fun r2=>hd (ae x1) (aj .i64 (depth+r2)) c0 c1 fun r3=>ac (!(r3.2==0)) (J (([]:LT),r3.2)) (ag (bH 1099511627776 out10.length [(ae r3.1)].length) fun x4=>rec0 (out10++[(ae r3.1)]) (aj .i64 (v17+1)))) (J (out10,0))
def oI (hd:eZ S) (k:Nat) (J:LT×Int->OS S) (c0:Int) (c1:LC) (c4:Tm) (l:LT) (depth:Int):Nat->(LT)->Int->OS S
 |0=>fun _ _=> .none
 |m+1=>fun out10 v17=>xB hd k J c0 c1 c4 l depth (oI hd k J c0 c1 c4 l depth m) out10 v17
def G3 (hd:eZ S) (k:Nat) (J:LT×Int->OS S) (J0:(LT)->Int->OS S) (l:LT) (depth c0:Int) (c1:LC) (c4:Tm):OS S:=J0 ([]:LT) 0
def DD (hd:eZ S) (k:Nat) (l:LT) (depth c0:Int) (c1:LC) (c4:Tm) (J:LT×Int->OS S):OS S:=G3 hd k J (fun out10 v17=>oI hd k J c0 c1 c4 l depth k out10 v17) l depth c0 c1 c4
def xD (hd:eZ S) (k:Nat) (J:Tm×Int->OS S) (c0:Int) (c1:LC) (t:Tm) (r1:LC×Int) (r2:LT×Int) (depth:Int) (rec0:Int->(LB)->Int->OS S) (ei:Int) (b8_5:LB) (v55:Int):OS S:=ac (decide ((v55:Int)<(t.sys.length:Int))) (ag (ar t.sys v55) fun x3=>aa k (uT k x3.face depth c0 c1) fun r4=>ac (!(r4.2==0)) (J ((Tm.mk 0 0 aw [] [] []),r4.2)) (ac ((r4.1.length:Int)==0) (rec0 ei b8_5 (aj .i64 (v55+1))) (aa k (DC hd k x3.kids depth c0 c1 ei) fun r5=>ac (!(r5.2==0)) (J ((Tm.mk 0 0 aw [] [] []),r5.2)) (ag (bH 1099511627776 b8_5.length [(Br.mk r4.1 r5.1)].length) fun x6=>rec0 ei (b8_5++[(Br.mk r4.1 r5.1)]) (aj .i64 (v55+1)))))) (J ((Tm.mk t.kind t.n t.name r1.1 r2.1 b8_5),0))
def kj (hd:eZ S) (k:Nat) (J:Tm×Int->OS S) (c0:Int) (c1:LC) (t:Tm) (r1:LC×Int) (r2:LT×Int) (depth:Int):Nat->Int->(LB)->Int->OS S
 |0=>fun _ _ _=> .none
 |m+1=>fun ei b8_5 v55=>xD hd k J c0 c1 t r1 r2 depth (kj hd k J c0 c1 t r1 r2 depth m) ei b8_5 v55
def G4 (hd:eZ S) (k:Nat) (J:Tm×Int->OS S) (J0:(LC×Int)->(LT×Int)->Int->(LB)->Int->OS S) (t:Tm) (depth c0:Int) (c1:LC):OS S:=aa k (yY k (ae t) depth c0 c1) fun r1=>ac (!(r1.2==0)) (J ((Tm.mk 0 0 aw [] [] []),r1.2)) (aa k (DD hd k t.kids depth c0 c1 (ae t)) fun r2=>ac (!(r2.2==0)) (J ((Tm.mk 0 0 aw [] [] []),r2.2)) (ac (t.kind==15) (J0 r1 r2 1 ([]:LB) 0) (J0 r1 r2 0 ([]:LB) 0)))
def hY:Nat->Tm->Int->Int->(LC)->(Tm×Int->OS S)->OS S
 |0=>fun _ _ _ _ _=> .none
 |k+1=>fun t depth c0 c1 J=>G4 (hY k) k J (fun r1 r2 ei b8_5 v55=>kj (hY k) k J c0 c1 t r1 r2 depth k ei b8_5 v55) t depth c0 c1
def Dw (k:Nat) (i:Int) (J:Int->OS S):OS S:=J i
def rL (k:Nat) (s i:Int) (J:Int->OS S):OS S:=aa k (pR k i) fun r1=>ac (!r1) (J (cF .and .u32 s 16777215)) (aa k (rN k i) fun r2=>ag (eV (0<=(aj .u64 (aj .i64 (i+1))))) fun x3=>ag (eV (0<=(aj .u64 i))) fun x4=>J (cF .or .u32 (cF .and .u32 (cF .and .u32 s 16777215) r2) (aj .u32 ((Int.fdiv (cF .and .u32 s 16777215) (2^min (Int.toNat (aj .u64 (aj .i64 (i+1)))) 32))*2^min (Int.toNat (aj .u64 i)) 32))))
def xx (k:Nat) (J:LC×Int->OS S) (c0 depth:Int) (f:LC) (rec0:Int->(LC)->OS S) (v12:Int) (out7:LC):OS S:=ac (decide ((v12:Int)<(f.length:Int))) (ag (ar f v12) fun x1=>aa k (rL k x1.pos (aj .i64 (c0+depth))) fun r2=>aa k (rL k x1.neg (aj .i64 (c0+depth))) fun r3=>ag (bH 1099511627776 out7.length [(Cl.mk r2 r3)].length) fun x4=>rec0 (aj .i64 (v12+1)) (out7++[(Cl.mk r2 r3)])) (aa k (j9 k out7) fun r5=>J (r5.1,r5.2))
def sx (k:Nat) (J:LC×Int->OS S) (c0 depth:Int) (f:LC):Nat->Int->(LC)->OS S
 |0=>fun _ _=> .none
 |m+1=>fun v12 out7=>xx k J c0 depth f (sx k J c0 depth f m) v12 out7
def GX (k:Nat) (J:LC×Int->OS S) (J0:Int->(LC)->OS S) (f:LC) (depth c0:Int):OS S:=J0 0 ([]:LC)
def rB (k:Nat) (f:LC) (depth c0:Int) (J:LC×Int->OS S):OS S:=GX k J (fun v12 out7=>sx k J c0 depth f k v12 out7) f depth c0
def yZ (k:Nat) (t:Tm) (depth c0:Int) (J:LC×Int->OS S):OS S:=ac (t.kind==14) (aa k (rB k t.r depth c0) fun r1=>J (r1.1,r1.2)) (aa k (rB k t.r depth c0) fun r2=>J (r2.1,r2.2))
abbrev e_ (S:Type):=Tm->Int->Int->(Tm×Int->OS S)->OS S
def xy (hd:e_ S) (k:Nat) (J:LT×Int->OS S) (c0 c1:Int) (l:LT) (depth:Int) (rec0:(LT)->Int->OS S) (out10:LT) (v17:Int):OS S:=ac (decide ((v17:Int)<(l.length:Int))) (ag (ar l v17) fun x1=>aa k (uV k v17 c1) fun r2=>hd (ae x1) (aj .i64 (depth+r2)) c0 fun r3=>ac (!(r3.2==0)) (J (([]:LT),r3.2)) (ag (bH 1099511627776 out10.length [(ae r3.1)].length) fun x4=>rec0 (out10++[(ae r3.1)]) (aj .i64 (v17+1)))) (J (out10,0))
def oF (hd:e_ S) (k:Nat) (J:LT×Int->OS S) (c0 c1:Int) (l:LT) (depth:Int):Nat->(LT)->Int->OS S
 |0=>fun _ _=> .none
 |m+1=>fun out10 v17=>xy hd k J c0 c1 l depth (oF hd k J c0 c1 l depth m) out10 v17
def GY (hd:e_ S) (k:Nat) (J:LT×Int->OS S) (J0:(LT)->Int->OS S) (l:LT) (depth c0 c1:Int):OS S:=J0 ([]:LT) 0
def DA (hd:e_ S) (k:Nat) (l:LT) (depth c0 c1:Int) (J:LT×Int->OS S):OS S:=GY hd k J (fun out10 v17=>oF hd k J c0 c1 l depth k out10 v17) l depth c0 c1
def xz (hd:e_ S) (k:Nat) (J:LT×Int->OS S) (c0:Int) (c1:Tm) (l:LT) (depth:Int) (rec0:(LT)->Int->OS S) (out10:LT) (v17:Int):OS S:=ac (decide ((v17:Int)<(l.length:Int))) (ag (ar l v17) fun x1=>aa k (uU k v17 (ae c1)) fun r2=>hd (ae x1) (aj .i64 (depth+r2)) c0 fun r3=>ac (!(r3.2==0)) (J (([]:LT),r3.2)) (ag (bH 1099511627776 out10.length [(ae r3.1)].length) fun x4=>rec0 (out10++[(ae r3.1)]) (aj .i64 (v17+1)))) (J (out10,0))
def oG (hd:e_ S) (k:Nat) (J:LT×Int->OS S) (c0:Int) (c1:Tm) (l:LT) (depth:Int):Nat->(LT)->Int->OS S
 |0=>fun _ _=> .none
 |m+1=>fun out10 v17=>xz hd k J c0 c1 l depth (oG hd k J c0 c1 l depth m) out10 v17
def GZ (hd:e_ S) (k:Nat) (J:LT×Int->OS S) (J0:(LT)->Int->OS S) (l:LT) (depth c0:Int) (c1:Tm):OS S:=J0 ([]:LT) 0
def DB (hd:e_ S) (k:Nat) (l:LT) (depth c0:Int) (c1:Tm) (J:LT×Int->OS S):OS S:=GZ hd k J (fun out10 v17=>oG hd k J c0 c1 l depth k out10 v17) l depth c0 c1
def xE (hd:e_ S) (k:Nat) (J:Tm×Int->OS S) (c0:Int) (t:Tm) (r1:LC×Int) (r2:LT×Int) (depth:Int) (rec0:Int->(LB)->Int->OS S) (ei:Int) (b8_5:LB) (v55:Int):OS S:=ac (decide ((v55:Int)<(t.sys.length:Int))) (ag (ar t.sys v55) fun x3=>aa k (rB k x3.face depth c0) fun r4=>ac (!(r4.2==0)) (J ((Tm.mk 0 0 aw [] [] []),r4.2)) (ac ((r4.1.length:Int)==0) (rec0 ei b8_5 (aj .i64 (v55+1))) (aa k (DA hd k x3.kids depth c0 ei) fun r5=>ac (!(r5.2==0)) (J ((Tm.mk 0 0 aw [] [] []),r5.2)) (ag (bH 1099511627776 b8_5.length [(Br.mk r4.1 r5.1)].length) fun x6=>rec0 ei (b8_5++[(Br.mk r4.1 r5.1)]) (aj .i64 (v55+1)))))) (J ((Tm.mk t.kind t.n t.name r1.1 r2.1 b8_5),0))
def kl (hd:e_ S) (k:Nat) (J:Tm×Int->OS S) (c0:Int) (t:Tm) (r1:LC×Int) (r2:LT×Int) (depth:Int):Nat->Int->(LB)->Int->OS S
 |0=>fun _ _ _=> .none
 |m+1=>fun ei b8_5 v55=>xE hd k J c0 t r1 r2 depth (kl hd k J c0 t r1 r2 depth m) ei b8_5 v55
def G5 (hd:e_ S) (k:Nat) (J:Tm×Int->OS S) (J0:(LC×Int)->(LT×Int)->Int->(LB)->Int->OS S) (t:Tm) (depth c0:Int):OS S:=aa k (yZ k (ae t) depth c0) fun r1=>ac (!(r1.2==0)) (J ((Tm.mk 0 0 aw [] [] []),r1.2)) (aa k (DB hd k t.kids depth c0 (ae t)) fun r2=>ac (!(r2.2==0)) (J ((Tm.mk 0 0 aw [] [] []),r2.2)) (ac (t.kind==15) (J0 r1 r2 1 ([]:LB) 0) (J0 r1 r2 0 ([]:LB) 0)))
def gW:Nat->Tm->Int->Int->(Tm×Int->OS S)->OS S
 |0=>fun _ _ _ _=> .none
 |k+1=>fun t depth c0 J=>G5 (gW k) k J (fun r1 r2 ei b8_5 v55=>kl (gW k) k J c0 t r1 r2 depth k ei b8_5 v55) t depth c0
def lu (k:Nat) (t:Tm) (i:Int) (a_r:LC) (J:Tm×Int->OS S):OS S:=aa k (y7 k (ae t) i a_r) fun r1=>ac (!(r1==0)) (J ((Tm.mk 0 0 aw [] [] []),r1)) (aa k (n3 k a_r i 1) fun r2=>ac (!(r2.2==0)) (J ((Tm.mk 0 0 aw [] [] []),r2.2)) (aa k (Dx k i r2.1) fun r3=>hY k (ae t) 0 r3.1 r3.2 fun r4=>ac (!(r4.2==0)) (J ((Tm.mk 0 0 aw [] [] []),r4.2)) (aa k (Dw k i) fun r5=>gW k (ae r4.1) 0 r5 fun r6=>J ((ae r6.1),r6.2))))
def ls (k:Nat) (line:Tm) (a_r:LC) (c0:Int) (J:Tm×Int->OS S):OS S:=aa k (ew k c0) fun r1=>ac (!r1) (J ((Tm.mk 0 0 aw [] [] []),c0)) (aa k (zB k (ae line) 1 2) fun r2=>aa k (kK k r2.2 c0) fun r3=>aa k (ew k r3) fun r4=>ac (!r4) (J ((Tm.mk 0 0 aw [] [] []),r3)) (aa k (lu k (ae r2.1) 0 a_r) fun r5=>aa k (kK k r5.2 r3) fun r6=>J ((ae r5.1),r6)))
def gV (k:Nat) (t:Tm) (vars dims c0:Int) (J:Tm×Int->OS S):OS S:=aa k (ew k c0) fun r1=>ac (!r1) (J ((Tm.mk 0 0 aw [] [] []),c0)) (aa k (pQ k (ae t) vars dims) fun r2=>aa k (kK k r2.2 c0) fun r3=>J ((ae r2.1),r3))
def eJ (k:Nat) (kind:Int) (kids:LT) (J:Int×Int×BA×LT->OS S):OS S:=J (kind,0,aw,kids)
def fV (k:Nat) (t:Tm) (c0:Int) (J:Tm×Int×Int->OS S):OS S:=aa k (ew k c0) fun r1=>ac (r1) (aa k (lw k (ae t)) fun r2=>aa k (kK k r2 c0) fun r3=>aa k (ew k r3) fun r4=>ac (!r4) (J ((Tm.mk 0 0 aw [] [] []),r3,r3)) (J ((ae t),0,r3))) (aa k (ew k c0) fun r5=>ac (!r5) (J ((Tm.mk 0 0 aw [] [] []),c0,c0)) (J ((ae t),0,c0)))
def yP (k:Nat) (line:Tm) (phi:LC) (a:Tm) (a_end:Cl) (a_r:LC) (J:Tm×Int->OS S):OS S:=aa k (m6 k [(ae line),(ae a)]) fun r1=>aa k (m7 k phi) fun r2=>ac (!r2) (aa k (kK k 2 r1) fun r3=>aa k (mg k phi r3) fun r4=>aa k (nZ k r4.1 [a_end] r4.2) fun r5=>aa k (ls k (ae line) a_r r5.2) fun r6=>aa k (gV k (ae a) 0 1 r6.2) fun r7=>aa k (eJ k 14 [(ae r6.1),(ae r7.1)]) fun r8=>aa k (fV k (Tm.mk r8.1 r8.2.1 r8.2.2.1 r5.1 r8.2.2.2 []) r7.2) fun r9=>J ((ae r9.1),r9.2.1)) (aa k (mg k phi r1) fun r10=>aa k (nZ k r10.1 [a_end] r10.2) fun r11=>aa k (ls k (ae line) a_r r11.2) fun r12=>aa k (gV k (ae a) 0 1 r12.2) fun r13=>aa k (eJ k 14 [(ae r12.1),(ae r13.1)]) fun r14=>aa k (fV k (Tm.mk r14.1 r14.2.1 r14.2.2.1 r11.1 r14.2.2.2 []) r13.2) fun r15=>J ((ae r15.1),r15.2.1))
abbrev S6 (S:Type):=Tm->(Int->OS S)->OS S
abbrev SV (S:Type):=Tm->Int->(Int->OS S)->OS S
abbrev SW (S:Type):=Tm->Int->Tm->Int->Int->(Pan Int Tm->OS S)->OS S
abbrev S5 (S:Type):=Tm->(Int->OS S)->OS S
def ve (k:Nat) (t:Tm) (a_r:LC) (c0:Int) (J:Tm×Int->OS S):OS S:=aa k (fE k c0) fun r1=>ac (!r1) (J ((Tm.mk 0 0 aw [] [] []),c0)) (aa k (lu k (ae t) 0 a_r) fun r2=>aa k (kN k (ae r2.1) r2.2 c0) fun r3=>J ((ae r3.1),r3.2))
def eK (k:Nat) (kind:Int) (kids:LT) (J:Int×Int×BA×LT->OS S):OS S:=J (kind,0,aw,kids)
def pS (k:Nat) (kind:Int) (a_r:LC) (kids:LT) (J:Int×Int×BA×LC×LT->OS S):OS S:=J (kind,0,aw,a_r,kids)
def yO (k:Nat) (line:Tm) (phi:LC) (a:Tm) (J:Tm×Int->OS S):OS S:=aa k (yP k (ae line) phi (ae a) (Cl.mk 0 1) [(Cl.mk 3 0)]) fun r1=>J ((ae r1.1),r1.2)
def zI (k:Nat) (line:Tm) (phi:LC) (a:Tm) (c0:Int) (J:Tm×Int->OS S):OS S:=aa k (fE k c0) fun r1=>ac (!r1) (J ((Tm.mk 0 0 aw [] [] []),c0)) (aa k (yO k (ae line) phi (ae a)) fun r2=>aa k (kN k (ae r2.1) r2.2 c0) fun r3=>J ((ae r3.1),r3.2))
def eX (k:Nat) (f:LC) (kids:LT) (J:(Br Tm)->OS S):OS S:=J (Br.mk f kids)
def rz (k:Nat) (sys:LB) (J:Int×Int×BA×LT×LB->OS S):OS S:=aa k (eJ k 3 ([]:LT)) fun r1=>aa k (eJ k 3 ([]:LT)) fun r2=>J (15,0,aw,[(Tm.mk r1.1 r1.2.1 r1.2.2.1 [] r1.2.2.2 []),(Tm.mk r2.1 r2.2.1 r2.2.2.1 [] r2.2.2.2 [])],sys)
def yQ (k:Nat) (line:Tm) (c0:Int) (J:Tm×Int->OS S):OS S:=aa k (ew k c0) fun r1=>ac (!r1) (J ((Tm.mk 0 0 aw [] [] []),c0)) (aa k (m8 k) fun r2=>aa k (lu k (ae line) 0 r2) fun r3=>aa k (kK k r3.2 c0) fun r4=>J ((ae r3.1),r4))
def ri (k:Nat) (J:Tm×Int->OS S) (r3:Tm) (r9:Int×Int×BA×LT) (r6:Tm) (rec0:Int->(LB)->Int->OS S) (d_:Int) (b9_5:LB) (v38:Int):OS S:=ac (decide ((v38:Int)<(r6.sys.length:Int))) (ag (ar r6.sys v38) fun x10=>aa k (ew k d_) fun r11=>ac (!r11) (aa k (fV k (Tm.mk r9.1 r9.2.1 r9.2.2.1 [] r9.2.2.2 b9_5) d_) fun r12=>J ((ae r12.1),r12.2.1)) (aa k (ls k (ae r3) [(Cl.mk 1 0),(Cl.mk 2 0)] d_) fun r13=>ag (ar x10.kids 0) fun x14=>aa k (eJ k 14 [(ae r13.1),(ae x14)]) fun r15=>ag (bH 1099511627776 b9_5.length [(Br.mk x10.face [(Tm.mk r15.1 r15.2.1 r15.2.2.1 [(Cl.mk 1 0)] r15.2.2.2 [])])].length) fun x16=>rec0 r13.2 (b9_5++[(Br.mk x10.face [(Tm.mk r15.1 r15.2.1 r15.2.2.1 [(Cl.mk 1 0)] r15.2.2.2 [])])]) (aj .i64 (v38+1)))) (aa k (fV k (Tm.mk r9.1 r9.2.1 r9.2.2.1 [] r9.2.2.2 b9_5) d_) fun r17=>J ((ae r17.1),r17.2.1))
def nw (k:Nat) (J:Tm×Int->OS S) (r3:Tm) (r9:Int×Int×BA×LT) (r6:Tm):Nat->Int->(LB)->Int->OS S
 |0=>fun _ _ _=> .none
 |m+1=>fun d_ b9_5 v38=>ri k J r3 r9 r6 (nw k J r3 r9 r6 m) d_ b9_5 v38
def GT (k:Nat) (J:Tm×Int->OS S) (J0:Tm->(Int×Int×BA×LT)->Tm->Int->(LB)->Int->OS S) (line a:Tm) (sys:LB):OS S:=aa k (rz k sys) fun r1=>aa k (m6 k [(ae line),(ae a),(Tm.mk r1.1 r1.2.1 r1.2.2.1 [] r1.2.2.2.1 r1.2.2.2.2)]) fun r2=>fF k (ae line) fun r3=>fF k (ae a) fun r4=>aa k (rz k sys) fun r5=>fF k (Tm.mk r5.1 r5.2.1 r5.2.2.1 [] r5.2.2.2.1 r5.2.2.2.2) fun r6=>aa k (yQ k (ae r3) r2) fun r7=>aa k (eJ k 14 [(ae r3),(ae r4)]) fun r8=>aa k (eJ k 15 [(ae r7.1),(Tm.mk r8.1 r8.2.1 r8.2.2.1 [] r8.2.2.2 [])]) fun r9=>J0 r3 r9 r6 r7.2 ([]:LB) 0
def yL (k:Nat) (line a:Tm) (sys:LB) (J:Tm×Int->OS S):OS S:=GT k J (fun r3 r9 r6 d_ b9_5 v38=>nw k J r3 r9 r6 k d_ b9_5 v38) line a sys
def vd (k:Nat) (line a:Tm) (sys:LB) (c0:Int) (J:Tm×Int->OS S):OS S:=aa k (fE k c0) fun r1=>ac (!r1) (J ((Tm.mk 0 0 aw [] [] []),c0)) (aa k (yL k (ae line) (ae a) sys) fun r2=>aa k (kN k (ae r2.1) r2.2 c0) fun r3=>J ((ae r3.1),r3.2))
def zF (k:Nat) (t:Tm) (c0:Int) (J:Tm×Int->OS S):OS S:=aa k (m8 k) fun r1=>aa k (ve k (ae t) r1 c0) fun r2=>J ((ae r2.1),r2.2)
def h_ (k:Nat) (kind:Int) (l:LB) (kids:LT) (J:Int×Int×BA×LT×LB->OS S):OS S:=J (kind,0,aw,kids,l)
def DO (k:Nat) (b:(Br Tm)) (J:(Br Tm)->OS S):OS S:=ag (ar b.kids 1) fun x1=>aa k (eX k b.face [(ae x1)]) fun r2=>J r2
def ya (k:Nat) (J:LB->OS S) (l:LB) (rec0:Int->(LB)->OS S) (v10:Int) (out5:LB):OS S:=ac (decide ((v10:Int)<(l.length:Int))) (ag (ar l v10) fun x1=>aa k (DO k x1) fun r2=>ag (bH 1099511627776 out5.length [r2].length) fun x3=>rec0 (aj .i64 (v10+1)) (out5++[r2])) (J out5)
def sV (k:Nat) (J:LB->OS S) (l:LB):Nat->Int->(LB)->OS S
 |0=>fun _ _=> .none
 |m+1=>fun v10 out5=>ya k J l (sV k J l m) v10 out5
def B1 (k:Nat) (J:LB->OS S) (J0:Int->(LB)->OS S) (l:LB):OS S:=J0 0 ([]:LB)
def zu (k:Nat) (l:LB) (J:LB->OS S):OS S:=B1 k J (fun v10 out5=>sV k J l k v10 out5) l
def pP (k:Nat) (g:Tm) (J:LB->OS S):OS S:=aa k (zu k g.sys) fun r1=>J r1
def na (k:Nat) (a:Tm) (es:LB) (J:Int×Int×BA×LT×LB->OS S):OS S:=aa k (h_ k 18 es [(ae a)]) fun r1=>J (r1.1,r1.2.1,r1.2.2.1,r1.2.2.2.1,r1.2.2.2.2)
def DE (k:Nat) (c:Cl) (c0:Int) (J:Cl×Bool->OS S):OS S:=aa k (kM k (cF .or .u32 c.pos c.neg) c0) fun r1=>J (c,!r1)
def xJ (k:Nat) (J:LC->OS S) (c0:Int) (l:LC) (rec0:Int->(LC)->OS S) (v12:Int) (out5:LC):OS S:=ac (decide ((v12:Int)<(l.length:Int))) (ag (ar l v12) fun x1=>aa k (DE k x1 c0) fun r2=>ac (r2.2) (ag (bH 1099511627776 out5.length [r2.1].length) fun x3=>rec0 (aj .i64 (v12+1)) (out5++[r2.1])) (rec0 (aj .i64 (v12+1)) out5)) (J out5)
def sE (k:Nat) (J:LC->OS S) (c0:Int) (l:LC):Nat->Int->(LC)->OS S
 |0=>fun _ _=> .none
 |m+1=>fun v12 out5=>xJ k J c0 l (sE k J c0 l m) v12 out5
def G9 (k:Nat) (J:LC->OS S) (J0:Int->(LC)->OS S) (l:LC) (c0:Int):OS S:=J0 0 ([]:LC)
def DF (k:Nat) (l:LC) (c0:Int) (J:LC->OS S):OS S:=G9 k J (fun v12 out5=>sE k J c0 l k v12 out5) l c0
def y8 (k:Nat) (f:LC) (i:Int) (J:LC×Int->OS S):OS S:=aa k (m7 k f) fun r1=>ac (!r1) (J (([]:LC),2)) (aa k (uY k i) fun r2=>ac (!r2) (J (([]:LC),2)) (aa k (DF k f i) fun r3=>aa k (j9 k r3) fun r4=>J (r4.1,r4.2)))
def zE (k:Nat) (f:LC) (c0:Int) (J:LC×Int->OS S):OS S:=aa k (fE k c0) fun r1=>ac (!r1) (J (([]:LC),c0)) (aa k (y8 k f 0) fun r2=>aa k (kN k (Tm.mk 0 0 aw [] [] []) r2.2 c0) fun r3=>aa k (fE k r3.2) fun r4=>ac (!r4) (J (([]:LC),r3.2)) (aa k (eK k 3 ([]:LT)) fun r5=>aa k (eK k 3 ([]:LT)) fun r6=>aa k (pN k) fun r7=>aa k (lu k (Tm.mk 14 0 aw r2.1 [(Tm.mk r5.1 r5.2.1 r5.2.2.1 [] r5.2.2.2 []),(Tm.mk r6.1 r6.2.1 r6.2.2.1 [] r6.2.2.2 [])] []) 0 r7) fun r8=>aa k (kN k (Tm.mk 0 0 aw [] [] []) r8.2 r3.2) fun r9=>J (r8.1.r,r9.2)))
def rH (k:Nat) (c1:Tm) (jg:Int) (gf:LC) (gn gr:Int) (gu:BA) (gy:LC) (gA:LT) (gC gD:LB) (fS fN:Int) (fO:BA) (fP:LC) (fQ:LT) (fR:LB) (gg gh:Int) (gi:BA) (gj:LC) (gm:LT) (gq:LB) (J:Tm×Int->OS S):OS S:=aa k (j_ k (ae c1) 0 1 jg) fun r1=>J ((ae r1.1),r1.2)
def u7 (k:Nat) (dR:Int) (c0_1:LC) (bQ bR:Int) (bS:BA) (bU:LC) (bV:LT) (bW dZ:LB) (cA ct:Int) (cu:BA) (cv:LC) (cx:LT) (cz:LB) (b8 b9:Int) (b_:BA) (ca:LC) (ce:LT) (ci:LB) (c2:Tm) (J:LB×Int->OS S):OS S:=ac ((c0_1.length:Int)==0) (J (([]:LB),dR)) (aa k (rH k (ae c2) dR c0_1 bQ bR bS bU bV bW dZ cA ct cu cv cx cz b8 b9 b_ ca ce ci) fun r1=>aa k (eX k c0_1 [(ae r1.1)]) fun r2=>J ([r2],r1.2))
def m_ (k:Nat) (a_e:Tm) (J:Int×Int×BA×LT->OS S):OS S:=aa k (eK k 9 [(ae a_e)]) fun r1=>J (r1.1,r1.2.1,r1.2.2.1,r1.2.2.2)
def DL (k:Nat) (b:(Br Tm)) (dH:Int) (aS:LC) (aZ a7:Int) (a8:BA) (a_:LC) (ba:LT) (be bw:LB) (bh aU:Int) (aV:BA) (aW:LC) (aX:LT) (aY:LB) (bm bn:Int) (bo:BA) (bp:LC) (bq:LT) (bv:LB) (J:(Br Tm)×Int->OS S):OS S:=ag (ar b.kids 1) fun x1=>aa k (m_ k (ae x1)) fun r2=>ag (ar b.kids 0) fun x3=>aa k (zI k (ae x3) aS (Tm.mk aZ a7 a8 a_ ba be) dH) fun r4=>aa k (eK k 6 [(Tm.mk r2.1 r2.2.1 r2.2.2.1 [] r2.2.2.2 []),(ae r4.1)]) fun r5=>aa k (eX k b.face [(Tm.mk r5.1 r5.2.1 r5.2.2.1 [] r5.2.2.2 [])]) fun r6=>J (r6,r4.2)
def xW (k:Nat) (J:LB×Int->OS S) (aS:LC) (aU:Int) (aV:BA) (aW:LC) (aX:LT) (aY:LB) (bm bn:Int) (bo:BA) (bp:LC) (bq:LT) (aZ:Int) (bv:LB) (a7:Int) (a8:BA) (a_:LC) (ba:LT) (be bw:LB) (bh:Int) (l:LB) (rec0:Int->Int->(LB)->OS S) (dp v10:Int) (out5:LB):OS S:=ac (decide ((v10:Int)<(l.length:Int))) (ag (ar l v10) fun x1=>aa k (DL k x1 dp aS aZ a7 a8 a_ ba be bw bh aU aV aW aX aY bm bn bo bp bq bv) fun r2=>ag (bH 1099511627776 out5.length [r2.1].length) fun x3=>rec0 r2.2 (aj .i64 (v10+1)) (out5++[r2.1])) (J (out5,dp))
def sP (k:Nat) (J:LB×Int->OS S) (aS:LC) (aU:Int) (aV:BA) (aW:LC) (aX:LT) (aY:LB) (bm bn:Int) (bo:BA) (bp:LC) (bq:LT) (aZ:Int) (bv:LB) (a7:Int) (a8:BA) (a_:LC) (ba:LT) (be bw:LB) (bh:Int) (l:LB):Nat->Int->Int->(LB)->OS S
 |0=>fun _ _ _=> .none
 |m+1=>fun dp v10 out5=>xW k J aS aU aV aW aX aY bm bn bo bp bq aZ bv a7 a8 a_ ba be bw bh l (sP k J aS aU aV aW aX aY bm bn bo bp bq aZ bv a7 a8 a_ ba be bw bh l m) dp v10 out5
def Hl (k:Nat) (J:LB×Int->OS S) (J0:Int->Int->(LB)->OS S) (l:LB) (dH:Int) (aS:LC) (aZ a7:Int) (a8:BA) (a_:LC) (ba:LT) (be bw:LB) (bh aU:Int) (aV:BA) (aW:LC) (aX:LT) (aY:LB) (bm bn:Int) (bo:BA) (bp:LC) (bq:LT) (bv:LB):OS S:=J0 dH 0 ([]:LB)
def u_ (k:Nat) (l:LB) (dH:Int) (aS:LC) (aZ a7:Int) (a8:BA) (a_:LC) (ba:LT) (be bw:LB) (bh aU:Int) (aV:BA) (aW:LC) (aX:LT) (aY:LB) (bm bn:Int) (bo:BA) (bp:LC) (bq:LT) (bv:LB) (J:LB×Int->OS S):OS S:=Hl k J (fun dp v10 out5=>sP k J aS aU aV aW aX aY bm bn bo bp bq aZ bv a7 a8 a_ ba be bw bh l k dp v10 out5) l dH aS aZ a7 a8 a_ ba be bw bh aU aV aW aX aY bm bn bo bp bq bv
def xV (k:Nat) (J:Int×LB×Int×Int×BA×LC×LT×LB->OS S) (c0_1:LC) (ct:Int) (cu:BA) (cv:LC) (cx:LT) (cz:LB) (b8 b9:Int) (b_:BA) (ca:LC) (ce:LT) (bQ:Int) (ci:LB) (bR:Int) (bS:BA) (bU:LC) (bV:LT) (bW:LB) (cA:Int) (g:Tm) (r3:Int×Int×BA×LT×LB) (rec0:Int->(LB)->Int->OS S) (kc:Int) (e0_8:LB) (v23:Int):OS S:=ac (decide ((v23:Int)<(g.sys.length:Int))) (ag (ar g.sys v23) fun x4=>aa k (zE k x4.face kc) fun r5=>ac (decide (((r5.1.length:Int):Int)>0)) (aa k (eX k r5.1 x4.kids) fun r6=>ag (bH 1099511627776 e0_8.length [r6].length) fun x7=>rec0 r5.2 (e0_8++[r6]) (aj .i64 (v23+1))) (rec0 r5.2 e0_8 (aj .i64 (v23+1)))) (aa k (u7 k kc c0_1 bQ bR bS bU bV bW e0_8 cA ct cu cv cx cz b8 b9 b_ ca ce ci (Tm.mk r3.1 r3.2.1 r3.2.2.1 [] r3.2.2.2.1 r3.2.2.2.2)) fun r8=>aa k (u_ k e0_8 r8.2 c0_1 bQ bR bS bU bV bW e0_8 cA ct cu cv cx cz b8 b9 b_ ca ce ci) fun r9=>ag (bH 1099511627776 r8.1.length r9.1.length) fun x10=>ag (ar g.kids 0) fun x11=>aa k (vd k (ae x11) (Tm.mk r3.1 r3.2.1 r3.2.2.1 [] r3.2.2.2.1 r3.2.2.2.2) (r8.1++r9.1) r9.2) fun r12=>J (r12.2,e0_8,r12.1.kind,r12.1.n,r12.1.name,r12.1.r,r12.1.kids,r12.1.sys))
def sO (k:Nat) (J:Int×LB×Int×Int×BA×LC×LT×LB->OS S) (c0_1:LC) (ct:Int) (cu:BA) (cv:LC) (cx:LT) (cz:LB) (b8 b9:Int) (b_:BA) (ca:LC) (ce:LT) (bQ:Int) (ci:LB) (bR:Int) (bS:BA) (bU:LC) (bV:LT) (bW:LB) (cA:Int) (g:Tm) (r3:Int×Int×BA×LT×LB):Nat->Int->(LB)->Int->OS S
 |0=>fun _ _ _=> .none
 |m+1=>fun kc e0_8 v23=>xV k J c0_1 ct cu cv cx cz b8 b9 b_ ca ce bQ ci bR bS bU bV bW cA g r3 (sO k J c0_1 ct cu cv cx cz b8 b9 b_ ca ce bQ ci bR bS bU bV bW cA g r3 m) kc e0_8 v23
def Hk (k:Nat) (J:Int×LB×Int×Int×BA×LC×LT×LB->OS S) (J0:(Int×Int×BA×LT×LB)->Int->(LB)->Int->OS S) (g:Tm) (dR:Int) (c0_1:LC) (bQ bR:Int) (bS:BA) (bU:LC) (bV:LT) (bW:LB) (cA ct:Int) (cu:BA) (cv:LC) (cx:LT) (cz:LB) (b8 b9:Int) (b_:BA) (ca:LC) (ce:LT) (ci:LB):OS S:=aa k (ve k (ae g) ([]:LC) dR) fun r1=>aa k (pP k (ae r1.1)) fun r2=>aa k (na k (Tm.mk bQ bR bS bU bV bW) r2) fun r3=>J0 r3 r1.2 ([]:LB) 0
def zp (k:Nat) (g:Tm) (dR:Int) (c0_1:LC) (bQ bR:Int) (bS:BA) (bU:LC) (bV:LT) (bW:LB) (cA ct:Int) (cu:BA) (cv:LC) (cx:LT) (cz:LB) (b8 b9:Int) (b_:BA) (ca:LC) (ce:LT) (ci:LB) (J:Int×LB×Int×Int×BA×LC×LT×LB->OS S):OS S:=Hk k J (fun r3 kc e0_8 v23=>sO k J c0_1 ct cu cv cx cz b8 b9 b_ ca ce bQ ci bR bS bU bV bW cA g r3 k kc e0_8 v23) g dR c0_1 bQ bR bS bU bV bW cA ct cu cv cx cz b8 b9 b_ ca ce ci
def Dv (k:Nat) (a_n:Int) (J:Int×Int×BA->OS S):OS S:=J (1,a_n,aw)
def yR (k:Nat) (t a f y:Tm) (c0:Int) (J:Int×Int×BA×LT×Int->OS S):OS S:=aa k (gV k (ae a) 1 1 c0) fun r1=>aa k (gV k (ae y) 1 0 r1.2) fun r2=>aa k (gV k (ae f) 1 0 r2.2) fun r3=>aa k (Dv k 0) fun r4=>aa k (eJ k 6 [(ae r3.1),(Tm.mk r4.1 r4.2.1 r4.2.2 [] [] [])]) fun r5=>aa k (eJ k 11 [(ae r1.1),(ae r2.1),(Tm.mk r5.1 r5.2.1 r5.2.2.1 [] r5.2.2.2 [])]) fun r6=>aa k (eJ k 7 [(ae t),(Tm.mk r6.1 r6.2.1 r6.2.2.1 [] r6.2.2.2 [])]) fun r7=>J (r7.1,r7.2.1,r7.2.2.1,r7.2.2.2,r3.2)
def yM (k:Nat) (t a f y:Tm) (J:Tm×Int->OS S):OS S:=aa k (m6 k [(ae t),(ae a),(ae f),(ae y)]) fun r1=>fF k (ae t) fun r2=>aa k (yR k (ae r2) (ae a) (ae f) (ae y) r1) fun r3=>aa k (fV k (Tm.mk r3.1 r3.2.1 r3.2.2.1 [] r3.2.2.2.1 []) r3.2.2.2.2) fun r4=>J ((ae r4.1),r4.2.1)
def zG (k:Nat) (t a f y:Tm) (c0:Int) (J:Tm×Int->OS S):OS S:=aa k (fE k c0) fun r1=>ac (!r1) (J ((Tm.mk 0 0 aw [] [] []),c0)) (aa k (yM k (ae t) (ae a) (ae f) (ae y)) fun r2=>aa k (kN k (ae r2.1) r2.2 c0) fun r3=>J ((ae r3.1),r3.2))
def u6 (k:Nat) (a_x c1:Tm) (jg:Int) (gf:LC) (gn gr:Int) (gu:BA) (gy:LC) (gA:LT) (gC gD:LB) (fS fN:Int) (fO:BA) (fP:LC) (fQ:LT) (fR:LB) (gg gh:Int) (gi:BA) (gj:LC) (gm:LT) (gq:LB) (J:Int×Int×BA×LC×LT×Int->OS S):OS S:=aa k (j_ k (ae c1) 0 1 jg) fun r1=>aa k (j_ k (ae a_x) 0 1 r1.2) fun r2=>aa k (j_ k (Tm.mk fS fN fO fP fQ fR) 0 2 r2.2) fun r3=>aa k (eK k 12 [(ae r3.1)]) fun r4=>aa k (eK k 8 [(ae r2.1),(Tm.mk r4.1 r4.2.1 r4.2.2.1 [] r4.2.2.2 [])]) fun r5=>aa k (eK k 10 [(ae r1.1)]) fun r6=>aa k (eK k 6 [(Tm.mk r6.1 r6.2.1 r6.2.2.1 [] r6.2.2.2 []),(Tm.mk r5.1 r5.2.1 r5.2.2.1 [] r5.2.2.2 [])]) fun r7=>aa k (eK k 9 [(ae r1.1)]) fun r8=>aa k (pS k 13 [(Cl.mk 1 0)] [(Tm.mk r7.1 r7.2.1 r7.2.2.1 [] r7.2.2.2 []),(Tm.mk r8.1 r8.2.1 r8.2.2.1 [] r8.2.2.2 []),(Tm.mk r5.1 r5.2.1 r5.2.2.1 [] r5.2.2.2 [])]) fun r9=>J (r9.1,r9.2.1,r9.2.2.1,r9.2.2.2.1,r9.2.2.2.2,r3.2)
def rI (k:Nat) (c2:Tm) (eU:Int) (cV:LC) (cM cO:Int) (cP:BA) (cQ:LC) (cR:LT) (cS dh:LB) (di cZ:Int) (c5:BA) (c6:LC) (c7:LT) (c8:LB) (c_ da:Int) (dc:BA) (de:LC) (df:LT) (dg:LB) (J:Int×Int×BA×LC×LT×Int->OS S):OS S:=aa k (u6 k (Tm.mk cM cO cP cQ cR cS) (ae c2) eU cV cM cO cP cQ cR cS dh di cZ c5 c6 c7 c8 c_ da dc de df dg) fun r1=>J (r1.1,r1.2.1,r1.2.2.1,r1.2.2.2.1,r1.2.2.2.2.1,r1.2.2.2.2.2)
def zt (k:Nat) (dR:Int) (c0_1:LC) (bQ bR:Int) (bS:BA) (bU:LC) (bV:LT) (bW dZ:LB) (cA ct:Int) (cu:BA) (cv:LC) (cx:LT) (cz:LB) (b8 b9:Int) (b_:BA) (ca:LC) (ce:LT) (ci:LB) (c3:Tm) (J:LB×Int->OS S):OS S:=ac ((c0_1.length:Int)==0) (J (([]:LB),dR)) (aa k (rI k (ae c3) dR c0_1 bQ bR bS bU bV bW dZ cA ct cu cv cx cz b8 b9 b_ ca ce ci) fun r1=>aa k (eX k c0_1 [(Tm.mk r1.1 r1.2.1 r1.2.2.1 r1.2.2.2.1 r1.2.2.2.2.1 [])]) fun r2=>J ([r2],r1.2.2.2.2.2))
def DM (k:Nat) (b:(Br Tm)) (c2:Tm) (eU:Int) (cV:LC) (cM cO:Int) (cP:BA) (cQ:LC) (cR:LT) (cS dh:LB) (di cZ:Int) (c5:BA) (c6:LC) (c7:LT) (c8:LB) (c_ da:Int) (dc:BA) (de:LC) (df:LT) (dg:LB) (J:(Br Tm)×Int->OS S):OS S:=ag (ar b.kids 0) fun x1=>aa k (pS k 14 cV [(ae x1),(Tm.mk cM cO cP cQ cR cS)]) fun r2=>aa k (u6 k (Tm.mk r2.1 r2.2.1 r2.2.2.1 r2.2.2.2.1 r2.2.2.2.2 []) (ae c2) eU cV cM cO cP cQ cR cS dh di cZ c5 c6 c7 c8 c_ da dc de df dg) fun r3=>aa k (eX k b.face [(Tm.mk r3.1 r3.2.1 r3.2.2.1 r3.2.2.2.1 r3.2.2.2.2.1 [])]) fun r4=>J (r4,r3.2.2.2.2.2)
def yb (k:Nat) (J:LB×Int->OS S) (c2:Tm) (cV:LC) (cZ:Int) (c5:BA) (c6:LC) (c7:LT) (c8:LB) (c_ da:Int) (dc:BA) (de:LC) (df:LT) (cM:Int) (dg:LB) (cO:Int) (cP:BA) (cQ:LC) (cR:LT) (cS dh:LB) (di:Int) (l:LB) (rec0:Int->Int->(LB)->OS S) (ez v10:Int) (out5:LB):OS S:=ac (decide ((v10:Int)<(l.length:Int))) (ag (ar l v10) fun x1=>aa k (DM k x1 (ae c2) ez cV cM cO cP cQ cR cS dh di cZ c5 c6 c7 c8 c_ da dc de df dg) fun r2=>ag (bH 1099511627776 out5.length [r2.1].length) fun x3=>rec0 r2.2 (aj .i64 (v10+1)) (out5++[r2.1])) (J (out5,ez))
def qc (k:Nat) (J:LB×Int->OS S) (c2:Tm) (cV:LC) (cZ:Int) (c5:BA) (c6:LC) (c7:LT) (c8:LB) (c_ da:Int) (dc:BA) (de:LC) (df:LT) (cM:Int) (dg:LB) (cO:Int) (cP:BA) (cQ:LC) (cR:LT) (cS dh:LB) (di:Int) (l:LB):Nat->Int->Int->(LB)->OS S
 |0=>fun _ _ _=> .none
 |m+1=>fun ez v10 out5=>yb k J c2 cV cZ c5 c6 c7 c8 c_ da dc de df cM dg cO cP cQ cR cS dh di l (qc k J c2 cV cZ c5 c6 c7 c8 c_ da dc de df cM dg cO cP cQ cR cS dh di l m) ez v10 out5
def Ho (k:Nat) (J:LB×Int->OS S) (J0:Int->Int->(LB)->OS S) (l:LB) (c2:Tm) (eU:Int) (cV:LC) (cM cO:Int) (cP:BA) (cQ:LC) (cR:LT) (cS dh:LB) (di cZ:Int) (c5:BA) (c6:LC) (c7:LT) (c8:LB) (c_ da:Int) (dc:BA) (de:LC) (df:LT) (dg:LB):OS S:=J0 eU 0 ([]:LB)
def zw (k:Nat) (l:LB) (c2:Tm) (eU:Int) (cV:LC) (cM cO:Int) (cP:BA) (cQ:LC) (cR:LT) (cS dh:LB) (di cZ:Int) (c5:BA) (c6:LC) (c7:LT) (c8:LB) (c_ da:Int) (dc:BA) (de:LC) (df:LT) (dg:LB) (J:LB×Int->OS S):OS S:=Ho k J (fun ez v10 out5=>qc k J c2 cV cZ c5 c6 c7 c8 c_ da dc de df cM dg cO cP cQ cR cS dh di l k ez v10 out5) l c2 eU cV cM cO cP cQ cR cS dh di cZ c5 c6 c7 c8 c_ da dc de df dg
def zr (k:Nat) (t a_e:Tm) (dR:Int) (c0_1:LC) (bQ bR:Int) (bS:BA) (bU:LC) (bV:LT) (bW dZ:LB) (cA ct:Int) (cu:BA) (cv:LC) (cx:LT) (cz:LB) (b8 b9:Int) (b_:BA) (ca:LC) (ce:LT) (ci:LB) (J:Int×Int×BA×LT×LB×Int->OS S):OS S:=aa k (eK k 10 [(ae a_e)]) fun r1=>aa k (eK k 6 [(Tm.mk r1.1 r1.2.1 r1.2.2.1 [] r1.2.2.2 []),(Tm.mk cA ct cu cv cx cz)]) fun r2=>aa k (m_ k (ae a_e)) fun r3=>aa k (zG k (ae t) (Tm.mk b8 b9 b_ ca ce ci) (Tm.mk r3.1 r3.2.1 r3.2.2.1 [] r3.2.2.2 []) (Tm.mk cA ct cu cv cx cz) dR) fun r4=>aa k (zt k r4.2 c0_1 bQ bR bS bU bV bW dZ cA ct cu cv cx cz b8 b9 b_ ca ce ci (Tm.mk r2.1 r2.2.1 r2.2.2.1 [] r2.2.2.2 [])) fun r5=>aa k (zw k dZ (Tm.mk r2.1 r2.2.1 r2.2.2.1 [] r2.2.2.2 []) r5.2 c0_1 bQ bR bS bU bV bW dZ cA ct cu cv cx cz b8 b9 b_ ca ce ci) fun r6=>ag (bH 1099511627776 r5.1.length r6.1.length) fun x7=>aa k (eK k 9 [(Tm.mk r2.1 r2.2.1 r2.2.2.1 [] r2.2.2.2 [])]) fun r8=>aa k (h_ k 15 (r5.1++r6.1) [(ae r4.1),(Tm.mk r8.1 r8.2.1 r8.2.2.1 [] r8.2.2.2 [])]) fun r9=>J (r9.1,r9.2.1,r9.2.2.1,r9.2.2.2.1,r9.2.2.2.2,r6.2)
def DJ (k:Nat) (b:(Br Tm)) (dH:Int) (aS:LC) (aZ a7:Int) (a8:BA) (a_:LC) (ba:LT) (be bw:LB) (bh aU:Int) (aV:BA) (aW:LC) (aX:LT) (aY:LB) (bm bn:Int) (bo:BA) (bp:LC) (bq:LT) (bv:LB) (J:Int×Int×BA×LT×LB×Int->OS S):OS S:=ag (ar b.kids 0) fun x1=>ag (ar b.kids 1) fun x2=>aa k (zr k (ae x1) (ae x2) dH aS aZ a7 a8 a_ ba be bw bh aU aV aW aX aY bm bn bo bp bq bv) fun r3=>J (r3.1,r3.2.1,r3.2.2.1,r3.2.2.2.1,r3.2.2.2.2.1,r3.2.2.2.2.2)
def x_ (k:Nat) (J:LT×Int->OS S) (aS:LC) (aU:Int) (aV:BA) (aW:LC) (aX:LT) (aY:LB) (bm bn:Int) (bo:BA) (bp:LC) (bq:LT) (aZ:Int) (bv:LB) (a7:Int) (a8:BA) (a_:LC) (ba:LT) (be bw:LB) (bh:Int) (l:LB) (rec0:Int->Int->(LT)->OS S) (dp v10:Int) (out5:LT):OS S:=ac (decide ((v10:Int)<(l.length:Int))) (ag (ar l v10) fun x1=>aa k (DJ k x1 dp aS aZ a7 a8 a_ ba be bw bh aU aV aW aX aY bm bn bo bp bq bv) fun r2=>ag (bH 1099511627776 out5.length [(Tm.mk r2.1 r2.2.1 r2.2.2.1 [] r2.2.2.2.1 r2.2.2.2.2.1)].length) fun x3=>rec0 r2.2.2.2.2.2 (aj .i64 (v10+1)) (out5++[(Tm.mk r2.1 r2.2.1 r2.2.2.1 [] r2.2.2.2.1 r2.2.2.2.2.1)])) (J (out5,dp))
def sU (k:Nat) (J:LT×Int->OS S) (aS:LC) (aU:Int) (aV:BA) (aW:LC) (aX:LT) (aY:LB) (bm bn:Int) (bo:BA) (bp:LC) (bq:LT) (aZ:Int) (bv:LB) (a7:Int) (a8:BA) (a_:LC) (ba:LT) (be bw:LB) (bh:Int) (l:LB):Nat->Int->Int->(LT)->OS S
 |0=>fun _ _ _=> .none
 |m+1=>fun dp v10 out5=>x_ k J aS aU aV aW aX aY bm bn bo bp bq aZ bv a7 a8 a_ ba be bw bh l (sU k J aS aU aV aW aX aY bm bn bo bp bq aZ bv a7 a8 a_ ba be bw bh l m) dp v10 out5
def Hn (k:Nat) (J:LT×Int->OS S) (J0:Int->Int->(LT)->OS S) (l:LB) (dH:Int) (aS:LC) (aZ a7:Int) (a8:BA) (a_:LC) (ba:LT) (be bw:LB) (bh aU:Int) (aV:BA) (aW:LC) (aX:LT) (aY:LB) (bm bn:Int) (bo:BA) (bp:LC) (bq:LT) (bv:LB):OS S:=J0 dH 0 ([]:LT)
def rK (k:Nat) (l:LB) (dH:Int) (aS:LC) (aZ a7:Int) (a8:BA) (a_:LC) (ba:LT) (be bw:LB) (bh aU:Int) (aV:BA) (aW:LC) (aX:LT) (aY:LB) (bm bn:Int) (bo:BA) (bp:LC) (bq:LT) (bv:LB) (J:LT×Int->OS S):OS S:=Hn k J (fun dp v10 out5=>sU k J aS aU aV aW aX aY bm bn bo bp bq aZ bv a7 a8 a_ ba be bw bh l k dp v10 out5) l dH aS aZ a7 a8 a_ ba be bw bh aU aV aW aX aY bm bn bo bp bq bv
def rG (k:Nat) (dH:Int) (aS:LC) (aZ a7:Int) (a8:BA) (a_:LC) (ba:LT) (be bw:LB) (bh aU:Int) (aV:BA) (aW:LC) (aX:LT) (aY:LB) (bm bn:Int) (bo:BA) (bp:LC) (bq:LT) (bv:LB) (J:Tm×Int->OS S):OS S:=aa k (j_ k (Tm.mk bh aU aV aW aX aY) 0 1 dH) fun r1=>J ((ae r1.1),r1.2)
def rJ (k:Nat) (dR:Int) (c0_1:LC) (bQ bR:Int) (bS:BA) (bU:LC) (bV:LT) (bW dZ:LB) (cA ct:Int) (cu:BA) (cv:LC) (cx:LT) (cz:LB) (b8 b9:Int) (b_:BA) (ca:LC) (ce:LT) (ci:LB) (J:LB×Int->OS S):OS S:=ac ((c0_1.length:Int)==0) (J (([]:LB),dR)) (aa k (rG k dR c0_1 bQ bR bS bU bV bW dZ cA ct cu cv cx cz b8 b9 b_ ca ce ci) fun r1=>aa k (eX k c0_1 [(ae r1.1)]) fun r2=>J ([r2],r1.2))
def xU (k:Nat) (J:Tm×Bool×Int->OS S) (r3:Tm) (r6:Int×LB×Int×Int×BA×LC×LT×LB) (x4:Tm) (r8:Tm×Int) (rec0:Int->Int->Int->BA->(LC)->(LT)->(LB)->(LB)->Int->(LT)->(LB)->OS S) (jU jV jW:Int) (jX:BA) (jY:LC) (jZ:LT) (j0 parts10:LB) (v79:Int) (ws8:LT) (sys9:LB):OS S:=ac (decide ((v79:Int)<(r8.1.sys.length:Int))) (ag (ar r8.1.sys v79) fun x12=>ag (ar ws8 v79) fun x13=>ag (ar ws8 v79) fun x14=>aa k (j_ k (ae x14) 0 1 jU) fun r15=>aa k (j_ k (Tm.mk r6.2.2.1 r6.2.2.2.1 r6.2.2.2.2.1 r6.2.2.2.2.2.1 r6.2.2.2.2.2.2.1 r6.2.2.2.2.2.2.2) 0 1 r15.2) fun r16=>ag (ar x12.kids 1) fun x17=>aa k (j_ k (ae x17) 0 1 r16.2) fun r18=>aa k (m_ k (ae r18.1)) fun r19=>aa k (eK k 9 [(ae r15.1)]) fun r20=>aa k (eK k 6 [(Tm.mk r19.1 r19.2.1 r19.2.2.1 [] r19.2.2.2 []),(Tm.mk r20.1 r20.2.1 r20.2.2.1 [] r20.2.2.2 [])]) fun r21=>aa k (eK k 10 [(ae r15.1)]) fun r22=>aa k (pS k 13 [(Cl.mk 1 0)] [(Tm.mk r22.1 r22.2.1 r22.2.2.1 [] r22.2.2.2 []),(ae r16.1),(Tm.mk r21.1 r21.2.1 r21.2.2.1 [] r21.2.2.2 [])]) fun r23=>aa k (eX k x12.face [(Tm.mk r23.1 r23.2.1 r23.2.2.1 r23.2.2.2.1 r23.2.2.2.2 [])]) fun r24=>ag (bH 1099511627776 sys9.length [r24].length) fun x25=>ag (ar ws8 v79) fun x26=>ag (ar ws8 v79) fun x27=>aa k (eK k 9 [(ae x27)]) fun r28=>aa k (eX k x12.face [(Tm.mk r28.1 r28.2.1 r28.2.2.1 [] r28.2.2.2 [])]) fun r29=>ag (bH 1099511627776 parts10.length [r29].length) fun x30=>rec0 r18.2 jV jW jX jY jZ j0 (parts10++[r29]) (aj .i64 (v79+1)) ws8 (sys9++[r24])) (aa k (h_ k 15 sys9 [(Tm.mk jV jW jX jY jZ j0),(Tm.mk r6.2.2.1 r6.2.2.2.1 r6.2.2.2.2.1 r6.2.2.2.2.2.1 r6.2.2.2.2.2.2.1 r6.2.2.2.2.2.2.2)]) fun r31=>aa k (h_ k 17 parts10 [(Tm.mk r31.1 r31.2.1 r31.2.2.1 [] r31.2.2.2.1 r31.2.2.2.2)]) fun r32=>aa k (mi k (Tm.mk r32.1 r32.2.1 r32.2.2.1 [] r32.2.2.2.1 r32.2.2.2.2) jU) fun r33=>J ((ae r33.1),r33.2.1,r33.2.2.1))
def oL (k:Nat) (J:Tm×Bool×Int->OS S) (r3:Tm) (r6:Int×LB×Int×Int×BA×LC×LT×LB) (x4:Tm) (r8:Tm×Int):Nat->Int->Int->Int->BA->(LC)->(LT)->(LB)->(LB)->Int->(LT)->(LB)->OS S
 |0=>fun _ _ _ _ _ _ _ _ _ _ _=> .none
 |m+1=>fun jU jV jW jX jY jZ j0 parts10 v79 ws8 sys9=>xU k J r3 r6 x4 r8 (oL k J r3 r6 x4 r8 m) jU jV jW jX jY jZ j0 parts10 v79 ws8 sys9
def Hj (k:Nat) (J:Tm×Bool×Int->OS S) (J0:Tm->(Int×LB×Int×Int×BA×LC×LT×LB)->Tm->(Tm×Int)->Int->Int->Int->BA->(LC)->(LT)->(LB)->(LB)->Int->(LT)->(LB)->OS S) (t:Tm):OS S:=aa k (lw k (ae t)) fun r1=>ac (!(r1==0)) (J ((Tm.mk 0 0 aw [] [] []),false,r1)) (ac (!(t.kind==14)) (J ((Tm.mk 0 0 aw [] [] []),false,0)) (ag (ar t.kids 0) fun x2=>ac (!(x2.kind==16)) (J ((Tm.mk 0 0 aw [] [] []),false,0)) (fF k (ae t) fun r3=>ag (ar r3.kids 1) fun x4=>ag (ar r3.kids 0) fun x5=>aa k (zp k (ae x5) 0 r3.r x4.kind x4.n x4.name x4.r x4.kids x4.sys 0 0 aw [] [] [] 0 0 aw [] [] []) fun r6=>ag (ar r3.kids 0) fun x7=>aa k (zF k (ae x7) r6.1) fun r8=>ac ((r8.1.kids.length:Int)==1) (ag (ar r8.1.kids 0) fun x9=>aa k (rK k r8.1.sys r8.2 r3.r x4.kind x4.n x4.name x4.r x4.kids x4.sys r6.2.1 r6.2.2.1 r6.2.2.2.1 r6.2.2.2.2.1 r6.2.2.2.2.2.1 r6.2.2.2.2.2.2.1 r6.2.2.2.2.2.2.2 x9.kind x9.n x9.name x9.r x9.kids x9.sys) fun r10=>aa k (rJ k r10.2 r3.r x4.kind x4.n x4.name x4.r x4.kids x4.sys r6.2.1 r6.2.2.1 r6.2.2.2.1 r6.2.2.2.2.1 r6.2.2.2.2.2.1 r6.2.2.2.2.2.2.1 r6.2.2.2.2.2.2.2 x9.kind x9.n x9.name x9.r x9.kids x9.sys) fun r11=>J0 r3 r6 x4 r8 r11.2 x9.kind x9.n x9.name x9.r x9.kids x9.sys ([]:LB) 0 r10.1 r11.1) (aa k (rK k r8.1.sys r8.2 r3.r x4.kind x4.n x4.name x4.r x4.kids x4.sys r6.2.1 r6.2.2.1 r6.2.2.2.1 r6.2.2.2.2.1 r6.2.2.2.2.2.1 r6.2.2.2.2.2.2.1 r6.2.2.2.2.2.2.2 0 0 aw [] [] []) fun r34=>aa k (rJ k r34.2 r3.r x4.kind x4.n x4.name x4.r x4.kids x4.sys r6.2.1 r6.2.2.1 r6.2.2.2.1 r6.2.2.2.2.1 r6.2.2.2.2.2.1 r6.2.2.2.2.2.2.1 r6.2.2.2.2.2.2.2 0 0 aw [] [] []) fun r35=>J0 r3 r6 x4 r8 r35.2 0 0 aw [] [] [] ([]:LB) 0 r34.1 r35.1))))
def u4 (k:Nat) (t:Tm) (J:Tm×Bool×Int->OS S):OS S:=Hj k J (fun r3 r6 x4 r8 jU jV jW jX jY jZ j0 parts10 v79 ws8 sys9=>oL k J r3 r6 x4 r8 k jU jV jW jX jY jZ j0 parts10 v79 ws8 sys9) t
def yh (k:Nat) (J:Bool->OS S) (a b:LC) (rec0:Int->OS S) (i5:Int):OS S:=ac (decide ((i5:Int)<(a.length:Int))) (ag (ar a i5) fun x1=>ag (ar b i5) fun x2=>ac (!((x1.pos==x2.pos)&&((x1.neg==x2.neg)&&true))) (J false) (rec0 (aj .i64 (i5+1)))) (J true)
def sY (k:Nat) (J:Bool->OS S) (a b:LC):Nat->Int->OS S
 |0=>fun _=> .none
 |m+1=>fun i5=>yh k J a b (sY k J a b m) i5
def Ht (k:Nat) (J:Bool->OS S) (J0:Int->OS S) (a b:LC):OS S:=ac (!((a.length:Int)==(b.length:Int))) (J false) (J0 0)
def rO (k:Nat) (a b:LC) (J:Bool->OS S):OS S:=Ht k J (fun i5=>sY k J a b k i5) a b
abbrev ja (S:Type):=Tm->Tm->(Bool->OS S)->OS S
def yk (hd:ja S) (k:Nat) (J:Bool->OS S) (a b:LT) (rec0:Int->OS S) (i5:Int):OS S:=ac (decide ((i5:Int)<(a.length:Int))) (ag (ar a i5) fun x1=>ag (ar b i5) fun x2=>hd (ae x1) (ae x2) fun r3=>ac (!r3) (J false) (rec0 (aj .i64 (i5+1)))) (J true)
def s8 (hd:ja S) (k:Nat) (J:Bool->OS S) (a b:LT):Nat->Int->OS S
 |0=>fun _=> .none
 |m+1=>fun i5=>yk hd k J a b (s8 hd k J a b m) i5
def Hw (hd:ja S) (k:Nat) (J:Bool->OS S) (J0:Int->OS S) (a b:LT):OS S:=ac (!((a.length:Int)==(b.length:Int))) (J false) (J0 0)
def vf (hd:ja S) (k:Nat) (a b:LT) (J:Bool->OS S):OS S:=Hw hd k J (fun i5=>s8 hd k J a b k i5) a b
def yj (hd:ja S) (k:Nat) (J:Bool->OS S) (a b:Tm) (rec0:Int->OS S) (i5:Int):OS S:=ac (decide ((i5:Int)<(a.sys.length:Int))) (ag (ar a.sys i5) fun x3=>ag (ar b.sys i5) fun x4=>aa k (rO k x3.face x4.face) fun r5=>ac (!r5) (J false) (ag (ar a.sys i5) fun x6=>ag (ar b.sys i5) fun x7=>aa k (vf hd k x6.kids x7.kids) fun r8=>ac (!r8) (J false) (rec0 (aj .i64 (i5+1))))) (J true)
def sZ (hd:ja S) (k:Nat) (J:Bool->OS S) (a b:Tm):Nat->Int->OS S
 |0=>fun _=> .none
 |m+1=>fun i5=>yj hd k J a b (sZ hd k J a b m) i5
def Hv (hd:ja S) (k:Nat) (J:Bool->OS S) (J0:Int->OS S) (a b:Tm):OS S:=ac (!(a.kind==b.kind)) (J false) (ac (!(a.n==b.n)) (J false) (ac (!(a.name==b.name)) (J false) (aa k (rO k a.r b.r) fun r1=>ac (!r1) (J false) (aa k (vf hd k a.kids b.kids) fun r2=>ac (!r2) (J false) (ac (!((a.sys.length:Int)==(b.sys.length:Int))) (J false) (J0 0))))))
def gH:Nat->Tm->Tm->(Bool->OS S)->OS S
 |0=>fun _ _ _=> .none
 |k+1=>fun a b J=>Hv (gH k) k J (fun i5=>sZ (gH k) k J a b k i5) a b
abbrev SY (S:Type):=Tm->(Tm->OS S)->OS S
abbrev SZ (S:Type):=Tm->(Int->OS S)->OS S
abbrev S0 (S:Type):=Tm->(Int->OS S)->OS S
abbrev SX (S:Type):=Tm->Int->Int->Bool->(Bool->OS S)->OS S
abbrev S1 (S:Type):=Tm->Int->Int->Int->Int->(Tm->OS S)->OS S
abbrev S4 (S:Type):=Tm->Int->(LC)->Int->Bool->(Tm->OS S)->OS S
end
end Go.Proofs.YtgajalidbabccaaGreatDoor
