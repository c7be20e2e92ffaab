/- Part 2 of a proof: the sources, with their names and remarks, lie in wip/. -/
import Derived.Test.YtfkkpkhfjpaafaaGreatDoorX1
import Derived.Recover
import Derived.Orders
import Derived.Test.YtfkkpkhfjpaafaaGreatDoorProg
import Derived.KernelRfl
namespace Go.Proofs.YtfkkpkhfjpaafaaGreatDoor.PI
open Go
set_option linter.unusedVariables false
set_option linter.unusedSimpArgs false
section
variable {U:Uni} {V:Env U} {P:Program} {X:Link V P}
theorem alD {boxes:List (Box U)}: ∀ (n s id:Nat) (bs:List (Box U)),n=bs.length→cq ((cK s n).zip bs) id=if s≤id then bs[id-s]? else none:=by
 intro n
 induction n with
 |zero=>intro s id bs h;have:bs=[]:=List.eq_nil_of_length_eq_zero h.symm;subst this;simp [cK,cq]
 |succ n ih=>
  intro s id bs h
  cases bs with
  |nil=>simp at h
  |cons b bs=>
   simp only [cK,List.zip_cons_cons,iD]
   rw [ih (s+1) id bs (by simpa using h)]
   by_cases h1:s=id
   ·subst h1;simp
   ·rw [if_neg h1]
    by_cases h2:s≤id
    ·rw [if_pos h2,if_pos (by omega)]
     obtain ⟨k,rfl⟩: ∃k,id=s+(k+1):=⟨id-s-1,by omega⟩
     rw [show s+(k+1)-(s+1)=k by omega,show s+(k+1)-s=k+1 by omega]
     simp
    ·rw [if_neg h2,if_neg (by omega)]
def e9 (n:Nat) (ν:Nat→Nat) (args:List (PV U)) (vs:Array Value):Gh U:=
 ⟨fun id=>if 1000000≤id∧id-1000000<n then some (ν (id-1000000)) else none,
  fun i=>if 2000000≤i then (fi args (i-2000000)).map (fun ob=>(0,ob.e,vs.getD (i-2000000) undef)) else none⟩
def mC (args:List (PV U)) (δ:Nat→Option Nat):Nat→Option Nat:=fun i=>if 2000000≤i then (fi args (i-2000000)).bind fun _=>δ (i-2000000) else none
def gm (w:World) (N0:aN) (n m:Nat) (ν:Nat→Nat) (δ:Nat→Option Nat) (nt:Nat) (hnt:nt≤1000000) (h:Bnd w N0 n ν δ) (gl:List (Nat×Obj)) (hgl: ∀b o,(b,o)∈gl→w.heap[b]? =some o∧(∀i,i<n→ν i≠b)∧ ∀j,δ j≠some b):Ctx:=
 ⟨w,N0,h8 n m ν δ,nt,fun b o hn=>⟨(h.n0 b o hn).1,fun hm=>by
  rcases List.mem_append.1 hm with hm|hm
  ·obtain ⟨k,hk,e⟩:=List.mem_map.1 hm
   exact (h.n0 b o hn).2.1 k (List.mem_range.1 hk) e
  ·obtain ⟨j,_,hj⟩:=List.mem_filterMap.1 hm
   exact (h.n0 b o hn).2.2 j hj⟩,
  fun id=>if 1000000≤id∧id-1000000<n then some (ν (id-1000000)) else none,fun id k h=>(by
  split at h
  ·rename_i h1;exact ⟨h1.1,Nat.le_trans hnt h1.1⟩
  ·cases h),
  gl,fun b o hb=>⟨(hgl b o hb).1,fun hm=>by
  rcases List.mem_append.1 hm with hm|hm
  ·obtain ⟨k,hk,e⟩:=List.mem_map.1 hm
   exact (hgl b o hb).2.1 k (List.mem_range.1 hk) e
  ·obtain ⟨j,_,hj⟩:=List.mem_filterMap.1 hm
   exact (hgl b o hb).2.2 j hj⟩⟩
structure CtxOf (c:Ctx) (w:World) (N0:aN) (n m:Nat) (ν:Nat→Nat) (δ:Nat→Option Nat):Prop where
 cw:c.w0=w
 cN:c.N0=N0
 bl:c.bl=h8 n m ν δ
 fix: ∀i,i<n→c.fix (df i)=some (ν i)
 other: ∀id k,c.fix id=some k→(∃i,i<n∧id=df i)∨w.heap.size≤k
 bnd:Bnd w N0 n ν δ
theorem lc {w:World} {N0:aN} {n m nt:Nat} {ν:Nat→Nat} {δ:Nat→Option Nat} {hnt:nt≤1000000} {h:Bnd w N0 n ν δ} {gl:List (Nat×Obj)} {hgl: ∀b o,(b,o)∈gl→w.heap[b]? =some o∧(∀i,i<n→ν i≠b)∧ ∀j,δ j≠some b}:CtxOf (gm w N0 n m ν δ nt hnt h gl hgl) w N0 n m ν δ where
 cw:=rfl
 cN:=rfl
 bl:=rfl
 fix i hi:=by
  simp only [gm,df]
  rw [if_pos ⟨by omega,by omega⟩,show 1000000+i-1000000=i by omega]
 other id k hk:=by
  simp only [gm] at hk
  split at hk
  ·rename_i h1;exact .inl ⟨id-1000000,h1.2,by simp [df];omega⟩
  ·cases hk
 bnd:=h
variable {w:World} {vs:Array Value} {N0:aN} {ν:Nat→Nat} {δ:Nat→Option Nat} {args:List (PV U)} {boxes:List (Box U)}
theorem wj {i b:Nat} (h:mC args δ i=some b):2000000≤i∧δ (i-2000000)=some b∧(fi args (i-2000000)).isSome=true:=by
 unfold mC at h
 split at h
 ·rename_i hi
  cases hf:fi args (i-2000000) with
  |none=>rw [hf] at h;cases h
  |some ob=>rw [hf] at h;exact ⟨hi,h,rfl⟩
 ·cases h
theorem aku (hg:Given X w vs N0 ν δ args boxes) (nt:Nat) (hnt:nt≤1000000): ∀b o,((gm w N0 boxes.length args.length ν δ nt hnt hg.bnd X.gblk hg.glob).N (e9 boxes.length ν args vs) (mC args δ)) b o→(NB N0 boxes.length ν δ) b o:=by
 rintro b o (hn|⟨id,hid⟩|⟨i,hi⟩)
 ·exact .inl hn
 ·simp only [e9] at hid
  split at hid
  ·rename_i h1
   injection hid with hid
   exact .inr (.inl ⟨_,h1.2,hid⟩)
  ·cases hid
 ·exact .inr (.inr ⟨_,(wj hi).2.1⟩)
theorem R_ (id:Nat):(gU args boxes).b id=if 1000000≤id then (boxes.map (Box.ren false df))[id-1000000]? else none:=by
 unfold St.b gU
 simp only
 rw [alD (boxes:=boxes) _ _ _ _ (by simp)]
 rfl
theorem BO (hg:Given X w vs N0 ν δ args boxes) {nt:Nat} (hnt:args.length≤nt) (hnt2:nt≤1000000):
  Sim X (gm w N0 boxes.length args.length ν δ nt hnt2 hg.bnd X.gblk hg.glob) (vs++Array.replicate (nt-vs.size) undef) w (gU args boxes) (e9 boxes.length ν args vs) (mC args δ):=by
 have hsub:=aku hg nt hnt2
 have hμ: ∀i b,(gB U boxes.length ν).μ i=some b→(e9 boxes.length ν args vs).μ (df i)=some b:=by
  intro i b hb
  simp only [gB] at hb
  split at hb
  ·rename_i hi
   simp only [e9,df]
   rw [if_pos ⟨by omega,by omega⟩,show 1000000+i-1000000=i by omega]
   exact hb
  ·cases hb
 have hvs: ∀n,n<args.length→(vs++Array.replicate (nt-vs.size) undef).getD n undef=vs.getD n undef:=by
  intro n hn
  have:n<vs.size:=by rw [hg.size];exact hn
  simp [Array.getD_eq_getD_getElem?,Array.getElem?_append,this]
 have ho: ∀i ob,(gU args boxes).o i=some ob→2000000≤i∧fi args (i-2000000)=some ob:=by
  intro i ob h
  unfold St.o gU at h
  simp only [R8] at h
  split at h
  ·rename_i hi;exact ⟨by omega,by simpa using h⟩
  ·cases h
 have hb: ∀id b,(gU args boxes).b id=some b→1000000≤id∧ ∃b0,boxes[id-1000000]? =some b0∧b=b0.ren false df:=by
  intro id b h
  rw [R_] at h
  by_cases hi:1000000≤id
  ·rw [if_pos hi,List.getElem?_map,Option.map_eq_some_iff] at h
   obtain ⟨b0,h1,h2⟩:=h
   exact ⟨by omega,b0,h1,h2.symm⟩
  ·rw [if_neg hi] at h;cases h
 refine {nt:=by simp [gm,hg.size];omega,regs:=fun n=> ?_,boxes:=fun id b h=> ?_,dom:=fun id k hk=> ?_,inj:=fun id id' k h1 h2=> ?_,new:=fun id k hk=> ?_,objs:=fun i ob h=> ?_,nobj:=fun i h=> ?_,dinj:=fun i j b h1 h2=> ?_,dnew:=fun i b h=> ?_,dbox:=fun i id b h1 h2=> ?_,ext:=Ext.refl _ _,gl:=rfl,fix:=fun id k hk=> .inl hk}
 ·unfold St.r gU
  simp only [akt,Nat.zero_le,if_true,Nat.sub_zero]
  cases hp:args[n]? with
  |none=>simp only [Option.map_none];exact .undef _
  |some p=>
   simp only [Option.map_some]
   have hn:=(List.getElem?_eq_some_iff.1 hp).1
   rw [hvs n hn]
   have hr:=hg.args n p hp
   by_cases hf:p.notFresh=true
   ·have:=(hr.rep hf).ren (g':=e9 boxes.length ν args vs) (N':=(gm w N0 boxes.length args.length ν δ nt hnt2 hg.bnd X.gblk hg.glob).N (e9 boxes.length ν args vs) (mC args δ)) false df (fun _ _ _ _=>rfl) (fun b o _ h=>hsub b o h) (.inr fun _=>rfl) fun i _ b hb=>hμ i b hb
    cases p<;>first|exact this|cases hf
   ·cases p with
    |fresh e l=>
     obtain ⟨A,n',cp,hval,_⟩:=(show ObOK X w _ _ e l (vs.getD n undef) .wr (δ n) from hr).val
     have hfa:fi args n=some ⟨0,e,l⟩:=by unfold fi;rw [hp]
     refine .own (2000000+n) 0 _ 0 e (vs.getD n undef) ?_ (Nat.le_refl _) (fun _=>rfl) ⟨A,n',cp,hval⟩
     simp only [e9]
     rw [if_pos (by omega),show 2000000+n-2000000=n by omega,hfa];rfl
    |_=>exact absurd rfl hf
 ·obtain ⟨h1,b0,h2,rfl⟩:=hb id b h
  have hlt:=(List.getElem?_eq_some_iff.1 h2).1
  have hμid:(e9 boxes.length ν args vs).μ id=some (ν (id-1000000)):=if_pos ⟨h1,hlt⟩
  refine ⟨ν (id-1000000),hμid, ?_⟩
  exact (hg.boxes _ b0 h2).ren false df rfl (fun _ _ _ _=>rfl) (fun b o _ h=>hsub b o h) (.inr fun _=>rfl) fun i _ b hb=>hμ i b hb
 ·simp only [e9] at hk
  split at hk
  ·rename_i h1
   obtain ⟨hx1,hx2⟩:=h1
   obtain ⟨b0,hb0⟩: ∃b0,boxes[id-1000000]? =some b0:=⟨_,List.getElem?_eq_getElem hx2⟩
   exact ⟨b0.ren false df,by rw [R_,if_pos hx1,List.getElem?_map,hb0];rfl⟩
  ·cases hk
 ·simp only [e9] at h1 h2
  split at h1
  ·rename_i q1
   split at h2
   ·rename_i q2
    injection h1 with h1
    injection h2 with h2
    have:=hg.bnd.inj _ _ q1.2 q2.2 (h1.trans h2.symm)
    omega
   ·cases h2
  ·cases h1
 ·simp only [e9] at hk
  split at hk
  ·rename_i h1
   injection hk with hk
   subst hk
   exact ⟨hg.bnd.lt _ h1.2,.inl (List.mem_append.2 (.inl (List.mem_map.2 ⟨_,List.mem_range.2 h1.2,rfl⟩)))⟩
  ·cases hk
 ·obtain ⟨h1,h2⟩:=ho i ob h
  have hp: ∃e l,args[i-2000000]? =some (.fresh e l)∧ob=⟨0,e,l⟩:=by
   unfold fi at h2
   split at h2
   ·rename_i e l hq
    injection h2 with h2
    exact ⟨e,l,hq,h2.symm⟩
   ·cases h2
  obtain ⟨e,l,hp,rfl⟩:=hp
  have hO:ObOK X w (NB N0 boxes.length ν δ) (gB U boxes.length ν) e l (vs.getD (i-2000000) undef) .wr (δ (i-2000000)):=hg.args _ _ hp
  refine ⟨vs.getD (i-2000000) undef,by simp only [e9];rw [if_pos h1,h2];rfl, ?_⟩
  have hu:(gU args boxes).u i= .wr:=by
   unfold St.u gU
   simp only
   have hlook: ∀ (l:List (Nat×Ob U)) (n:Nat),cq (l.map fun x=>(x.1,Use.wr)) n=(cq l n).map fun _=>Use.wr:=by
    intro l n
    induction l with
    |nil=>rfl
    |cons x l ih=>
     obtain ⟨m,y⟩:=x
     simp only [List.map_cons,iD,ih]
     split<;>rfl
   rw [hlook]
   have h':cq (gV 0 args) i=some ⟨0,e,l⟩:=h
   rw [h'];rfl
  have hD:mC args δ i=δ (i-2000000):=by simp only [mC];rw [if_pos h1,h2];rfl
  rw [hu,hD]
  exact hO.turn (fun _ _=>rfl) (fun _ _ _ _=>rfl) (fun b o _ h=>hsub b o h)
 ·have hf:2000000≤i→fi args (i-2000000)=none:=by
   intro hi
   have h':cq (gV 0 args) i=none:=h
   rw [R8,if_pos (by omega)] at h'
   simpa using h'
  constructor
  ·simp only [e9]
   split
   ·rename_i hi;rw [hf hi];rfl
   ·rfl
  ·simp only [mC]
   split
   ·rename_i hi;rw [hf hi];rfl
   ·rfl
 ·obtain ⟨a1,a2,_⟩:=wj h1
  obtain ⟨b1,b2,_⟩:=wj h2
  have:=hg.bnd.dinj _ _ _ a2 b2
  omega
 ·obtain ⟨a1,a2,_⟩:=wj h
  exact ⟨hg.bnd.dlt _ _ a2,.inl (List.mem_append.2 (.inr (List.mem_filterMap.2 ⟨_,List.mem_range.2 (hg.dom _ _ a2),a2⟩)))⟩
 ·obtain ⟨a1,a2,_⟩:=wj h1
  simp only [e9] at h2
  split at h2
  ·rename_i q
   injection h2 with h2
   exact hg.bnd.dν _ _ a2 _ q.2 h2
  ·cases h2
end
end Go.Proofs.YtfkkpkhfjpaafaaGreatDoor.PI
namespace Go.Proofs.YtfkkpkhfjpaafaaGreatDoor.PI
open Go
set_option linter.unusedVariables false
set_option linter.unusedSimpArgs false
section
variable {U:Uni} {V:Env U} {P:Program} {X:Link V P} {K:cj U} {c:Ctx} {tm:Array Value} {w:World} {σ:St U} {g:Gh U} {D:Nat→Option Nat}
variable {r:MR U} {τ:St U} {gp:List Loc}
def mz (tmps:Array Value):ResultVar→Sem Value
 | .tmp t=>pure (tmps.getD t undef)
 | .cell a t=>do loadVar t (←asAddr (tmps.getD a undef))
theorem ais (fn:Func) (tmps:Array Value):results fn tmps=(do
  let vs←fn.results.mapM (mz tmps)
  pure (if h:vs.size=1 then vs[0] else .tuple vs)):=by
 unfold results mz
 rfl
theorem air (h:Sim X c tm w σ g D): ∀ (res:List ResultVar) {k:List (PV U)→M U} {fp:List Loc},(ry V res k).Rel K σ fp r τ gp→
  ∃ps us fp',(k ps).Rel K σ fp' r τ gp∧us.length=ps.length∧(∀ (j:Nat) p,ps[j]? =some p→Rep X w (c.N g D) g (us.getD j undef) p)∧(res.mapM (mz tm)).run P w= .ok us w:=by
 intro res
 induction res with
 |nil=>intro k fp hr;exact ⟨[],[],fp,hr,rfl,by simp,by simp⟩
 |cons x res ih=>
  intro k fp hr
  have step: ∀ {p:PV U} {v:Value} {fp1:List Loc},(ry V res fun vs=>k (p::vs)).Rel K σ fp1 r τ gp→Rep X w (c.N g D) g v p→(mz tm x).run P w= .ok v w→
    ∃ps us fp',(k ps).Rel K σ fp' r τ gp∧us.length=ps.length∧(∀ (j:Nat) p,ps[j]? =some p→Rep X w (c.N g D) g (us.getD j undef) p)∧((x::res).mapM (mz tm)).run P w= .ok us w:=by
   intro p v fp1 hr1 hp hv
   obtain ⟨ps,us,fp',h1,h2,h3,h4⟩:=ih hr1
   refine ⟨p::ps,v::us,fp',h1,by simp [h2],fun j q hq=> ?_,by simp [List.mapM_cons,Sem.run_bind,hv,h4]⟩
   cases j with
   |zero=>simp at hq;subst hq;exact hp
   |succ j=>exact h3 j q (by simpa using hq)
  cases x with
  |tmp t=>exact step hr (h.regs t) (by simp [mz])
  |cell a t=>
   simp only [ry,M.Rel] at hr
   obtain ⟨x,fp',v,h1,h2,h3⟩:=LM (a:=⟨tm,[]⟩) h (h.regs a) hr
   refine step h1 h3 ?_
   have h2':=h2
   unfold Instr.loadAt at h2'
   simp only [mz]
   cases hu:tm.getD a undef with
   |pointer q=>
    rw [hu] at h2'
    cases q with
    |none=>simp [Instr.sureAddr] at h2'
    |some q=>simpa [Instr.sureAddr,asAddr] using h2'
   |_=>rw [hu] at h2';simp [Instr.sureAddr] at h2'
theorem EB: ∀ (l:List Nat) {k:List (Nat×Box U)→M U} {fp:List Loc},(iq l k).Rel K σ fp r τ gp→ ∃bs fp',(k bs).Rel K σ fp' r τ gp∧bs.map (·.1)=l∧ ∀x∈bs,σ.b x.1=some x.2:=by
 intro l
 induction l with
 |nil=>intro k fp hr;exact ⟨[],fp,hr,rfl,by simp⟩
 |cons id l ih=>
  intro k fp hr
  simp only [iq,M.Rel] at hr
  split at hr
  ·rename_i b hb
   obtain ⟨bs,fp',h1,h2,h3⟩:=ih hr
   exact ⟨(id,b)::bs,fp',h1,by simp [h2],fun x hx=>by
    rcases List.mem_cons.1 hx with rfl|hx
    ·exact hb
    ·exact h3 x hx⟩
  ·exact hr.elim
theorem ac8: ∀ (n:Nat) (todo:List Nat) (acc:List (Nat×Box U)) {k:List (Nat×Box U)→M U} {fp:List Loc},(∀x∈acc,σ.b x.1=some x.2)→(lR n todo acc k).Rel K σ fp r τ gp→
  ∃bs fp',(k (acc++bs)).Rel K σ fp' r τ gp∧ ∀x∈acc++bs,σ.b x.1=some x.2:=by
 intro n
 induction n with
 |zero=>intro todo acc k fp _ hr;exact hr.elim
 |succ n ih=>
  intro todo acc k fp hacc hr
  cases todo with
  |nil=>exact ⟨[],fp,by rw [List.append_nil];exact hr,by simpa using hacc⟩
  |cons id todo=>
   simp only [lR] at hr
   split at hr
   ·exact ih todo acc hacc hr
   ·simp only [M.Rel] at hr
    split at hr
    ·rename_i b hb
     obtain ⟨bs,fp',h1,h2⟩:=ih _ _ (fun x hx=>by
      rcases List.mem_append.1 hx with hx|hx
      ·exact hacc x hx
      ·simp at hx;subst hx;exact hb) hr
     exact ⟨(id,b)::bs,fp',by simpa using h1,by simpa using h2⟩
    ·exact hr.elim
theorem RepG.lessN {N N':aN} {v:Value} {Do:Option Nat} {p:PV U} (h:RepG X w N g v Do p) (hN: ∀b o,N' b o→N b o):RepG X w N' g v Do p:=by
 by_cases hp:p.notFresh=true
 ·have:=(h.rep hp).mono X (w':=w) (N':=N') (g':=g) (fun _ _ _ _=>rfl) (fun b o _ hn=>hN b o hn) (Gh.le.refl g)
  cases p<;>first|exact this|cases hp
 ·cases p with
  |fresh e l=>exact ObOK.mono h (fun _ _=>rfl) (fun _ _ _ _=>rfl) (fun b o _ hn=>hN b o hn) (Gh.le.refl g)
  |_=>exact absurd rfl hp
theorem Jr {w0:World} {N0:aN} {n m:Nat} {ν:Nat→Nat} {δ:Nat→Option Nat} (hc:CtxOf c w0 N0 n m ν δ) (hdom: ∀j b,δ j=some b→j<m)
  (h:Sim X c tm w σ g D) {bs:List (Nat×Box U)} {qs:List (PV U)} {vs:Array Value} {ν':Nat→Nat} {δ':Nat→Option Nat} {keep:Bool} {N1:aN}
  (hkeys: ∃more,bs.map (·.1)=cK (df 0) n++more) (hnd:(bs.map (·.1)).Nodup) (hν: ∀ (k:Nat) id,(bs.map (·.1))[k]? =some id→g.μ id=some (ν' k))
  (hδ: ∀j b,δ' j=some b→ ∃i,D i=some b)
  (hg:Given X w vs N1 ν' δ' qs (bs.map fun b=>b.2.ren keep (bt (bs.map (·.1)))))
  (hN1:NB N1 bs.length ν' δ'=c.N g D):
  Back X w0 w N0 ν δ n m ν' δ' (bs.map fun b=>b.2.ren keep (bt (bs.map (·.1))))∧ ∀b o,(NB N0 bs.length ν' δ') b o→(NB N1 bs.length ν' δ') b o:=by
 obtain ⟨more,hmore⟩:=hkeys
 obtain ⟨c0,cN,cbl,cfix,cother,hb0⟩:=hc
 have hlen:bs.length=n+more.length:=by have:=congrArg List.length hmore;simpa [AB] using this
 have hext: ∀i,i<n→(bs.map (·.1))[i]? =some (df i):=by
  intro i hi
  rw [hmore,List.getElem?_append_left (by rw [AB];exact hi),NO _ _ _ hi]
  simp [df]
 have hold: ∀i,i<n→ν' i=ν i:=by
  intro i hi
  have h1:=hν i _ (hext i hi)
  rcases h.fix _ _ h1 with h2|⟨h2,_⟩
  ·rw [cfix i hi] at h2;injection h2 with h2;exact h2.symm
  ·rw [cfix i hi] at h2;cases h2
 have hμν: ∀i,i<n→g.μ (df i)=some (ν i):=fun i hi=>by rw [←hold i hi];exact hν i _ (hext i hi)
 have hget: ∀k,k<bs.length→ ∃id,(bs.map (·.1))[k]? =some id∧g.μ id=some (ν' k):=fun k hk=>⟨_,List.getElem?_eq_getElem (by simpa using hk),hν k _ (List.getElem?_eq_getElem (by simpa using hk))⟩
 have hsub: ∀b o,(NB N0 bs.length ν' δ') b o→(NB N1 bs.length ν' δ') b o:=by
  intro b o hn
  rw [hN1]
  rcases hn with hn|⟨k,hk,rfl⟩|⟨j,hj⟩
  ·exact .inl (by rw [cN];exact hn)
  ·obtain ⟨id,_,hid⟩:=hget k hk
   exact .inr (.inl ⟨id,hid⟩)
  ·obtain ⟨i,hi⟩:=hδ j b hj
   exact .inr (.inr ⟨i,hi⟩)
 have hnew: ∀i,n≤i→i<bs.length→w0.heap.size≤ν' i:=by
  intro i hi hlt
  obtain ⟨id,h1,h2⟩:=hget i hlt
  rcases h.fix _ _ h2 with h3|⟨_,h3⟩
  ·rcases cother _ _ h3 with ⟨j,hj,e⟩|h4
   ·exfalso
    subst e
    have h7:=hext j hj
    have:=(List.getElem?_inj (by simpa using hlt) hnd).1 (h1.trans h7.symm)
    omega
   ·exact h4
  ·rw [c0] at h3;exact h3
 have hdnew: ∀j b,δ' j=some b→w0.heap.size≤b∨ ∃i,δ i=some b:=by
  intro j b hj
  obtain ⟨i,hi⟩:=hδ j b hj
  rcases (h.dnew i b hi).2 with h1|h1
  ·rw [cbl] at h1
   rcases List.mem_append.1 h1 with h1|h1
   ·obtain ⟨k,hk,e⟩:=List.mem_map.1 h1
    rw [List.mem_range] at hk
    subst e
    exact absurd (hμν k hk) (h.dbox i _ _ hi)
   ·obtain ⟨k,_,hk⟩:=List.mem_filterMap.1 h1
    exact .inr ⟨k,hk⟩
  ·rw [c0] at h1;exact .inl h1
 have hl:(bs.map fun b=>b.2.ren keep (bt (bs.map (·.1)))).length=bs.length:=by simp
 have hgb:=hg.bnd
 rw [hl] at hgb
 have hex:Ext (h8 n m ν δ) w0 w:=by have:=h.ext;rwa [c0,cbl] at this
 refine ⟨⟨hex,by rw [hl];omega,hold,by rw [hl];exact hnew,hdnew, ?_,fun k b hb=> ?_⟩,hsub⟩
 ·rw [hl]
  refine ⟨hgb.inj,hgb.lt,hgb.dlt,hgb.dinj,hgb.dν,fun b o hn=>⟨Nat.lt_of_lt_of_le (hb0.n0 b o hn).1 hex.size,fun i hi e=> ?_,fun j hj=> ?_⟩⟩
  ·by_cases hin:i<n
   ·exact (hb0.n0 b o hn).2.1 i hin (by rw [←hold i hin];exact e)
   ·have:=hnew i (by omega) hi
    have:=(hb0.n0 b o hn).1
    omega
  ·rcases hdnew j b hj with h1|⟨i,h1⟩
   ·have:=(hb0.n0 b o hn).1;omega
   ·exact (hb0.n0 b o hn).2.2 i h1
 ·have:=hg.boxes k b hb
  rw [hl] at this ⊢
  exact this.mono rfl (fun _ _ _ _=>rfl) (fun b o _ hn=>hsub b o hn) (Gh.le.refl _)
end
end Go.Proofs.YtfkkpkhfjpaafaaGreatDoor.PI
namespace Go.Proofs.YtfkkpkhfjpaafaaGreatDoor.PI
open Go
set_option linter.unusedVariables false
set_option linter.unusedSimpArgs false
section
variable {U:Uni} {V:Env U} {P:Program} {X:Link V P}
theorem RepG.ofAny {w:World} {N:aN} {g:Gh U} {v:Value} {Do:Option Nat} {p:PV U} (h:Rep X w N g v p):RepG X w N g v Do p:=by
 cases p<;>first|exact h|cases h
theorem RepR.ofG {w:World} {N:aN} {g:Gh U} {v:Value} {δ:Nat→Option Nat} {p:PV U} (h:RepG X w N g v (δ 0) p):RepR X w N g v δ p:=by
 cases p with
 |tuple ps=>
  cases (show Rep X w N g v (.tuple ps) from h) with
  |tuple vs _ hl hh=>exact ⟨vs,rfl,hl,fun j p hp=> .ofAny (hh j p hp)⟩
 |_=>exact h
theorem ait {fn:Func} {tmps:Array Value} {us:List Value} {w:World} (h:(fn.results.toList.mapM (mz tmps)).run P w= .ok us w):
  (results fn tmps).run P w= .ok (if h:us.toArray.size=1 then us.toArray[0] else .tuple us.toArray) w:=by
 rw [ais,Array.mapM_eq_mapM_toList]
 simp [Sem.run_bind,h]
variable {w0:World} {N0:aN} {n m:Nat} {ν:Nat→Nat} {δ:Nat→Option Nat} {K:cj U} {c:Ctx}
theorem rz {fn:Func} {tm:Array Value} {w:World} {σ:St U} {g:Gh U} {D:Nat→Option Nat} (hc:CtxOf c w0 N0 n m ν δ) (hdom: ∀j b,δ j=some b→j<m) (h:Sim X c tm w σ g D)
  {keep:Bool} {hand:List Bool} {out:Out U} {τ:St U} {fp gp:List Loc} (hr:(jC V keep hand fn.results.toList n).Rel K σ fp (.out out) τ gp):
  ∃v,(results fn tm).run P w= .ok v w∧Ret X w0 N0 ν δ n m out (.returned v) w:=by
 unfold jC at hr
 obtain ⟨ps,us,fp1,hr1,hl1,hp1,hrun⟩:=air h _ hr
 obtain ⟨q1,σ1,D1,fp2,hr2,hF1,hl2,hq1⟩:=KL hand ps h (fun j=>us.getD j undef) hp1 hr1
 obtain ⟨bs0,fp3,hr3,hk0,hb0'⟩:=EB _ hr2
 obtain ⟨bs1,fp4,hr4,hb1⟩:=ac8 100 _ bs0 hb0' hr3
 obtain ⟨bs2,σ2,D2,fp5,hr5,hF2,hkeys,hb2⟩:=Ew _ hF1.sim (fun x hx=>hF1.sim.boxes x.1 x.2 (hb1 x hx)) hr4
 have h2:=hF2.sim
 obtain ⟨qs,σ3,fp6,G,δ',hr6,hl6,hSp,_,hδ,hδi,hqs⟩:=KR h2 hand q1 (fun j=>us.getD j undef) (.refl σ2) (fun j p hp=>hF2.rep (hq1 j p hp)) hr5
 cases hh:kj qs bs2 with
 |false=>rw [hh] at hr6;exact hr6.elim
 |true=>
 rw [hh] at hr6
 obtain ⟨e1,_,_⟩:=hr6
 injection e1 with e1
 subst e1
 obtain ⟨ν',hν⟩:=NN hb2
 have hgd: ∀j,us.toArray.getD j undef=us.getD j undef:=fun j=>pT j (by simp)
 obtain ⟨hNB,hg⟩:=EE h2 keep (vs:=us.toArray) (by simp;omega) hb2 hh (fun j b hj=>by rw [hl6];exact hδ j b hj) hδi (fun j q hq=>by rw [hgd];exact hqs j q hq) hν
 have hnd:=(Ac hh).2.2.1
 obtain ⟨hback,hsub⟩:=Jr hc hdom h2 ⟨bs1.map (·.1),by rw [hkeys,List.map_append,hk0]⟩ hnd hν (fun j b hj=>by obtain ⟨_,i,_,hi⟩:=hδ j b hj;exact ⟨i,hi⟩) hg hNB
 suffices hR:RepR X w (NB N0 bs2.length ν' δ') (gB U bs2.length ν') (if h:us.toArray.size=1 then us.toArray[0] else .tuple us.toArray) δ' (mq (PV.renL keep (bt (bs2.map (·.1))) qs)) by
  have hrr:=ait hrun
  generalize (if h:us.toArray.size=1 then us.toArray[0] else .tuple us.toArray)=v at hR hrr
  have hbl:(bs2.map fun b=>b.2.ren keep (bt (bs2.map (·.1)))).length=bs2.length:=by simp
  have hret:Ret X w0 N0 ν δ n m (.ret (mq (PV.renL keep (bt (bs2.map (·.1))) qs)) (bs2.map fun b=>b.2.ren keep (bt (bs2.map (·.1))))) (.returned v) w:=by
   simp only [Ret]
   refine ⟨ν',δ',hback, ?_⟩
   rw [hbl];exact hR
  exact ⟨v,hrr,hret⟩
 have hbl:(bs2.map fun b=>b.2.ren keep (bt (bs2.map (·.1)))).length=bs2.length:=by simp
 have hargs: ∀ (j:Nat) p,(PV.renL keep (bt (bs2.map (·.1))) qs)[j]? =some p→RepG X w (NB N0 bs2.length ν' δ') (gB U bs2.length ν') (us.toArray.getD j undef) (δ' j) p:=fun j p hp=>by
  have:=hg.args j p hp
  rw [hbl] at this
  exact this.lessN hsub
 have hlr:(PV.renL keep (bt (bs2.map (·.1))) qs).length=us.length:=by rw [iL];simp;omega
 generalize PV.renL keep (bt (bs2.map (·.1))) qs=rs at hargs hlr
 by_cases h1:us.toArray.size=1
 ·rw [dif_pos h1]
  have hu1:us.length=1:=by simpa using h1
  obtain ⟨p,rfl⟩: ∃p,rs=[p]:=by
   match rs,hlr with
   |[p],_=>exact ⟨p,rfl⟩
   |[],h=>simp at h;omega
   |_::_::_,h=>simp at h;omega
  have:=hargs 0 p rfl
  have hu:us.toArray.getD 0 undef=us.toArray[0]:=by simp [Array.getD,h1]
  rw [hu] at this
  exact .ofG this
 ·rw [dif_neg h1]
  have hone:mq rs= .tuple rs:=by
   match rs,hlr with
   |[],_=>rfl
   |[p],h=>simp at h h1;omega
   |_::_::_,_=>rfl
  rw [hone]
  exact ⟨us.toArray,rfl,by simpa using hlr.symm,hargs⟩
theorem F0 {tm:Array Value} {w:World} {σ:St U} {g:Gh U} {D:Nat→Option Nat} (hc:CtxOf c w0 N0 n m ν δ) (hdom: ∀j b,δ j=some b→j<m) (h:Sim X c tm w σ g D)
  {v:PV U} {val:Value} (hv:Rep X w (c.N g D) g val v) {out:Out U} {τ:St U} {fp gp:List Loc} (hr:(FZ v n).Rel K σ fp (.out out) τ gp):
  Ret X w0 N0 ν δ n m out (.panicked [{v:=val,recovered:=false}]) w:=by
 unfold FZ at hr
 obtain ⟨bs0,fp3,hr3,hk0,hb0'⟩:=EB _ hr
 obtain ⟨bs2,σ2,D2,fp5,hr5,hF2,hkeys,hb2⟩:=Ew _ h (fun x hx=>h.boxes x.1 x.2 (hb0' x hx)) hr3
 obtain ⟨q,σ3,D3,fp6,hr6,hF3,hq,_⟩:=nu v hF2.sim (hF2.rep hv) hr5
 cases hh:kj [q] bs2 with
 |false=>simp only [hh] at hr6;exact hr6.elim
 |true=>
 simp only [hh] at hr6
 obtain ⟨e1,_,_⟩:=hr6
 injection e1 with e1
 subst e1
 have hb3: ∀x∈bs2,mG X w (c.N g D3) g x:=fun x hx=>by
  obtain ⟨k,hk,hbx⟩:=hb2 x hx
  exact ⟨k,hk,hbx.mono rfl (fun _ _ _ _=>rfl) (fun b o _ hn=>by
   rcases hn with hn|hn|⟨i,hi⟩
   ·exact .inl hn
   ·exact .inr (.inl hn)
   ·exact .inr (.inr ⟨i,hF3.D i b hi⟩)) (Gh.le.refl g)⟩
 have hkk:bs2.map (·.1)=cK (df 0) n:=hkeys.trans hk0
 have hlen:bs2.length=n:=by have:=congrArg List.length hkk;simpa [AB] using this
 have hν: ∀ (k:Nat) id,(bs2.map (·.1))[k]? =some id→g.μ id=some (ν k):=by
  intro k id hid
  obtain ⟨x,hx,rfl⟩:=List.mem_map.1 (List.mem_of_getElem? hid)
  obtain ⟨kb,hk,_⟩:=hb3 x hx
  have hkn:k<n:=by have:=(List.getElem?_eq_some_iff.1 hid).1;simp at this;omega
  rw [hkk,NO _ _ _ hkn] at hid
  injection hid with hid
  have hfix:c.fix x.1=some (ν k):=by
   rw [←hid,←hc.fix k hkn]
   simp [df]
  rcases h.fix _ _ hk with h2|⟨h2,_⟩
  ·rw [hfix] at h2;rw [hk,←h2]
  ·rw [hfix] at h2;cases h2
 obtain ⟨hNB,hg⟩:=EE (G:=[]) (δ:=fun _=>none) hF3.sim false (vs:= #[val]) (by simp) hb3 hh (by simp) (by simp) (fun j q' hq'=>by
  cases j with
  |zero=>simp at hq';subst hq';exact .of hq
  |succ j=>simp at hq') hν
 obtain ⟨hback,hsub⟩:=Jr hc hdom hF3.sim ⟨[],by rw [hkk];simp⟩ (Ac hh).2.2.1 hν (by simp) hg hNB
 refine ⟨by simp [hlen],val,rfl,hback, ?_⟩
 have hbl:(bs2.map fun b=>b.2.ren false (bt (bs2.map (·.1)))).length=bs2.length:=by simp
 have:=hg.args 0 _ rfl
 rw [hbl] at this
 have:=this.lessN hsub
 rw [hlen] at this
 have hf:(q.ren false (bt (bs2.map (·.1)))).notFresh=true:=by
  rw [Bk]
  cases q<;>first|rfl|cases hq
 exact this.rep hf
theorem QJ (hm:P.follows .mixedOrders=true) (hI:lf X) {S:Side U} (hS:S.rcv=none) (hpin:S.pin=fun _=>false) {R:Type} {C:Oracle U R} (hC:C.Tells (ci X)) {f:FuncId} {fn:Func} (hf:P.funcs[f]? =some fn)
  (hname:(fn.name== "runtime.NumGoroutine")=false) (hbody:fn.body.isNone=false) (hnt:fn.ntmps=S.nt) (hlow:S.nt≤1000000) {args:List (PV U)} {boxes:List (Box U)} (hargs:args.length≤S.nt)
  {ann:Nat→Option Ann} {fuel:Nat} {keep:Bool} {hand:List Bool} {κ:Out U→Option R} {x:R} (h:rC V S C ann fuel keep hand fn args boxes κ=some x): ∃out,κ out=some x∧ci X f args boxes out:=by
 obtain ⟨code,hcode⟩: ∃code,fn.body=some code:=by
  cases hb:fn.body with
  |none=>rw [hb] at hbody;cases hbody
  |some code=>exact ⟨code,rfl⟩
 unfold rC gw at h
 rw [hcode] at h
 obtain ⟨e,τ,hbig,hk⟩:=Bv (ci X) V S ann hC fuel code h
 have key: ∀ {M:M U} {out:Out U} {τ0:St U} {gp:List Loc},M.Rel (ci X) τ [] (.out out) τ0 gp→(∀ (w:World) (vs:Array Value) (N0:aN) (ν:Nat→Nat) (δ:Nat→Option Nat) (hg:Given X w vs N0 ν δ args boxes),
   Lands X (gm w N0 boxes.length args.length ν δ S.nt hlow hg.bnd X.gblk hg.glob) [] e τ (bodyPost P fn (Ret X w N0 ν δ boxes.length args.length out)))→ci X f args boxes out:=by
  intro M out τ0 gp _ hl
  refine ⟨⟨fn,hf,hname,hbody⟩,fun w vs N0 ν δ hg=> ?_⟩
  suffices hgoal:Calls P f vs w (Ret X w N0 ν δ boxes.length args.length out) from hgoal.mono fun e w h=>Ret.full h
  refine calls_of_wp hf hcode ?_
  have hs:=BO hg hargs hlow
  rw [hnt]
  exact oX hm (oi hI hS fun d hd=>by rw [hpin] at hd;cases hd) rfl hbig _ w _ _ _ hs (hl w vs N0 ν δ hg)
 cases e with
 |exit id=>cases hk
 |normal=>
  obtain ⟨r,τ0,τ1,gp,hr,ht,hfin⟩:=gx hC _ hk (St.eqv.refl τ)
  cases r with
  |out o=>
   refine ⟨o,hfin,key hr fun w vs N0 ν δ hg a' w' g' D' hd hs=> ?_⟩
   obtain ⟨v,h1,h2⟩:=rz lc hg.dom hs hr
   exact ⟨hd,v,h1,h2⟩
  |_=>cases hfin
 |ret=>
  obtain ⟨r,τ0,τ1,gp,hr,ht,hfin⟩:=gx hC _ hk (St.eqv.refl τ)
  cases r with
  |out o=>
   refine ⟨o,hfin,key hr fun w vs N0 ν δ hg a' w' g' D' hd hs=> ?_⟩
   obtain ⟨v,h1,h2⟩:=rz lc hg.dom hs hr
   exact ⟨hd,v,h1,h2⟩
  |_=>cases hfin
 |panic v=>
  obtain ⟨r,τ0,τ1,gp,hr,ht,hfin⟩:=gx hC _ hk (St.eqv.refl τ)
  cases r with
  |out o=>
   refine ⟨o,hfin,key hr fun w vs N0 ν δ hg a' w' g' D' hd hs val hval=> ?_⟩
   exact ⟨hd,F0 lc hg.dom hs hval hr⟩
  |_=>cases hfin
end
end Go.Proofs.YtfkkpkhfjpaafaaGreatDoor.PI
namespace Go.Proofs.YtfkkpkhfjpaafaaGreatDoor.PI
open Go
section
variable {U:Uni} {R:Type} (V:Env U) (S:Side U) (C:Oracle U R) (ann:Nat→Option Ann) (fuel:Nat)
def Qq (o:Oper):Option Tmp:=
 match o.dst,o.op,o.guard with
 |some d,.call c,.none=>match c.callee with
  | .builtin .recover=>some d
  |_=> .none
 |_,_,_=> .none
def QL (v:PV U):Code→St U→(Ex U→St U→Option R)→Option R
 | .seq (.region _ ops draw) b,σ,κ=>match ops.toList with
  |o::more=>match Qq o with
   |some d=>bif !draw&&(Nat.blt d S.nt&&more.all (bq S.nt)) then rD V S C ops.toList more [] (σ.setR d v) fun
     | .normal,σ',_=>run V S C ann fuel b σ' κ
     |_,_,_=> .none
    else .none
   | .none=> .none
  |[]=> .none
 |_,_,_=> .none
def G5 (keep:Bool) (hand:List Bool) (fn:Func) (v:PV U) (args:List (PV U)) (boxes:List (Box U)) (κ:Out U→Option R):Option R:=
 QL V S C ann fuel v (gw fn) (gU args boxes) (kF V C keep hand fn boxes.length κ)
def D4:List Oper→Option (Oper×Tmp)
 |[o,q]=>match o.dst,o.guard,q.dst,q.op,q.guard with
  |some m,.none,.none,.defer c,.none=>match c.callee with
   | .value (.tmp n)=>bif Nat.beq m n&&c.args.isEmpty then some (o,n) else .none
   |_=> .none
  |_,_,_,_,_=> .none
 |_=> .none
def PV.pinned:PV U→Bool
 | .ptr id _=>Nat.ble 1000000 id
 |_=>false
def oD:Code→St U→(Ex U→St U→Option R)→(FuncId→List (PV U)→Ex U→St U→Option R)→Option R
 | .seq a b,σ,κ0,κ1=>match a with
  | .region id ops draw=>match D4 ops.toList with
   |some (o,n)=>bif !draw&&bq S.nt o then (bL V S o).cps C σ [] fun
     | .done,σ',_=>match σ'.r n with
      | .func h [] caps=>bif caps.all PV.pinned then run V {S with pin:=fun _=>false} C ann fuel b σ' (κ1 h caps) else .none
      |_=> .none
     |_,_,_=> .none
    else .none
   | .none=>run V S C ann fuel (.region id ops draw) σ fun
    | .normal,σ'=>oD b σ' κ0 κ1
    |e,σ'=>κ0 e σ'
  |a=>run V S C ann fuel a σ fun
   | .normal,σ'=>oD b σ' κ0 κ1
   |e,σ'=>κ0 e σ'
 |_,_,_,_=> .none
def kD (Cd:PV U→Oracle U R) (keep:Bool) (hand:List Bool) (fn:Func) (nb:Nat) (κ:Out U→Option R) (h:FuncId) (caps:List (PV U)):Ex U→St U→Option R
 | .normal,σ=>(iq (PV.idsL caps) fun _=>iV [] .none (.func h [] caps) []).cps (Cd .nilIface) σ [] fun
  | .done,σ',_=>(jC V keep hand fn.results.toList nb).cps C σ' [] (fin κ)
  |_,_,_=> .none
 | .ret,σ=>(iq (PV.idsL caps) fun _=>iV [] .none (.func h [] caps) []).cps (Cd .nilIface) σ [] fun
  | .done,σ',_=>(jC V keep hand fn.results.toList nb).cps C σ' [] (fin κ)
  |_,_,_=> .none
 | .panic v,σ=>match v with
  | .iface t (.int k n)=>(iq (PV.idsL caps) fun _=>iV [] .none (.func h [] caps) []).cps (Cd (.iface t (.int k n))) σ [] fun
   | .done,σ',_=>(jC V keep hand fn.results.toList nb).cps C σ' [] (fin κ)
   |_,_,_=> .none
  |_=> .none
 | .exit _,_=> .none
def Lz:Code→List Bool→List (St U→Option R)→(Nat→Option Ann)→(Ex U→St U→Option R)→(FuncId→List (PV U)→Ex U→St U→Option R)→Ex U→St U→Option R
 | .seq a b,false::p,rs,an,κ0,κ1=>kn V S C ann fuel a p rs an fun
  | .normal,σ'=>oD V S C ann fuel b σ' κ0 κ1
  |e,σ'=>κ0 e σ'
 | .seq _ b,true::p,rs,an,κ0,κ1=>Lz b p rs an κ0 κ1
 |_,_,_,_,κ0,_=>κ0
def G4 (Cd:PV U→Oracle U R) (keep:Bool) (hand:List Bool) (fn:Func) (args:List (PV U)) (boxes:List (Box U)) (κ:Out U→Option R):Option R:=
 oD V S C ann fuel (gw fn) (gU args boxes) (kF V C keep hand fn boxes.length κ) (kD V C Cd keep hand fn boxes.length κ)
end
end Go.Proofs.YtfkkpkhfjpaafaaGreatDoor.PI
namespace Go.Proofs.YtfkkpkhfjpaafaaGreatDoor.PI
open Go
set_option linter.unusedVariables false
set_option linter.unusedSimpArgs false
section
variable {U:Uni} {V:Env U} {P:Program} {X:Link V P}
inductive RcvOK:PV U→FrameMode→FrameMode→Prop
 |nil:RcvOK .nilIface .returning .returning
 |err (t:TypeId) (k:IntKind) (n:Int):RcvOK (.iface t (.int k n)) (.panicking [{v:= .iface t (.int k n),recovered:=false}]) (.panicking [{v:= .iface t (.int k n),recovered:=true}])
def jM (P:Program) (u u':FrameMode):FuncId→Array Value→World→(Ending→World→Prop)→Prop:=fun f vs w R=>CallsD P f vs u w fun e u2 w'=>u2=u'∧R e w'
theorem alr {ops:Array Oper} {cs:List Frame} {Q:Exit→Act→List Frame→World→Prop} (hQ: ¬LetsOut (fun e a' w'=>Q e a' cs w')): ∀ (l:List Nat) (a:Act) (w:World),wpOps P ops (fun e a' w'=>Q e a' cs w') l a w→wpOpsS P ops Q l a cs w:=by
 intro l
 induction l with
 |nil=>intro a w h;exact h
 |cons i l ih=>
  intro a w h
  simp only [wpOps,wpOpsS] at h ⊢
  cases ho:ops[i]? with
  |none=>rw [ho] at h;exact ih _ _ h
  |some o=>
   rw [ho] at h
   simp only at h ⊢
   split
   ·rename_i hw
    rw [if_pos hw] at h
    have h:=h.resolve_right fun h=>hQ h.2
    have h:=Oper.wp_mono ih h
    unfold Oper.wp at h
    split
    ·rename_i w' hrun
     rw [hrun] at h
     exact h.elim
    ·exact h
   ·rename_i hw
    rw [if_neg hw] at h
    exact ih _ _ h
theorem aiz (hm:P.follows .mixedOrders=true) (hI:lf X) {S:Side U} (hS:S.rcv=none) (hpin:S.pin=fun _=>false) {R:Type} {C:Oracle U R} (hC:C.Tells (ci X)) {f:FuncId} {fn:Func} (hf:P.funcs[f]? =some fn)
  (hname:(fn.name== "runtime.NumGoroutine")=false) (hbody:fn.body.isNone=false) (hnt:fn.ntmps=S.nt) (hlow:S.nt≤1000000) {v:PV U} {u u':FrameMode} (hv:RcvOK v u u') {args:List (PV U)} {boxes:List (Box U)} (hargs:args.length≤S.nt)
  {ann:Nat→Option Ann} {fuel:Nat} {keep:Bool} {hand:List Bool} {κ:Out U→Option R} {x:R} (h:G5 V S C ann fuel keep hand fn v args boxes κ=some x): ∃out,κ out=some x∧jS X (jM P u u') f args boxes out:=by
 obtain ⟨code,hcode⟩: ∃code,fn.body=some code:=by
  cases hb:fn.body with
  |none=>rw [hb] at hbody;cases hbody
  |some code=>exact ⟨code,rfl⟩
 unfold G5 gw at h
 rw [hcode] at h
 simp only at h
 unfold QL at h
 split at h
 case h_2=>cases h
 rename_i id ops draw b
 split at h
 case h_2=>cases h
 rename_i o more hops
 split at h
 case h_2=>cases h
 rename_i d hrec
 cases hc:(!draw&&(Nat.blt d S.nt&&more.all (bq S.nt))) with
 |false=>rw [hc] at h;cases h
 |true=>
 rw [hc] at h
 simp only [cond_true] at h
 simp only [Bool.and_eq_true,Bool.not_eq_true'] at hc
 obtain ⟨hdraw,hd,hall⟩:=hc
 subst hdraw
 have hd:d<S.nt:=by simpa using hd
 unfold Qq at hrec
 obtain ⟨dst,op,ty,pos,after,gd⟩:=o
 simp only at hrec
 split at hrec
 case h_2=>cases hrec
 rename_i d0 cl
 split at hrec
 case h_2=>cases hrec
 rename_i hcl
 injection hrec with hrec
 subst hrec
 obtain ⟨e1,fps,τ0,τ1,hops1,ht1,hk1⟩:=QK (ci X) V S hC ops.toList more h (St.eqv.refl _)
 cases e1 with
 |exit id=>cases hk1
 |ret=>cases hk1
 |panic v=>cases hk1
 |normal=>
 simp only at hk1
 obtain ⟨e,τ,hbig,hk⟩:=Bv (ci X) V S ann hC fuel b hk1
 have hsz:ops.size=more.length+1:=by have:=congrArg List.length hops;simpa using this
 have key: ∀ {out:Out U},(∀ (w:World) (vs:Array Value) (N0:aN) (ν:Nat→Nat) (δ:Nat→Option Nat) (hg:Given X w vs N0 ν δ args boxes),
   Lands X (gm w N0 boxes.length args.length ν δ S.nt hlow hg.bnd X.gblk hg.glob) [] e τ (bodyPost P fn (Ret X w N0 ν δ boxes.length args.length out)))→jS X (jM P u u') f args boxes out:=by
  intro out hl
  refine ⟨⟨fn,hf,hname,hbody⟩,fun w vs N0 ν δ hg=> ?_⟩
  suffices hgoal:jM P u u' f vs w (Ret X w N0 ν δ boxes.length args.length out) from CallsD.mono hgoal fun e u2 w2 h=>⟨h.1,Ret.full h.2⟩
  refine callsD_of_wpS hf hcode fun c₀ cs hu=> ?_
  have hs:=BO hg hargs hlow
  rw [hnt]
  have hl:=hl w vs N0 ν δ hg
  generalize hcx:gm w N0 boxes.length args.length ν δ S.nt hlow hg.bnd X.gblk hg.glob=c at hs hl
  have hcnt:c.nt=S.nt:=by rw [←hcx];rfl
  have hOS:mV X (ci X) S c:=oi hI hS fun d hd=>by rw [hpin] at hd;cases hd
  obtain ⟨val,cs2,hrv,hrep⟩: ∃val cs2,(match recoverD (c₀::cs) with|some (v,cs')=>v=val∧cs'=cs2|none=>val= .nilIface∧cs2=c₀::cs)∧(∃c1:Frame,cs2={c₀ with mode:=u'}::cs)∧ ∀ (w:World) (N:aN) (g:Gh U),Rep X w N g val v:=by
   cases hv with
   |nil=>
    refine ⟨.nilIface,c₀::cs, ?_,⟨c₀, ?_⟩,fun _ _ _=> .nilIface⟩
    ·simp [recoverD,hu]
    ·rw [←hu]
   |err t k n=>
    refine ⟨.iface t (.int k n),_, ?_,⟨c₀,rfl⟩,fun _ _ _=> .iface _ _ _ (.int _ _)⟩
    simp [recoverD,hu]
  obtain ⟨⟨_,hcs2⟩,hrep⟩:=hrep
  refine wpS_seq (wpS_region ?_)
  rw [hsz,List.range_eq_range',List.range'_succ]
  have h0:ops[0]? =some ⟨some d0,.call cl,ty,pos,after,none⟩:=by rw [←Array.getElem?_toList,hops];rfl
  simp only [wpOpsS,h0]
  have hrun:(execOp (Act.eval ⟨vs++Array.replicate (S.nt-vs.size) undef,[]⟩) ⟨some d0,.call cl,ty,pos,after,none⟩).run P w= .ok .recover w:=by
   rw [QO hcl]
   simp [builtin]
  rw [if_pos (by simp [Region.wanted]),hrun]
  simp only
  have hnext:wpOpsS P ops (Exit.thenS (b.wpS P (bodyPostS P fn c₀ cs fun e u2 w'=>u2=u'∧Ret X w N0 ν δ boxes.length args.length out e w')) (bodyPostS P fn c₀ cs fun e u2 w'=>u2=u'∧Ret X w N0 ν δ boxes.length args.length out e w')) (List.range' (0+1) more.length)
    (Act.put ⟨vs++Array.replicate (S.nt-vs.size) undef,[]⟩ (some d0) val) cs2 w:=by
   have hs1:=hs.put (d:=d0) (by rw [hcnt];exact hd) (hrep w _ _)
   have hLO: ∀ {next:Act→List Frame→World→Prop},¬LetsOut (fun e a' w'=>Exit.thenS next (bodyPostS P fn c₀ cs fun e u2 w'=>u2=u'∧Ret X w N0 ν δ boxes.length args.length out e w') e a' cs2 w'):=by
    rintro next ⟨a',w',u2,_,hq⟩
    exact hq
   refine alr hLO _ _ _ ?_
   refine Ur hOS more 1 _ w _ _ _ fps (by rw [hops];rfl) (by rw [hcnt];exact hall) hs1 hops1 ?_
   intro a2 w2 g2 D2 hd2 hs2
   simp only [Exit.thenS]
   refine wpS_of_wp (oX hm hOS hcnt hbig a2 w2 g2 D2 _ (hs2.eqv ht1) ?_)
   intro a3 w3 g3 D3 hd3 hs3
   have hd0:a3.defers=[]:=hd3.trans hd2
   have hb:=hl a3 w3 g3 D3 hd0 hs3
   rw [hcs2]
   cases e with
   |normal=>obtain ⟨q1,v1,q2,q3⟩:=hb;exact ⟨q1,u',rfl,v1,q2,rfl,q3⟩
   |ret=>obtain ⟨q1,v1,q2,q3⟩:=hb;exact ⟨q1,u',rfl,v1,q2,rfl,q3⟩
   |exit id=>exact hb.elim
   |panic pv=>intro val' hval';obtain ⟨q1,q3⟩:=hb val' hval';exact ⟨q1,u',rfl,rfl,q3⟩
  cases hrd:recoverD (c₀::cs) with
  |none=>rw [hrd] at hrv;obtain ⟨rfl,rfl⟩:=hrv;exact hnext
  |some p=>obtain ⟨v1,cs1⟩:=p;rw [hrd] at hrv;obtain ⟨rfl,rfl⟩:=hrv;exact hnext
 cases e with
 |exit id=>cases hk
 |normal=>
  obtain ⟨r,τ0,τ1,gp,hr,ht,hfin⟩:=gx hC _ hk (St.eqv.refl τ)
  cases r with
  |out o=>
   refine ⟨o,hfin,key fun w vs N0 ν δ hg a' w' g' D' hd hs=> ?_⟩
   obtain ⟨v,h1,h2⟩:=rz lc hg.dom hs hr
   exact ⟨hd,v,h1,h2⟩
  |_=>cases hfin
 |ret=>
  obtain ⟨r,τ0,τ1,gp,hr,ht,hfin⟩:=gx hC _ hk (St.eqv.refl τ)
  cases r with
  |out o=>
   refine ⟨o,hfin,key fun w vs N0 ν δ hg a' w' g' D' hd hs=> ?_⟩
   obtain ⟨v,h1,h2⟩:=rz lc hg.dom hs hr
   exact ⟨hd,v,h1,h2⟩
  |_=>cases hfin
 |panic v=>
  obtain ⟨r,τ0,τ1,gp,hr,ht,hfin⟩:=gx hC _ hk (St.eqv.refl τ)
  cases r with
  |out o=>
   refine ⟨o,hfin,key fun w vs N0 ν δ hg a' w' g' D' hd hs val hval=> ?_⟩
   exact ⟨hd,F0 lc hg.dom hs hval hr⟩
  |_=>cases hfin
end
end Go.Proofs.YtfkkpkhfjpaafaaGreatDoor.PI
namespace Go.Proofs.YtfkkpkhfjpaafaaGreatDoor.PI
open Go
set_option linter.unusedVariables false
set_option linter.unusedSimpArgs false
section
variable {U:Uni} {V:Env U} {P:Program} {X:Link V P}
def Ctx.refix (c:Ctx) (μ:Nat→Option Nat) (L:List Nat) (hnt:c.nt≤1000000) (hL: ∀id∈L,1000000≤id):Ctx:=
 {c with
  fix:=fun id=>if id∈L then μ id else c.fix id
  low:=fun id k h=>by
   split at h
   ·rename_i h1;exact ⟨hL id h1,Nat.le_trans hnt (hL id h1)⟩
   ·exact c.low id k h}
theorem Sim.refix {c:Ctx} {tm:Array Value} {w:World} {σ:St U} {g:Gh U} {D:Nat→Option Nat} (h:Sim X c tm w σ g D) {L:List Nat} {hnt:c.nt≤1000000} {hL: ∀id∈L,1000000≤id}:
  Sim X (c.refix g.μ L hnt hL) tm w σ g D where
 nt:=h.nt
 regs:=h.regs
 boxes:=h.boxes
 dom:=h.dom
 inj:=h.inj
 new:=h.new
 objs:=h.objs
 nobj:=h.nobj
 dinj:=h.dinj
 dnew:=h.dnew
 dbox:=h.dbox
 ext:=h.ext
 gl:=h.gl
 fix:=fun id k hk=>by
  simp only [Ctx.refix]
  by_cases hin:id∈L
  ·rw [if_pos hin];exact .inl hk
  ·rw [if_neg hin];exact h.fix id k hk
theorem CtxOf.refix {c:Ctx} {tm:Array Value} {w:World} {σ:St U} {g:Gh U} {D:Nat→Option Nat} (h:Sim X c tm w σ g D) {L:List Nat} {hnt:c.nt≤1000000} {hL: ∀id∈L,1000000≤id} (hLμ: ∀id∈L,∃b,g.μ id=some b)
  {w0:World} {N0:aN} {n m:Nat} {ν:Nat→Nat} {δ:Nat→Option Nat} (hc:CtxOf c w0 N0 n m ν δ):CtxOf (c.refix g.μ L hnt hL) w0 N0 n m ν δ where
 cw:=hc.cw
 cN:=hc.cN
 bl:=hc.bl
 fix i hi:=by
  simp only [Ctx.refix]
  by_cases hin:df i∈L
  ·rw [if_pos hin]
   obtain ⟨b,hb⟩:=hLμ _ hin
   rcases h.fix _ _ hb with h1|⟨h1,_⟩
   ·rw [hb,←h1];exact hc.fix i hi
   ·rw [hc.fix i hi] at h1;cases h1
  ·rw [if_neg hin];exact hc.fix i hi
 other id k hk:=by
  simp only [Ctx.refix] at hk
  by_cases hin:id∈L
  ·rw [if_pos hin] at hk
   rcases h.fix _ _ hk with h1|⟨_,h1⟩
   ·exact hc.other id k h1
   ·rw [hc.cw] at h1;exact .inr h1
  ·rw [if_neg hin] at hk;exact hc.other id k hk
 bnd:=hc.bnd
def Ca (c':Ctx) (caps:List (PV U)) (us:Array Value):Prop:=us.size=caps.length∧ ∀ (j:Nat) p,caps[j]? =some p→ ∃id off b,p= .ptr id off∧c'.fix id=some b∧us.getD j undef= .pointer (some ⟨b,off,none⟩)
def Cc (X:Link V P) (S:Side U) (code:Code) (σ:St U) (h:FuncId) (caps:List (PV U)) (e:Ex U) (τ:St U):Prop:=
 ∀ (c:Ctx),PinOK S c→c.nt=S.nt→ ∀ (a:Act) (w:World) (g:Gh U) (D:Nat→Option Nat) (Q:Exit→Act→World→Prop),Sim X c a.tmps w σ g D→a.defers=[]→
  (∀ (us:Array Value) (c':Ctx),(∀w0 N0 n m ν δ,CtxOf c w0 N0 n m ν δ→CtxOf c' w0 N0 n m ν δ)→c'.nt=c.nt→Ca c' caps us→Lands X c' [{target:= .fn (.func h) us,args:= #[]}] e τ Q)→code.wp P Q a w
theorem aaj {l:List Oper} {o:Oper} {n:Tmp} (h:D4 l=some (o,n)): ∃q cl,l=[o,q]∧o.dst=some n∧o.guard=none∧q.dst=none∧q.op= .defer cl∧q.guard=none∧cl.callee= .value (.tmp n)∧cl.args= #[]:=by
 unfold D4 at h
 split at h
 case h_2=>cases h
 rename_i o' q
 split at h
 case h_2=>cases h
 rename_i m cl h1 h2 h3 h4 h5
 split at h
 case h_2=>cases h
 rename_i n' hcl
 cases hb:(Nat.beq m n'&&cl.args.isEmpty) with
 |false=>rw [hb] at h;cases h
 |true=>
 rw [hb] at h
 injection h with h
 injection h with e1 e2
 subst e1;subst e2
 simp only [Bool.and_eq_true] at hb
 have hmn:m=n':=by simpa using hb.1
 subst hmn
 exact ⟨q,cl,rfl,h1,h2,h3,h4,h5,hcl,by simpa using hb.2⟩
theorem aiy (hm:P.follows .mixedOrders=true) (hI:lf X) {S:Side U} (hS:S.rcv=none) (hlow:S.nt≤1000000) {R:Type} {C:Oracle U R} (hC:C.Tells (ci X)) {ann:Nat→Option Ann} {fuel:Nat}:
  ∀ (code:Code) {σ:St U} {κ0:Ex U→St U→Option R} {κ1:FuncId→List (PV U)→Ex U→St U→Option R} {x:R},oD V S C ann fuel code σ κ0 κ1=some x→
   (∃e τ,e≠ .normal∧κ0 e τ=some x∧ ∀c,PinOK S c→c.nt=S.nt→wE X c none code σ e τ)∨
   (∃h caps e τ,κ1 h caps e τ=some x∧Cc X S code σ h caps e τ):=by
 intro code
 induction code with
 |seq a b iha ihb=>
  intro σ κ0 κ1 x h
  have step:run V S C ann fuel a σ (fun| .normal,σ'=>oD V S C ann fuel b σ' κ0 κ1|e,σ'=>κ0 e σ')=some x→
    (∃e τ,e≠ .normal∧κ0 e τ=some x∧ ∀c,PinOK S c→c.nt=S.nt→wE X c none (.seq a b) σ e τ)∨
    (∃h caps e τ,κ1 h caps e τ=some x∧Cc X S (.seq a b) σ h caps e τ):=by
   intro h
   obtain ⟨e,τ,hbig,hk⟩:=Bv (ci X) V S ann hC fuel a h
   have early:e≠ .normal→κ0 e τ=some x→_:=fun he hk=>(.inl ⟨e,τ,he,hk,fun c hP hnt=>oX hm (oi hI hS hP) hnt (.seqE a b _ _ _ hbig he)⟩:
    (∃e τ,e≠ .normal∧κ0 e τ=some x∧ ∀c,PinOK S c→c.nt=S.nt→wE X c none (.seq a b) σ e τ)∨(∃h caps e τ,κ1 h caps e τ=some x∧Cc X S (.seq a b) σ h caps e τ))
   cases e with
   |normal=>
    rcases ihb hk with ⟨e',τ',he',hk',hB⟩|⟨hh,caps,e',τ',hk',hB⟩
    ·exact .inl ⟨e',τ',he',hk',fun c hP hnt a' w g D Q hs hl=>wp_seq (oX hm (oi hI hS hP) hnt hbig a' w g D _ hs fun a2 w2 g2 D2 hd2 hs2=>hB c hP hnt a2 w2 g2 D2 Q hs2 (by rw [hd2];exact hl))⟩
    ·exact .inr ⟨hh,caps,e',τ',hk',fun c hP hnt a' w g D Q hs hd hl=>wp_seq (oX hm (oi hI hS hP) hnt hbig a' w g D _ hs fun a2 w2 g2 D2 hd2 hs2=>hB c hP hnt a2 w2 g2 D2 Q hs2 (hd2.trans hd) hl)⟩
   |exit id=>exact early (by simp) hk
   |ret=>exact early (by simp) hk
   |panic v=>exact early (by simp) hk
  clear iha
  unfold oD at h
  split at h
  case h_2=>exact step h
  rename_i id ops draw
  split at h
  case h_2=>exact step h
  rename_i o n hdfr
  obtain ⟨q,cl,hops,ho1,ho2,hq1,hq2,hq3,hcl,hargs⟩:=aaj hdfr
  cases hc:(!draw&&bq S.nt o) with
  |false=>rw [hc] at h;cases h
  |true=>
  rw [hc] at h
  simp only [cond_true] at h
  simp only [Bool.and_eq_true,Bool.not_eq_true'] at hc
  obtain ⟨hdraw,hdo⟩:=hc
  subst hdraw
  obtain ⟨r,τ0,τ,gp,hrel,ht,hk⟩:=gx hC _ h (St.eqv.refl σ)
  cases r with
  |raise v=>cases hk
  |out o=>cases hk
  |done=>
  simp only at hk
  split at hk
  case h_2=>cases hk
  rename_i hh caps hfun
  cases hp:caps.all PV.pinned with
  |false=>rw [hp] at hk;cases hk
  |true=>
  rw [hp] at hk
  simp only [cond_true] at hk
  obtain ⟨e,τ2,hbig,hk2⟩:=Bv (ci X) V {S with pin:=fun _=>false} ann hC fuel b hk
  refine .inr ⟨hh,caps,e,τ2,hk2,fun c hP hnt a w g D Q hs hdef hl=>wp_seq (wp_region ?_)⟩
  have hsz:ops.size=2:=by have:=congrArg List.length hops;simpa using this
  have h0:ops[0]? =some o:=by rw [←Array.getElem?_toList,hops];rfl
  have h1:ops[1]? =some q:=by rw [←Array.getElem?_toList,hops];rfl
  rw [hsz,show List.range 2=[0,1] from rfl]
  simp only [wpOps,h0,h1]
  rw [if_pos (by simp [Region.wanted,ho2])]
  refine .inl (oi hI hS hP o a w σ g D .done τ0 [] gp _ _ (by rw [hnt];exact hdo) hs hrel ⟨fun _ a2 w2 g2 D2 hd2 hs2=> ?_,fun v hv=>by cases hv⟩)
  rw [if_pos (by simp [Region.wanted,hq3])]
  refine .inl ?_
  have hs3:=hs2.eqv ht
  have hR:=hs3.regs n
  rw [hfun] at hR
  generalize hev:a2.tmps.getD n undef=ev at hR
  cases hR with
  |func _ _ _ vs us hvs hus hf1 hf2=>
  have hvs0:vs= #[]:=by
   have:vs.size=0:=by simpa using hvs
   exact Array.eq_empty_of_size_eq_zero this
  subst hvs0
  obtain ⟨qd,qo,qt,qp,qa,qg⟩:=q
  simp only at hq1 hq2 hq3
  subst hq1;subst hq2;subst hq3
  have hrun:(execOp a2.eval ⟨none,.defer cl,qt,qp,qa,none⟩).run P w2= .ok (.defer {target:= .fn (.func hh) us,args:= #[]}) w2:=by
   have hev':a2.eval (.tmp n)= .func (.func hh) #[] us:=hev
   simp [execOp,resolve,hcl,hargs,hev',Deferred.ofValue]
  unfold Oper.wp
  rw [hrun,Oper.upon_defer]
  have hids: ∀id∈PV.idsL caps,1000000≤id∧ ∃b,g2.μ id=some b:=by
   intro id hid
   obtain ⟨p,hpm,hpi⟩: ∃p∈caps,id∈p.ids:=by
    clear hl hk2 hbig hk hf1 hf2 hus hfun hp h step
    induction caps with
    |nil=>cases hid
    |cons p caps ih=>
     simp only [PV.idsL,List.mem_append] at hid
     rcases hid with hid|hid
     ·exact ⟨p,by simp,hid⟩
     ·obtain ⟨q,hq,hqi⟩:=ih hid;exact ⟨q,by simp [hq],hqi⟩
   have hpp:=List.all_eq_true.1 hp p hpm
   obtain ⟨j,hj⟩:=List.mem_iff_getElem?.1 hpm
   have hr:=hf2 j p hj
   cases p with
   |ptr id' off=>
    simp only [PV.ids,List.mem_singleton] at hpi
    subst hpi
    refine ⟨by simpa [PV.pinned] using hpp, ?_⟩
    generalize us.getD j undef=uv at hr
    cases hr with
    |ptr _ _ b hb=>exact ⟨b,hb⟩
   |_=>cases hpp
  have hcnt:c.nt≤1000000:=by rw [hnt];exact hlow
  refine oX (S:={S with pin:=fun _=>false}) hm (oi hI hS fun d hd=>by cases hd) (c:=c.refix g2.μ (PV.idsL caps) hcnt fun id hid=>(hids id hid).1) hnt hbig _ w2 g2 D2 Q hs3.refix ?_
  have hld:=hl us (c.refix g2.μ (PV.idsL caps) hcnt fun id hid=>(hids id hid).1) (fun w0 N0 n m ν δ hc=>CtxOf.refix hs3 (fun id hid=>(hids id hid).2) hc) rfl ⟨hus,fun j p hj=> ?_⟩
  ·have hd3:((Act.put {a2 with defers:={target:= .fn (.func hh) us,args:= #[]}::a2.defers} none undef).defers)=[{target:= .fn (.func hh) us,args:= #[]}]:=by
    have:a2.defers=[]:=hd2.trans hdef
    simp [Act.put,this]
   rw [hd3];exact hld
  ·have hpp:=List.all_eq_true.1 hp p (List.mem_of_getElem? hj)
   have hr:=hf2 j p hj
   cases p with
   |ptr id off=>
    have hin:id∈PV.idsL caps:=fj hj id (by simp [PV.ids])
    generalize us.getD j undef=uv at hr
    cases hr with
    |ptr _ _ b hb=>exact ⟨id,off,b,rfl,by simp only [Ctx.refix];rw [if_pos hin];exact hb,rfl⟩
   |_=>cases hpp
 |_=>intro σ κ0 κ1 x h;cases h
end
end Go.Proofs.YtfkkpkhfjpaafaaGreatDoor.PI
namespace Go.Proofs.YtfkkpkhfjpaafaaGreatDoor.PI
open Go
set_option linter.unusedVariables false
set_option linter.unusedSimpArgs false
section
variable {U:Uni} {V:Env U} {P:Program} {X:Link V P}
theorem Fe {fn:Func} {w0:World} {N0:aN} {n m:Nat} {ν:Nat→Nat} {δ:Nat→Option Nat} {c':Ctx} (hc:CtxOf c' w0 N0 n m ν δ) (hdom: ∀j b,δ j=some b→j<m) {v:PV U} {u u':FrameMode} (hv:RcvOK v u u')
  {hh:FuncId} {caps:List (PV U)} {us:Array Value} (hct:Ca c' caps us) {τ τ1:St U} {r:MR U} {τ0:St U} {gp gp':List Loc} {K:cj U} {keep:Bool} {hand:List Bool} {out:Out U} {τ2:St U}
  (hrel:(iq (PV.idsL caps) fun _=>iV [] none (.func hh [] caps) []).Rel (jS X (jM P u u')) τ [] r τ0 gp) (hr:r= .done) (ht:τ0.eqv τ1) (hret:(jC V keep hand fn.results.toList n).Rel K τ1 [] (.out out) τ2 gp')
  {a:Act} {w:World} {g:Gh U} {D:Nat→Option Nat} (hs:Sim X c' a.tmps w τ g D):
  Leaves P fn a.tmps (Ret X w0 N0 ν δ n m out) [{target:= .fn (.func hh) us,args:= #[]}] u w:=by
 obtain ⟨bs,fp1,hrel1,hkeys,hbs⟩:=EB _ hrel
 have hR:Rep X w (c'.N g D) g (.func (.func hh) #[] us) (.func hh [] caps):=by
  refine .func hh [] caps #[] us rfl hct.1 (by simp) fun j p hp=> ?_
  obtain ⟨id,off,b,rfl,hfix,hus⟩:=hct.2 j p hp
  rw [hus]
  refine .ptr id off b ?_
  have hin:id∈PV.idsL caps:=fj hp id (by simp [PV.ids])
  rw [←hkeys] at hin
  obtain ⟨x,hx,rfl⟩:=List.mem_map.1 hin
  obtain ⟨k,hk,_⟩:=hs.boxes x.1 x.2 (hbs x hx)
  rcases hs.fix _ _ hk with h1|⟨h1,_⟩
  ·rw [hfix] at h1;injection h1 with h1;rw [h1];exact hk
  ·rw [hfix] at h1;cases h1
 obtain ⟨f,a0s,bs',hfv,⟨fnh,hfh,hnameh,hbodyh⟩,hcall⟩:=Jv (X:=X) (c:=c') (a:=a) (dst:=none) (o:=⟨none,.move (.const undef),0, "",#[],none⟩) (CP:=jM P u u') (xs:= #[])
  (next:=fun a2 w2=>Leaves P fn a2.tmps (Ret X w0 N0 ν δ n m out) [] .returning w2) (Q:=fun _ _ _=>False)
  (fun {f vs w R R'} h hm=>CallsD.mono h fun e u2 w2 ⟨h1,h2⟩=>⟨h1,hm e w2 h2⟩) hs hR rfl (by simp) rfl rfl hrel1
  ⟨fun _ a2 w2 g2 D2 _ hs2=>by
   obtain ⟨v,h1,h2⟩:=rz hc hdom (hs2.eqv ht) hret
   exact ⟨v,h1,h2⟩,fun v hv=>by rw [hr] at hv;cases hv⟩
 injection hfv with e1 e2 e3
 injection e1 with e1
 subst e1;subst e2;subst e3
 have hun:u≠ .run:=by cases hv<;>simp
 refine leaves_cons hun (f:=hh) (args:= #[]++us) (by simp only [invoke];exact QP hfh hnameh hbodyh _ w) ?_
 have hcall2:CallsD P hh (#[]++us) u w fun e u2 w'=>u2=u'∧(match e,w' with
    | .returned v,w''=>Leaves P fn (a.put none v).tmps (Ret X w0 N0 ν δ n m out) [] .returning w''
    | .panicked chain,w''=>False
    | .outgrown,_=>LetsOut (fun _ _ _=>False)):=by
  have:=hcall
  simp only [Array.append_empty] at this
  exact this.mono fun e u2 w2 ⟨h1,h2⟩=>⟨h1,by cases e<;>exact h2⟩
 refine hcall2.mono fun e u2 w2 ⟨h1,h2⟩=> ?_
 subst h1
 cases e with
 |returned rv=>
  simp only [Act.put] at h2
  have hset:settle u2= .returning:=by cases hv<;>rfl
  simp only [hset]
  exact h2
 |panicked chain=>exact h2.elim
 |outgrown=>obtain ⟨_,_,h⟩:=h2;exact h.elim
theorem aix (hm:P.follows .mixedOrders=true) (hI:lf X) {S:Side U} (hS:S.rcv=none) {R:Type} {C:Oracle U R} (hC:C.Tells (ci X)) {Cd:PV U→Oracle U R} (hCd: ∀v u u',RcvOK v u u'→(Cd v).Tells (jS X (jM P u u')))
  {f:FuncId} {fn:Func} (hf:P.funcs[f]? =some fn)
  (hname:(fn.name== "runtime.NumGoroutine")=false) (hbody:fn.body.isNone=false) (hnt:fn.ntmps=S.nt) (hlow:S.nt≤1000000) {args:List (PV U)} {boxes:List (Box U)} (hargs:args.length≤S.nt) (hboxes:boxes.length≤1000000)
  {ann:Nat→Option Ann} {fuel:Nat} {keep:Bool} {hand:List Bool} {κ:Out U→Option R} {x:R} (h:G4 V S C ann fuel Cd keep hand fn args boxes κ=some x): ∃out,κ out=some x∧ci X f args boxes out:=by
 obtain ⟨code,hcode⟩: ∃code,fn.body=some code:=by
  cases hb:fn.body with
  |none=>rw [hb] at hbody;cases hbody
  |some code=>exact ⟨code,rfl⟩
 unfold G4 gw at h
 rw [hcode] at h
 have hpin: ∀ {w:World} {vs:Array Value} {N0:aN} {ν:Nat→Nat} {δ:Nat→Option Nat} (hg:Given X w vs N0 ν δ args boxes),PinOK S (gm w N0 boxes.length args.length ν δ S.nt hlow hg.bnd X.gblk hg.glob):=by
  intro w vs N0 ν δ hg d _
  simp only [gm]
  rw [if_neg (by omega)]
 rcases aiy (X:=X) hm hI hS hlow hC code h with ⟨e,τ,he,hk,hB⟩|⟨hh,caps,e,τ,hk,hB⟩
 ·have key: ∀ {out:Out U},(∀ (w:World) (vs:Array Value) (N0:aN) (ν:Nat→Nat) (δ:Nat→Option Nat) (hg:Given X w vs N0 ν δ args boxes),
    Lands X (gm w N0 boxes.length args.length ν δ S.nt hlow hg.bnd X.gblk hg.glob) [] e τ (bodyPost P fn (Ret X w N0 ν δ boxes.length args.length out)))→ci X f args boxes out:=by
   intro out hl
   refine ⟨⟨fn,hf,hname,hbody⟩,fun w vs N0 ν δ hg=>Calls.mono (calls_of_wp (R:=Ret X w N0 ν δ boxes.length args.length out) hf hcode ?_) fun e w h=>Ret.full h⟩
   have hs:=BO hg hargs hlow
   rw [hnt]
   exact hB _ (hpin hg) rfl _ w _ _ _ hs (hl w vs N0 ν δ hg)
  cases e with
  |exit id=>cases hk
  |normal=>exact absurd rfl he
  |ret=>
   obtain ⟨r,τ0,τ1,gp,hr,ht,hfin⟩:=gx hC _ hk (St.eqv.refl τ)
   cases r with
   |out o=>
    refine ⟨o,hfin,key fun w vs N0 ν δ hg a' w' g' D' hd hs=> ?_⟩
    obtain ⟨v,h1,h2⟩:=rz lc hg.dom hs hr
    exact ⟨hd,v,h1,h2⟩
   |_=>cases hfin
  |panic v=>
   obtain ⟨r,τ0,τ1,gp,hr,ht,hfin⟩:=gx hC _ hk (St.eqv.refl τ)
   cases r with
   |out o=>
    refine ⟨o,hfin,key fun w vs N0 ν δ hg a' w' g' D' hd hs val hval=> ?_⟩
    exact ⟨hd,F0 lc hg.dom hs hval hr⟩
   |_=>cases hfin
 ·have key: ∀ {out:Out U},(∀ (w:World) (vs:Array Value) (N0:aN) (ν:Nat→Nat) (δ:Nat→Option Nat) (hg:Given X w vs N0 ν δ args boxes) (us:Array Value) (c':Ctx),CtxOf c' w N0 boxes.length args.length ν δ→Ca c' caps us→
    Lands X c' [{target:= .fn (.func hh) us,args:= #[]}] e τ (bodyPostD P fn (Ret X w N0 ν δ boxes.length args.length out)))→ci X f args boxes out:=by
   intro out hl
   refine ⟨⟨fn,hf,hname,hbody⟩,fun w vs N0 ν δ hg=>Calls.mono (calls_of_wp_defers (R:=Ret X w N0 ν δ boxes.length args.length out) hf hcode ?_) fun e w h=>Ret.full h⟩
   have hs:=BO hg hargs hlow
   rw [hnt]
   exact hB _ (hpin hg) rfl _ w _ _ _ hs rfl fun us c' hcx _ hct=>hl w vs N0 ν δ hg us c' (hcx _ _ _ _ _ _ lc) hct
  have fin: ∀ {v:PV U} {u u':FrameMode},RcvOK v u u'→(iq (PV.idsL caps) fun _=>iV [] none (.func hh [] caps) []).cps (Cd v) τ [] (fun| .done,σ',_=>(jC V keep hand fn.results.toList boxes.length).cps C σ' [] (Go.Proofs.YtfkkpkhfjpaafaaGreatDoor.PI.fin κ)|_,_,_=>none)=some x→
    ∃ (out:Out U) (r:MR U) (τ0 τ1 τ2:St U) (gp gp':List Loc),κ out=some x∧(iq (PV.idsL caps) fun _=>iV [] none (.func hh [] caps) []).Rel (jS X (jM P u u')) τ [] r τ0 gp∧r= .done∧τ0.eqv τ1∧(jC V keep hand fn.results.toList boxes.length).Rel (ci X) τ1 [] (.out out) τ2 gp':=by
   intro v u u' hv hk
   obtain ⟨r,τ0,τ1,gp,hr,ht,hk1⟩:=gx (hCd v u u' hv) _ hk (St.eqv.refl τ)
   cases r with
   |raise v=>cases hk1
   |out o=>cases hk1
   |done=>
    obtain ⟨r',τ2,τ3,gp',hr',ht',hk2⟩:=gx hC _ hk1 (St.eqv.refl τ1)
    cases r' with
    |out o=>exact ⟨o,.done,τ0,τ1,τ2,gp,gp',hk2,hr,rfl,ht,hr'⟩
    |_=>cases hk2
  cases e with
  |exit id=>cases hk
  |normal=>
   obtain ⟨out,r,τ0,τ1,τ2,gp,gp',h1,h2,h3,h4,h5⟩:=fin .nil hk
   refine ⟨out,h1,key fun w vs N0 ν δ hg us c' hcx hct a' w' g' D' hd hs=> ?_⟩
   simp only [bodyPostD,hd]
   exact Fe hcx hg.dom .nil hct h2 h3 h4 h5 hs
  |ret=>
   obtain ⟨out,r,τ0,τ1,τ2,gp,gp',h1,h2,h3,h4,h5⟩:=fin .nil hk
   refine ⟨out,h1,key fun w vs N0 ν δ hg us c' hcx hct a' w' g' D' hd hs=> ?_⟩
   simp only [bodyPostD,hd]
   exact Fe hcx hg.dom .nil hct h2 h3 h4 h5 hs
  |panic v=>
   simp only [kD] at hk
   split at hk
   case h_2=>cases hk
   rename_i t k n'
   obtain ⟨out,r,τ0,τ1,τ2,gp,gp',h1,h2,h3,h4,h5⟩:=fin (.err t k n') hk
   refine ⟨out,h1,key fun w vs N0 ν δ hg us c' hcx hct a' w' g' D' hd hs val hval=> ?_⟩
   simp only [bodyPostD,hd]
   cases hval with
   |iface _ u _ hu=>cases hu;exact Fe hcx hg.dom (.err t k n') hct h2 h3 h4 h5 hs
end
end Go.Proofs.YtfkkpkhfjpaafaaGreatDoor.PI
namespace Go.Proofs.YtfkkpkhfjpaafaaGreatDoor
open Go PI
set_option linter.unusedVariables false
set_option maxRecDepth 100000
noncomputable section
noncomputable def uu:ET→TypeId
 | .C=>46
 | .T=>26
 | .B=>40
 | .I=>3
 | .F=>22
 | .D=>69
 | .G=>69
noncomputable def pQ:ET→Nat
 | .C=>2
 | .T=>6
 | .B=>2
 | .I=>1
 | .F=>1
 | .D=>7
 | .G=>7
noncomputable def zQ:ET→Nat
 | .C=>8
 | .T=>104
 | .B=>48
 | .I=>8
 | .F=>24
 | .D=>120
 | .G=>120
noncomputable def zY (e:ET):Value:=((Tryz.prog.info? (uu e)).bind (·.zero)).getD undef
noncomputable def Ep (e:ET):Bool:=match Tryz.prog.info? (uu e) with
 |some i=>i.zero.isSome&&(Nat.beq i.size (pQ e)&&Nat.beq i.bytes (zQ e))&&Nat.beq (zY e).cells.size (pQ e)
 | .none=>false
theorem KA (e:ET):Ep e=true:=by cases e<;>kernel_rfl
theorem T7: ∀t r,wy t=some r→I9 Tryz.prog uu t r=true:=by
 intro t r h
 unfold wy at h
 split at h<;>first|(injection h with h;subst h;kernel_rfl)|cases h
theorem aeb: ∀t r e,wy t=some r→r.keys=some e→e= .C:=by
 intro t r e h hk
 unfold wy at h
 split at h<;>first|(injection h with h;subst h;cases hk;done)|(injection h with h;subst h;injection hk with hk;exact hk.symm)|cases h
theorem akU: ∀e cs y,T3 e cs=some y→cs.length=pQ e∧cs.all PV.isCell=true∧ ∀ (k:Nat) p,cs[k]? =some p→ ∃q,(d6 e y)[k]? =some q∧p.less q:=by
 have hC: ∀ {p:PU} {l},oO p=some l→ ∃o,p= .sl (U:=UU) ET.C l o:=by
  intro p l h;unfold oO at h;split at h<;>first|(injection h with h;subst h;exact ⟨_,rfl⟩)|cases h
 have hT: ∀ {p:PU} {l},sn p=some l→ ∃o,p= .sl (U:=UU) ET.T l o:=by
  intro p l h;unfold sn at h;split at h<;>first|(injection h with h;subst h;exact ⟨_,rfl⟩)|cases h
 have hB: ∀ {p:PU} {l},wJ p=some l→ ∃o,p= .sl (U:=UU) ET.B l o:=by
  intro p l h;unfold wJ at h;split at h<;>first|(injection h with h;subst h;exact ⟨_,rfl⟩)|cases h
 intro e cs y h
 cases e
 ·have h:I4 cs=some y:=h
  unfold I4 at h
  split at h
  case h_2=>cases h
  injection h with h;subst h
  refine ⟨rfl,rfl,fun k p hp=> ?_⟩
  match k,hp with
  |0,hp=>exact ⟨_,rfl,.inl (Option.some.inj hp).symm⟩
  |1,hp=>exact ⟨_,rfl,.inl (Option.some.inj hp).symm⟩
  |k+2,hp=>simp at hp
 ·have h:I7 cs=some y:=h
  unfold I7 at h
  split at h
  case h_2=>cases h
  split at h
  case h_2=>cases h
  rename_i h1 h2 h3
  injection h with h;subst h
  obtain ⟨o1,rfl⟩:=hC h1;obtain ⟨o2,rfl⟩:=hT h2;obtain ⟨o3,rfl⟩:=hB h3
  refine ⟨rfl,rfl,fun k p hp=> ?_⟩
  match k,hp with
  |0,hp=>exact ⟨_,rfl,.inl (Option.some.inj hp).symm⟩
  |1,hp=>exact ⟨_,rfl,.inl (Option.some.inj hp).symm⟩
  |2,hp=>exact ⟨_,rfl,.inl (Option.some.inj hp).symm⟩
  |3,hp=>exact ⟨_,rfl,.inr ⟨_,_,_,(Option.some.inj hp).symm,rfl⟩⟩
  |4,hp=>exact ⟨_,rfl,.inr ⟨_,_,_,(Option.some.inj hp).symm,rfl⟩⟩
  |5,hp=>exact ⟨_,rfl,.inr ⟨_,_,_,(Option.some.inj hp).symm,rfl⟩⟩
  |k+6,hp=>simp at hp
 ·have h:I3 cs=some y:=h
  unfold I3 at h
  split at h
  case h_2=>cases h
  split at h
  case h_2=>cases h
  rename_i h1 h2
  injection h with h;subst h
  obtain ⟨o1,rfl⟩:=hC h1;obtain ⟨o2,rfl⟩:=hT h2
  refine ⟨rfl,rfl,fun k p hp=> ?_⟩
  match k,hp with
  |0,hp=>exact ⟨_,rfl,.inr ⟨_,_,_,(Option.some.inj hp).symm,rfl⟩⟩
  |1,hp=>exact ⟨_,rfl,.inr ⟨_,_,_,(Option.some.inj hp).symm,rfl⟩⟩
  |k+2,hp=>simp at hp
 ·have h:I6 cs=some y:=h
  unfold I6 at h
  split at h
  case h_2=>cases h
  injection h with h;subst h
  refine ⟨rfl,rfl,fun k p hp=> ?_⟩
  match k,hp with
  |0,hp=>exact ⟨_,rfl,.inl (Option.some.inj hp).symm⟩
  |k+1,hp=>simp at hp
 ·have h:I5 cs=some y:=h
  unfold I5 at h
  split at h
  case h_2=>cases h
  obtain ⟨o1,rfl⟩:=hC h
  refine ⟨rfl,rfl,fun k p hp=> ?_⟩
  match k,hp with
  |0,hp=>exact ⟨_,rfl,.inr ⟨_,_,_,(Option.some.inj hp).symm,rfl⟩⟩
  |k+1,hp=>simp at hp
 ·have h:rS cs=some y:=h
  unfold rS at h
  split at h
  case h_2=>cases h
  split at h
  case h_2=>cases h
  rename_i h1 h2 h3
  injection h with h;subst h
  obtain ⟨o1,rfl⟩:=hC h1;obtain ⟨o2,rfl⟩:=hT h2;obtain ⟨o3,rfl⟩:=hB h3
  refine ⟨rfl,rfl,fun k p hp=> ?_⟩
  match k,hp with
  |0,hp=>exact ⟨_,rfl,.inl (Option.some.inj hp).symm⟩
  |1,hp=>exact ⟨_,rfl,.inl (Option.some.inj hp).symm⟩
  |2,hp=>exact ⟨_,rfl,.inl (Option.some.inj hp).symm⟩
  |3,hp=>exact ⟨_,rfl,.inl (Option.some.inj hp).symm⟩
  |4,hp=>exact ⟨_,rfl,.inr ⟨_,_,_,(Option.some.inj hp).symm,rfl⟩⟩
  |5,hp=>exact ⟨_,rfl,.inr ⟨_,_,_,(Option.some.inj hp).symm,rfl⟩⟩
  |6,hp=>exact ⟨_,rfl,.inr ⟨_,_,_,(Option.some.inj hp).symm,rfl⟩⟩
  |k+7,hp=>simp at hp
 ·have h:rS cs=some y:=h
  unfold rS at h
  split at h
  case h_2=>cases h
  split at h
  case h_2=>cases h
  rename_i h1 h2 h3
  injection h with h;subst h
  obtain ⟨o1,rfl⟩:=hC h1;obtain ⟨o2,rfl⟩:=hT h2;obtain ⟨o3,rfl⟩:=hB h3
  refine ⟨rfl,rfl,fun k p hp=> ?_⟩
  match k,hp with
  |0,hp=>exact ⟨_,rfl,.inl (Option.some.inj hp).symm⟩
  |1,hp=>exact ⟨_,rfl,.inl (Option.some.inj hp).symm⟩
  |2,hp=>exact ⟨_,rfl,.inl (Option.some.inj hp).symm⟩
  |3,hp=>exact ⟨_,rfl,.inl (Option.some.inj hp).symm⟩
  |4,hp=>exact ⟨_,rfl,.inr ⟨_,_,_,(Option.some.inj hp).symm,rfl⟩⟩
  |5,hp=>exact ⟨_,rfl,.inr ⟨_,_,_,(Option.some.inj hp).symm,rfl⟩⟩
  |6,hp=>exact ⟨_,rfl,.inr ⟨_,_,_,(Option.some.inj hp).symm,rfl⟩⟩
  |k+7,hp=>simp at hp
theorem acB (e:ET): ∃i,Tryz.prog.info? (uu e)=some i∧i.zero=some (zY e)∧i.size=pQ e∧i.bytes=zQ e:=by
 have h:=KA e
 unfold Ep at h
 split at h
 ·rename_i i hi
  simp only [Bool.and_eq_true] at h
  obtain ⟨⟨h1,h2,h3⟩,h4⟩:=h
  refine ⟨i,hi, ?_,by simpa using h2,by simpa using h3⟩
  unfold zY
  rw [hi]
  obtain ⟨z,hz⟩:=Option.isSome_iff_exists.1 h1
  simp [hz]
 ·cases h
noncomputable def LL (o:Obj):Link VV Tryz.prog where
 gblk:=[(0,o)]
 etid:=uu
 esize:=pQ
 ebytes:=zQ
 ezero:=zY
 einfo:=acB
 zsize:=fun e=>by
  have h:=KA e
  unfold Ep at h
  split at h
  ·simp only [Bool.and_eq_true] at h
   exact by simpa using h.2
  ·cases h
 epos:=fun e=>by cases e<;>decide
 broom:=fun e n h=>by
  have h':n≤1099511627776:=h
  cases e<;>simp only [zQ,maxLen]<;>omega
 len:=fun e x=>by cases e<;>rfl
 small:=fun e=>by cases e<;>decide
 ecell':=fun e x=>by cases e<;>rfl
 toEl:=akU
 ty:=fun t r h=>T6 (T7 t r h)
 keyT:=fun t r e h hk=>by
  have he:=aeb t r e h hk
  subst he
  obtain ⟨fs,h1,h2,_,h4,h5⟩:=(T6 (T7 46 _ rfl)).isInts rfl
  exact ⟨⟨fs,h1,h2,h4,h5⟩,fun x y=>⟨_,by simp only [VV,d6,PV.eqvI];rfl⟩⟩
theorem Ax:Tryz.prog.follows .mixedOrders=true:=by kernel_rfl
theorem sw {A B:Out UU→Prop} (h: ∃out,A out∧B out): ∃out,B out∧A out:=by obtain ⟨o,a,b⟩:=h;exact ⟨o,b,a⟩
theorem ZM {S:Type} {b:Bool} {x y:Option S} {v:S} (h:(bif b then x else y)=some v):x=some v∨y=some v:=by
 cases b
 ·exact .inr h
 ·exact .inl h
end
end Go.Proofs.YtfkkpkhfjpaafaaGreatDoor
namespace Go.Proofs.YtfkkpkhfjpaafaaGreatDoor
open Go PI
set_option linter.unusedVariables false
def U32 (s:Int):Prop:=0≤s∧s<4294967296
theorem U32.nat {s:Int} (h:U32 s): ∃n:Nat,n<4294967296∧s=n:=⟨s.toNat,by have:=h.1;have:=h.2;omega,by have:=h.1;omega⟩
theorem o0 {n:Nat} (h:n<4294967296):(BitVec.ofInt 32 (n:Int)).toNat=n:=by
 grind
theorem ld (n:Nat) (h:n<4294967296):IntKind.wrap .u32 (n:Int)=n:=by
 grind [IntKind.wrap,IntKind.bits,IntKind.signed]
theorem iR (n:Nat) (h:n<18446744073709551616):IntKind.wrap .u64 (n:Int)=n:=by
 grind [IntKind.wrap,IntKind.bits,IntKind.signed]
theorem alX {n:Int} (h1: -9223372036854775808≤n) (h2:n<9223372036854775808):IntKind.wrap .i64 n=n:=by
 grind [IntKind.wrap,IntKind.bits,IntKind.signed]
theorem sk {a b n:Nat} (h:a<2^n):a&&&b<2^n:=Nat.lt_of_le_of_lt Nat.and_le_left h
theorem lj {a b:Nat} (ha:a<4294967296) (hb:b<4294967296):bj .and .u32 (a:Int) (b:Int)=((a&&&b:Nat):Int):=by
 have h1:=o0 ha;have h2:=o0 hb
 simp only [bj]
 show IntKind.wrap .u32 (((BitVec.ofInt 32 (a:Int))&&&(BitVec.ofInt 32 (b:Int))).toNat:Int)=_
 rw [BitVec.toNat_and,h1,h2]
 exact ld _ (sk (n:=32) ha)
theorem wK {a b:Nat} (ha:a<4294967296) (hb:b<4294967296):bj .or .u32 (a:Int) (b:Int)=((a|||b:Nat):Int):=by
 have h1:=o0 ha;have h2:=o0 hb
 simp only [bj]
 show IntKind.wrap .u32 (((BitVec.ofInt 32 (a:Int))|||(BitVec.ofInt 32 (b:Int))).toNat:Int)=_
 rw [BitVec.toNat_or,h1,h2]
 exact ld _ (Nat.or_lt_two_pow (n:=32) ha hb)
def dL (a b:Nat):Nat:=a^^^(a&&&b)
theorem mm (a b i:Nat):(dL a b).testBit i=(a.testBit i&& !b.testBit i):=by
 grind [dL]
theorem vq {a b n:Nat} (h:a<2^n):dL a b<2^n:=Nat.xor_lt_two_pow h (sk h)
theorem C_ {a b:Nat} (ha:a<4294967296) (hb:b<4294967296):bj .andNot .u32 (a:Int) (b:Int)=((dL a b:Nat):Int):=by
 have h1:=o0 ha;have h2:=o0 hb
 simp only [bj]
 show IntKind.wrap .u32 (((BitVec.ofInt 32 (a:Int))&&& ~~~(BitVec.ofInt 32 (b:Int))).toNat:Int)=_
 have e:((BitVec.ofInt 32 (a:Int))&&& ~~~(BitVec.ofInt 32 (b:Int))).toNat=dL a b:=by
  apply Nat.eq_of_testBit_eq
  intro i
  rw [mm,BitVec.toNat_and,Nat.testBit_and,h1]
  by_cases hi:i<32
  ·grind
  ·have:a.testBit i=false:=Nat.testBit_lt_two_pow (Nat.lt_of_lt_of_le ha (by exact Nat.pow_le_pow_right (n:=2) (by decide) (show 32≤i by omega)))
   grind
 rw [e]
 exact ld _ (vq (n:=32) ha)
theorem aY {α:Type} (p:Prop) [Decidable p] (x y:α):ab (decide p) x y=if p then x else y:=by
 grind [ae,ad]
theorem cH {α:Type} (c:Bool) (x y:α):ab c x y=if c=true then x else y:=by
 grind [ad,ae]
abbrev Fu (k:Nat):Prop:=4294967296≤k
theorem ag {R S:Type} {k:Nat} (h:Fu k) (f:(R→Option S)→Option S) (g:R→Option S):aa k f g=f g:=ZV (by omega) f g
theorem J5 {S:Type} {n m:Nat} (h:n+m≤1099511627776) (f:Unit→Option S):Option.bind (aw 1099511627776 n m) f=f ():=by
 grind [aw]
theorem j3 {α:Type} {l p r:List α} {x:α} (h:l=p++x::r) (hl:l.length<4611686018427387904):
  decide ((p.length:Int)<(l.length:Int))=true∧af l (p.length:Int)=some x∧IntKind.wrap .i64 ((p.length:Int)+1)=((p++[x]).length:Int)∧l=(p++[x])++r:=by
 subst h
 rw [List.length_append,List.length_cons] at hl
 refine ⟨decide_eq_true (by grind), ?_, ?_,by simp⟩
 all_goals grind [af,IntKind.wrap,IntKind.bits]
theorem akb {α:Type} {l p:List α} (h:l=p++[]):decide ((p.length:Int)<(l.length:Int))=false:=by
 grind
theorem i9 {n m:Nat} (h:n<m): ∃q,m=q+1∧n≤q:=⟨m-1,by omega,by omega⟩
theorem fN {S:Type} (p:Prop) [Decidable p] (h:p) (f:Unit→Option S):Option.bind (bR p) f=f ():=by simp [bR,h]
theorem pU {α:Type} (l:List α) (i:Nat):af l (i:Int)=l[i]? :=by rfl
end Go.Proofs.YtfkkpkhfjpaafaaGreatDoor
namespace Go.Proofs.YtfkkpkhfjpaafaaGreatDoor
open Go PI
set_option linter.unusedVariables false
set_option maxRecDepth 100000
noncomputable section
abbrev gY (S:Type):=Tm→Int→(Int→Option S)→Option S
def xL {S:Type} (hd:gY S) (k:Nat) (ret:Int→Option S) (t:Tm) (most i7:Int) (rec1:Int→Int→Option S) (rec2:Int→Int→Option S) (v5'' v8:Int):Option S:=
 Option.bind (af t.sys i7) fun x5=>
 ab (decide ((v8:Int)<(x5.kids.length:Int))) (
 ab (decide ((v5'':Int)≤most)) (
  Option.bind (af t.sys i7) fun x6=>
  Option.bind (af x6.kids v8) fun x7=>
  hd (ac x7) (IntKind.wrap .i64 (most-v5'')) fun r8=>
   rec2 (IntKind.wrap .i64 (v5''+r8)) (IntKind.wrap .i64 (v8+1))) (
   rec1 v5'' (IntKind.wrap .i64 (i7+1)))) (
  rec1 v5'' (IntKind.wrap .i64 (i7+1)))
noncomputable def kA {S:Type} (hd:gY S) (k:Nat) (ret:Int→Option S) (rec1:Int→Int→Option S) (t:Tm) (most i7:Int):Nat→Int→Int→Option S
 |0=>fun _ _=> .none
 |m+1=>fun v5'' v8=>xL hd k ret t most i7 rec1 (kA hd k ret rec1 t most i7 m) v5'' v8
def sS {S:Type} (hd:gY S) (k:Nat) (ret:Int→Option S) (t:Tm) (most:Int) (J2:Int→Int→Int→Option S) (rec1:Int→Int→Option S) (v5' i7:Int):Option S:=
 ab (decide ((i7:Int)<(t.sys.length:Int))) (
 ab (decide ((v5':Int)≤most)) (
  Option.bind (af t.sys i7) fun x3=>
  ab (decide (((x3.face.length:Int):Int)>most)) (
  ret (IntKind.wrap .i64 (most+1))) (
  Option.bind (af t.sys i7) fun x4=>
    J2 i7 (IntKind.wrap .i64 ((IntKind.wrap .i64 (v5'+1))+(x4.face.length:Int))) 0)) (
  ret v5')) (
 ret v5')
noncomputable def jl {S:Type} (hd:gY S) (k:Nat) (ret:Int→Option S) (t:Tm) (most:Int):Nat→Int→Int→Option S
 |0=>fun _ _=> .none
 |m+1=>fun v5' i7=>sS hd k ret t most (fun i7 v5'' v8=>kA hd k ret (jl hd k ret t most m) t most i7 k v5'' v8) (jl hd k ret t most m) v5' i7
def sR {S:Type} (hd:gY S) (k:Nat) (ret:Int→Option S) (t:Tm) (most:Int) (J1:Int→Int→Option S) (rec0:Int→Int→Option S) (v5 i6:Int):Option S:=
 ab (decide ((i6:Int)<(t.kids.length:Int))) (
 ab (decide ((v5:Int)≤most)) (
  Option.bind (af t.kids i6) fun x1=>
  hd (ac x1) (IntKind.wrap .i64 (most-v5)) fun r2=>
   rec0 (IntKind.wrap .i64 (v5+r2)) (IntKind.wrap .i64 (i6+1))) (
   J1 v5 0)) (
  J1 v5 0)
noncomputable def nQ {S:Type} (hd:gY S) (k:Nat) (ret:Int→Option S) (t:Tm) (most:Int):Nat→Int→Int→Option S
 |0=>fun _ _=> .none
 |m+1=>fun v5 i6=>sR hd k ret t most (fun v5' i7=>jl hd k ret t most k v5' i7) (nQ hd k ret t most m) v5 i6
def Io {S:Type} (hd:gY S) (k:Nat) (ret:Int→Option S) (J0:Int→Int→Option S) (t:Tm) (most:Int):Option S:=
 ab (decide (((t.r.length:Int):Int)>most)) (
 ret (IntKind.wrap .i64 (most+1))) (
 ab (decide (((t.name.size:Int):Int)>most)) (
  ret (IntKind.wrap .i64 (most+1))) (
   J0 (IntKind.wrap .i64 ((IntKind.wrap .i64 (1+(t.r.length:Int)))+(t.name.size:Int))) 0))
noncomputable def gE {S:Type}:Nat→Tm→Int→(Int→Option S)→Option S
 |0=>fun _ _ _=> .none
 |k+1=>fun t most ret=>Io (gE k) k ret (fun v5 i6=>nQ (gE k) k ret t most k v5 i6) t most
noncomputable def SR {S:Type} (k:Nat) (ret:Bool→Option S) (t:Tm):Option S:=
 gE k (ac t) 150 fun r1=>
 ret (decide ((r1:Int)>150))
noncomputable def DR {S:Type} (k:Nat) (t:Tm) (ret:Bool→Option S):Option S:=SR k ret t
noncomputable def akA {S:Type} (k:Nat) (ret:Int×Int×ByteArray×List Tm→Option S) (kind:Int) (kids:List Tm):Option S:=
 ret (kind,0,ByteArray.empty,kids)
noncomputable def al5 {S:Type} (k:Nat) (kind:Int) (kids:List Tm) (ret:Int×Int×ByteArray×List Tm→Option S):Option S:=akA k ret kind kids
def TN {S:Type} (k:Nat) (ret:Int×Int→Option S) (kind kid:Int):Option S:=
 ab (kind==4) (
 ab (kid==1) (
  ret (1,0)) (
  ret (0,0))) (
 ab (kind==7) (
  ab (kid==1) (
  ret (1,0)) (
  ret (0,0))) (
  ab (kind==5) (
  ab (kid==0) (
   ret (1,0)) (
   ret (0,0))) (
  ab (kind==22) (
   ab (kid==0) (
   ret (1,0)) (
   ret (0,0))) (
   ab (kind==27) (
   ab (kid==0) (
    ret (1,0)) (
    ret (0,0))) (
   ab (kind==11) (
    ab (kid==0) (
    ret (0,1)) (
    ret (0,0))) (
    ab (kind==12) (
    ab (kid==0) (
     ret (0,1)) (
     ret (0,0))) (
    ab (kind==14) (
     ab (kid==0) (
     ret (0,1)) (
     ret (0,0))) (
     ret (0,0)))))))))
noncomputable def gI {S:Type} (k:Nat) (kind kid:Int) (ret:Int×Int→Option S):Option S:=TN k ret kind kid
abbrev du (S:Type):=Tm→Int→(Bool→Option S)→Option S
noncomputable def I0 {S:Type} (hd:du S) (k:Nat) (ret:Bool→Option S) (a_k:Tm) (p p' c0:Int):Option S:=
 hd (ac a_k) (IntKind.wrap .i64 (c0-1)) fun r1=>
 ret r1
noncomputable def uk {S:Type} (hd:du S) (k:Nat) (a_k:Tm) (p p' c0:Int) (ret:Bool→Option S):Option S:=I0 hd k ret a_k p p' c0
def yi {S:Type} (hd:du S) (k:Nat) (ret:Bool→Option S) (c0:Int) (t:Tm) (v42:Int) (x4:(Br Tm)) (more9:Int) (rec1:Int→Int→Option S) (rec2:Int→Option S) (v49:Int):Option S:=
 ab (decide ((v49:Int)<(x4.kids.length:Int))) (
 Option.bind (af x4.kids v49) fun x5=>
 aa k (uk hd k (ac x5) 0 more9 c0) fun r6=>
 ab (!r6) (
  ret false) (
   rec2 (IntKind.wrap .i64 (v49+1)))) (
  rec1 (IntKind.wrap .i64 (v42+1)) more9)
noncomputable def anh {S:Type} (hd:du S) (k:Nat) (ret:Bool→Option S) (rec1:Int→Int→Option S) (c0:Int) (t:Tm) (v42:Int) (x4:(Br Tm)) (more9:Int):Nat→Int→Option S
 |0=>fun _=> .none
 |m+1=>fun v49=>yi hd k ret c0 t v42 x4 more9 rec1 (anh hd k ret rec1 c0 t v42 x4 more9 m) v49
def tp {S:Type} (hd:du S) (k:Nat) (ret:Bool→Option S) (c0:Int) (t:Tm) (J2:Int→(Br Tm)→Int→Int→Option S) (rec1:Int→Int→Option S) (v42 more9:Int):Option S:=
 ab (decide ((v42:Int)<(t.sys.length:Int))) (
 Option.bind (af t.sys v42) fun x4=>
  J2 v42 x4 more9 0) (
 ret true)
noncomputable def jp {S:Type} (hd:du S) (k:Nat) (ret:Bool→Option S) (c0:Int) (t:Tm):Nat→Int→Int→Option S
 |0=>fun _ _=> .none
 |m+1=>fun v42 more9=>tp hd k ret c0 t (fun v42 x4 more9 v49=>anh hd k ret (jp hd k ret c0 t m) c0 t v42 x4 more9 k v49) (jp hd k ret c0 t m) v42 more9
def tn {S:Type} (hd:du S) (k:Nat) (ret:Bool→Option S) (c0:Int) (t:Tm) (J1:Int→Int→Option S) (rec0:Int→Option S) (v17:Int):Option S:=
 ab (decide ((v17:Int)<(t.kids.length:Int))) (
 Option.bind (af t.kids v17) fun x1=>
 aa k (gI k t.kind v17) fun r2=>
 aa k (uk hd k (ac x1) r2.1 r2.2 c0) fun r3=>
 ab (!r3) (
  ret false) (
   rec0 (IntKind.wrap .i64 (v17+1)))) (
 ab (t.kind==15) (
   J1 0 1) (
   J1 0 0))
noncomputable def qS {S:Type} (hd:du S) (k:Nat) (ret:Bool→Option S) (c0:Int) (t:Tm):Nat→Int→Option S
 |0=>fun _=> .none
 |m+1=>fun v17=>tn hd k ret c0 t (fun v42 more9=>jp hd k ret c0 t k v42 more9) (qS hd k ret c0 t m) v17
noncomputable def IV {S:Type} (hd:du S) (k:Nat) (ret:Bool→Option S) (J0:Int→Option S) (t:Tm) (c0:Int):Option S:=
 J0 0
noncomputable def DX {S:Type} (hd:du S) (k:Nat) (t:Tm) (c0:Int) (ret:Bool→Option S):Option S:=IV hd k ret (fun v17=>qS hd k ret c0 t k v17) t c0
def TV {S:Type} (hd:du S) (k:Nat) (ret:Bool→Option S) (t:Tm) (left:Int):Option S:=
 ab (decide ((left:Int)>0)) (
 aa k (DX hd k (ac t) left) fun r1=>
 ret r1) (
 ret false)
noncomputable def jf {S:Type}:Nat→Tm→Int→(Bool→Option S)→Option S
 |0=>fun _ _ _=> .none
 |k+1=>fun t left ret=>TV (jf k) k ret t left
abbrev dt (S:Type):=Tm→Int→(Bool×Int→Option S)→Option S
def I2 {S:Type} (hd:dt S) (k:Nat) (ret:Bool×Int→Option S) (t:Tm) (c0:Int):Option S:=
 ab (decide ((IntKind.wrap .i64 (c0-1):Int)≥0)) (
 hd (ac t) (IntKind.wrap .i64 (c0-1)) fun r1=>
 ret (r1.1,r1.2)) (
 ret (false,IntKind.wrap .i64 (c0-1)))
noncomputable def pB {S:Type} (hd:dt S) (k:Nat) (t:Tm) (c0:Int) (ret:Bool×Int→Option S):Option S:=I2 hd k ret t c0
noncomputable def I1 {S:Type} (hd:dt S) (k:Nat) (ret:Bool×Int→Option S) (a_k:Tm) (p p' c1:Int):Option S:=
 aa k (pB hd k (ac a_k) c1) fun r1=>
 ret (r1.1,r1.2)
noncomputable def ul {S:Type} (hd:dt S) (k:Nat) (a_k:Tm) (p p' c1:Int) (ret:Bool×Int→Option S):Option S:=I1 hd k ret a_k p p' c1
def yg {S:Type} (hd:dt S) (k:Nat) (ret:Bool×Int→Option S) (t:Tm) (v42:Int) (x4:(Br Tm)) (more9:Int) (rec1:Int→Int→Int→Option S) (rec2:Int→Int→Option S) (e1_0'' v49:Int):Option S:=
 ab (decide ((v49:Int)<(x4.kids.length:Int))) (
 Option.bind (af x4.kids v49) fun x5=>
 aa k (ul hd k (ac x5) 0 more9 e1_0'') fun r6=>
 ab (!r6.1) (
  ret (false,r6.2)) (
   rec2 r6.2 (IntKind.wrap .i64 (v49+1)))) (
  rec1 e1_0'' (IntKind.wrap .i64 (v42+1)) more9)
noncomputable def kL {S:Type} (hd:dt S) (k:Nat) (ret:Bool×Int→Option S) (rec1:Int→Int→Int→Option S) (t:Tm) (v42:Int) (x4:(Br Tm)) (more9:Int):Nat→Int→Int→Option S
 |0=>fun _ _=> .none
 |m+1=>fun e1_0'' v49=>yg hd k ret t v42 x4 more9 rec1 (kL hd k ret rec1 t v42 x4 more9 m) e1_0'' v49
def tj {S:Type} (hd:dt S) (k:Nat) (ret:Bool×Int→Option S) (t:Tm) (J2:Int→(Br Tm)→Int→Int→Int→Option S) (rec1:Int→Int→Int→Option S) (e1_0' v42 more9:Int):Option S:=
 ab (decide ((v42:Int)<(t.sys.length:Int))) (
 Option.bind (af t.sys v42) fun x4=>
  J2 v42 x4 more9 e1_0' 0) (
 ret (true,e1_0'))
noncomputable def iA {S:Type} (hd:dt S) (k:Nat) (ret:Bool×Int→Option S) (t:Tm):Nat→Int→Int→Int→Option S
 |0=>fun _ _ _=> .none
 |m+1=>fun e1_0' v42 more9=>tj hd k ret t (fun v42 x4 more9 e1_0'' v49=>kL hd k ret (iA hd k ret t m) t v42 x4 more9 k e1_0'' v49) (iA hd k ret t m) e1_0' v42 more9
def ti {S:Type} (hd:dt S) (k:Nat) (ret:Bool×Int→Option S) (t:Tm) (J1:Int→Int→Int→Option S) (rec0:Int→Int→Option S) (e1_0 v17:Int):Option S:=
 ab (decide ((v17:Int)<(t.kids.length:Int))) (
 Option.bind (af t.kids v17) fun x1=>
 aa k (gI k t.kind v17) fun r2=>
 aa k (ul hd k (ac x1) r2.1 r2.2 e1_0) fun r3=>
 ab (!r3.1) (
  ret (false,r3.2)) (
   rec0 r3.2 (IntKind.wrap .i64 (v17+1)))) (
 ab (t.kind==15) (
   J1 e1_0 0 1) (
   J1 e1_0 0 0))
noncomputable def nY {S:Type} (hd:dt S) (k:Nat) (ret:Bool×Int→Option S) (t:Tm):Nat→Int→Int→Option S
 |0=>fun _ _=> .none
 |m+1=>fun e1_0 v17=>ti hd k ret t (fun e1_0' v42 more9=>iA hd k ret t k e1_0' v42 more9) (nY hd k ret t m) e1_0 v17
noncomputable def IT {S:Type} (hd:dt S) (k:Nat) (ret:Bool×Int→Option S) (J0:Int→Int→Option S) (t:Tm) (c1:Int):Option S:=
 J0 c1 0
noncomputable def fg {S:Type}:Nat→Tm→Int→(Bool×Int→Option S)→Option S
 |0=>fun _ _ _=> .none
 |k+1=>fun t c1 ret=>IT (fg k) k ret (fun e1_0 v17=>nY (fg k) k ret t k e1_0 v17) t c1
noncomputable def TX {S:Type} (k:Nat) (ret:Bool→Option S) (t:Tm) (most:Int):Option S:=
 aa k (pB (fg k) k (ac t) most) fun r1=>
 ret r1.1
noncomputable def zE {S:Type} (k:Nat) (t:Tm) (most:Int) (ret:Bool→Option S):Option S:=TX k ret t most
def TW {S:Type} (k:Nat) (ret:Int→Option S) (t:Tm):Option S:=
 jf k (ac t) 200 fun r1=>
 ab (!r1) (
 ret 62) (
 aa k (zE k (ac t) 20000) fun r2=>
 ab (!r2) (
  ret 221) (
  ret 0))
noncomputable def zD {S:Type} (k:Nat) (t:Tm) (ret:Int→Option S):Option S:=TW k ret t
def TQ {S:Type} (k:Nat) (ret:Int→Option S) (kind:Int):Option S:=
 ab (kind==1) (
 ret 0) (
 ab (kind==2) (
  ret 0) (
  ab (kind==3) (
  ret 0) (
  ab (kind==19) (
   ret 0) (
   ab (kind==20) (
   ret 0) (
   ab (kind==24) (
    ret 0) (
    ab (kind==25) (
    ret 0) (
    ab (kind==21) (
     ret 0) (
     ab (kind==5) (
     ret 1) (
     ab (kind==9) (
      ret 1) (
      ab (kind==10) (
      ret 1) (
      ab (kind==23) (
       ret 1) (
       ab (kind==12) (
       ret 1) (
       ab (kind==16) (
        ret 1) (
        ab (kind==17) (
        ret 1) (
        ab (kind==18) (
         ret 1) (
         ab (kind==26) (
         ret 1) (
         ab (kind==4) (
          ret 2) (
          ab (kind==7) (
          ret 2) (
          ab (kind==6) (
           ret 2) (
           ab (kind==8) (
           ret 2) (
           ab (kind==14) (
            ret 2) (
            ab (kind==15) (
            ret 2) (
            ab (kind==28) (
             ret 2) (
             ab (kind==11) (
             ret 3) (
             ab (kind==13) (
              ret 3) (
              ab (kind==22) (
              ret 4) (
              ab (kind==27) (
               ret 5) (
               ret (-1)))))))))))))))))))))))))))))
noncomputable def zA {S:Type} (k:Nat) (kind:Int) (ret:Int→Option S):Option S:=TQ k ret kind
def TR {S:Type} (k:Nat) (ret:Int→Option S) (kind:Int):Option S:=
 ab (kind==15) (
 ret 1) (
 ab (kind==17) (
  ret 1) (
  ab (kind==18) (
  ret 1) (
  ab (kind==16) (
   ret 2) (
   ret 0))))
noncomputable def lJ {S:Type} (k:Nat) (kind:Int) (ret:Int→Option S):Option S:=TR k ret kind
def Dk {S:Type} (k:Nat) (ret:Bool→Option S) (s:ByteArray) (v8:Int) (x1:UInt8) (rec0:Int→Option S) (letter5:Bool):Option S:=
 ab (!letter5) (
 ab (v8==0) (
  ret false) (
  ab (decide (((x1.toNat:Int):Int)<48)) (
  ret false) (
  ab (decide (((x1.toNat:Int):Int)>57)) (
   ret false) (
     rec0 (IntKind.wrap .i64 (v8+1)))))) (
  rec0 (IntKind.wrap .i64 (v8+1)))
noncomputable def Aq {S:Type} (k:Nat) (ret:Bool→Option S) (rec0:Int→Option S) (s:ByteArray) (v8:Int) (x1:UInt8):Nat→Bool→Option S
 |0=>fun _=> .none
 |_+1=>fun letter5=>Dk k ret s v8 x1 rec0 letter5
def tv {S:Type} (k:Nat) (ret:Bool→Option S) (s:ByteArray) (J1:Int→UInt8→Bool→Option S) (rec0:Int→Option S) (v8:Int):Option S:=
 ab (decide ((v8:Int)<(s.size:Int))) (
 Option.bind (af s.data.toList v8) fun x1=>
 ab (decide (((x1.toNat:Int):Int)≥97)) (
  ab (decide (((x1.toNat:Int):Int)≤122)) (
    J1 v8 x1 true) (
  ab (decide (((x1.toNat:Int):Int)≥65)) (
   ab (decide (((x1.toNat:Int):Int)≤90)) (
      J1 v8 x1 true) (
      J1 v8 x1 ((x1.toNat:Int)==95))) (
     J1 v8 x1 ((x1.toNat:Int)==95)))) (
  ab (decide (((x1.toNat:Int):Int)≥65)) (
  ab (decide (((x1.toNat:Int):Int)≤90)) (
     J1 v8 x1 true) (
     J1 v8 x1 ((x1.toNat:Int)==95))) (
    J1 v8 x1 ((x1.toNat:Int)==95)))) (
 ret (!(s==ByteArray.empty)))
noncomputable def n7 {S:Type} (k:Nat) (ret:Bool→Option S) (s:ByteArray):Nat→Int→Option S
 |0=>fun _=> .none
 |m+1=>fun v8=>tv k ret s (fun v8 x1 letter5=>Aq k ret (n7 k ret s m) s v8 x1 k letter5) (n7 k ret s m) v8
noncomputable def IY {S:Type} (k:Nat) (ret:Bool→Option S) (J0:Int→Option S) (s:ByteArray):Option S:=
 J0 0
noncomputable def zC {S:Type} (k:Nat) (s:ByteArray) (ret:Bool→Option S):Option S:=IY k ret (fun v8=>n7 k ret s k v8) s
noncomputable def SY {S:Type} (k:Nat) (ret:Bool→Option S) (s:Int):Option S:=
 ret ((bj .andNot .u32 s 16777215)==0)
noncomputable def pm {S:Type} (k:Nat) (s:Int) (ret:Bool→Option S):Option S:=SY k ret s
def Sk {S:Type} (k:Nat) (ret:Bool→Option S) (c:Cl):Option S:=
 aa k (pm k c.pos) fun r1=>
 ab (r1) (
 aa k (pm k c.neg) fun r2=>
 ret r2) (
 ret false)
noncomputable def tC {S:Type} (k:Nat) (c:Cl) (ret:Bool→Option S):Option S:=Sk k ret c
noncomputable def Sj {S:Type} (k:Nat) (ret:Cl→Option S) (a b:Cl):Option S:=
 ret (Cl.mk (bj .or .u32 a.pos b.pos) (bj .or .u32 a.neg b.neg))
noncomputable def pb {S:Type} (k:Nat) (a b:Cl) (ret:Cl→Option S):Option S:=Sj k ret a b
noncomputable def Se {S:Type} (k:Nat) (ret:Bool→Option S) (a b:Cl):Option S:=
 aa k (pb k a b) fun r1=>
 ret ((r1.pos==a.pos)&&((r1.neg==a.neg)&&true))
noncomputable def yA {S:Type} (k:Nat) (a b:Cl) (ret:Bool→Option S):Option S:=Se k ret a b
def Sh {S:Type} (k:Nat) (ret:Bool→Option S) (d c0:Cl):Option S:=
 ab (!((c0.pos==d.pos)&&((c0.neg==d.neg)&&true))) (
 aa k (yA k c0 d) fun r1=>
 ret r1) (
 ret false)
noncomputable def yC {S:Type} (k:Nat) (d c0:Cl) (ret:Bool→Option S):Option S:=Sh k ret d c0
def yc {S:Type} (k:Nat) (ret:Int→Option S) (c0:Cl) (s:List Cl) (rec0:Int→Option S) (v8:Int):Option S:=
 ab (decide ((v8:Int)<(s.length:Int))) (
 Option.bind (af s v8) fun x1=>
 aa k (yC k x1 c0) fun r2=>
 ab (r2) (
  ret v8) (
   rec0 (IntKind.wrap .i64 (v8+1)))) (
 ret (-1))
noncomputable def qO {S:Type} (k:Nat) (ret:Int→Option S) (c0:Cl) (s:List Cl):Nat→Int→Option S
 |0=>fun _=> .none
 |m+1=>fun v8=>yc k ret c0 s (qO k ret c0 s m) v8
noncomputable def IM {S:Type} (k:Nat) (ret:Int→Option S) (J0:Int→Option S) (s:List Cl) (c0:Cl):Option S:=
 J0 0
noncomputable def DV {S:Type} (k:Nat) (s:List Cl) (c0:Cl) (ret:Int→Option S):Option S:=IM k ret (fun v8=>qO k ret c0 s k v8) s c0
noncomputable def TL {S:Type} (k:Nat) (ret:Bool→Option S) (s:List Cl) (c0:Cl):Option S:=
 aa k (DV k s c0) fun r1=>
 ret (decide ((r1:Int)≥0))
noncomputable def DT {S:Type} (k:Nat) (s:List Cl) (c0:Cl) (ret:Bool→Option S):Option S:=TL k ret s c0
noncomputable def Sg {S:Type} (k:Nat) (ret:Bool→Option S) (c:Cl) (c0:List Cl):Option S:=
 aa k (DT k c0 c) fun r1=>
 ret r1
noncomputable def yB {S:Type} (k:Nat) (c:Cl) (c0:List Cl) (ret:Bool→Option S):Option S:=Sg k ret c c0
def wM {S:Type} (k:Nat) (ret:List Cl×Int→Option S) (b5_0:List Cl) (rec1:Int→(List Cl)→Option S) (v36:Int) (kept9:List Cl):Option S:=
 ab (decide ((v36:Int)<(b5_0.length:Int))) (
 Option.bind (af b5_0 v36) fun x4=>
 aa k (yB k x4 b5_0) fun r5=>
 ab (!r5) (
  Option.bind (aw 1099511627776 kept9.length [x4].length) fun x6=>
   rec1 (IntKind.wrap .i64 (v36+1)) (kept9++[x4])) (
   rec1 (IntKind.wrap .i64 (v36+1)) kept9)) (
 ab (decide (((kept9.length:Int):Int)>64)) (
  ret (([]:List Cl),3)) (
  ret (sortCl kept9,0)))
noncomputable def nz {S:Type} (k:Nat) (ret:List Cl×Int→Option S) (b5_0:List Cl):Nat→Int→(List Cl)→Option S
 |0=>fun _ _=> .none
 |m+1=>fun v36 kept9=>wM k ret b5_0 (nz k ret b5_0 m) v36 kept9
def sq {S:Type} (k:Nat) (ret:List Cl×Int→Option S) (l:List Cl) (J1:(List Cl)→Int→(List Cl)→Option S) (rec0:(List (Cl×Bool))→(List Cl)→Int→Option S) (b12_0:List (Cl×Bool)) (b5_0:List Cl) (v15:Int):Option S:=
 ab (decide ((v15:Int)<(l.length:Int))) (
 Option.bind (af l v15) fun x1=>
 aa k (tC k x1) fun r2=>
 ab (!r2) (
  ret (([]:List Cl),2)) (
  ab (!((dW VV ET.C b12_0 x1).getD false)) (
  Option.bind (aw 1099511627776 b5_0.length [x1].length) fun x3=>
    rec0 (fz VV ET.C b12_0 x1 true) (b5_0++[x1]) (IntKind.wrap .i64 (v15+1))) (
    rec0 b12_0 b5_0 (IntKind.wrap .i64 (v15+1))))) (
  J1 b5_0 0 ([]:List Cl))
noncomputable def pZ {S:Type} (k:Nat) (ret:List Cl×Int→Option S) (l:List Cl):Nat→(List (Cl×Bool))→(List Cl)→Int→Option S
 |0=>fun _ _ _=> .none
 |m+1=>fun b12_0 b5_0 v15=>sq k ret l (fun b5_0 v36 kept9=>nz k ret b5_0 k v36 kept9) (pZ k ret l m) b12_0 b5_0 v15
noncomputable def Hw {S:Type} (k:Nat) (ret:List Cl×Int→Option S) (J0:(List (Cl×Bool))→(List Cl)→Int→Option S) (l:List Cl):Option S:=
 J0 ([]:List (Cl×Bool)) ([]:List Cl) 0
noncomputable def gy {S:Type} (k:Nat) (l:List Cl) (ret:List Cl×Int→Option S):Option S:=Hw k ret (fun b12_0 b5_0 v15=>pZ k ret l k b12_0 b5_0 v15) l
def yb {S:Type} (k:Nat) (ret:Bool→Option S) (s1 s2:List Cl) (rec0:Int→Option S) (v13:Int):Option S:=
 ab (decide ((v13:Int)<(s1.length:Int))) (
 Option.bind (af s1 v13) fun x1=>
 Option.bind (af s2 v13) fun x2=>
 ab (!((x1.pos==x2.pos)&&((x1.neg==x2.neg)&&true))) (
  ret false) (
   rec0 (IntKind.wrap .i64 (v13+1)))) (
 ret true)
noncomputable def qN {S:Type} (k:Nat) (ret:Bool→Option S) (s1 s2:List Cl):Nat→Int→Option S
 |0=>fun _=> .none
 |m+1=>fun v13=>yb k ret s1 s2 (qN k ret s1 s2 m) v13
def IL {S:Type} (k:Nat) (ret:Bool→Option S) (J0:Int→Option S) (s1 s2:List Cl):Option S:=
 ab (!((s1.length:Int)==(s2.length:Int))) (
 ret false) (
  J0 0)
noncomputable def zz {S:Type} (k:Nat) (s1 s2:List Cl) (ret:Bool→Option S):Option S:=IL k ret (fun v13=>qN k ret s1 s2 k v13) s1 s2
def SL {S:Type} (k:Nat) (ret:Bool→Option S) (f:List Cl):Option S:=
 aa k (gy k f) fun r1=>
 ab (r1.2==0) (
 aa k (zz k r1.1 f) fun r2=>
 ret r2) (
 ret false)
noncomputable def hY {S:Type} (k:Nat) (f:List Cl) (ret:Bool→Option S):Option S:=SL k ret f
def S2 {S:Type} (k:Nat) (ret:Bool→Option S) (i:Int):Option S:=
 ab (decide ((i:Int)≥0)) (
 ret (decide ((i:Int)<24))) (
 ret false)
noncomputable def nd {S:Type} (k:Nat) (i:Int) (ret:Bool→Option S):Option S:=S2 k ret i
def S0 {S:Type} (k:Nat) (ret:Int→Option S) (s i:Int):Option S:=
 aa k (nd k i) fun r1=>
 ab (!r1) (
 ret (bj .and .u32 s 16777215)) (
 Option.bind (bR (0≤(IntKind.wrap .u64 i))) fun x2=>
 ret (bj .andNot .u32 (bj .and .u32 s 16777215) (IntKind.wrap .u32 (1*2^min (Int.toNat (IntKind.wrap .u64 i)) 32))))
noncomputable def jX {S:Type} (k:Nat) (s i:Int) (ret:Int→Option S):Option S:=S0 k ret s i
def wY {S:Type} (k:Nat) (ret:Int→Option S) (f:List Cl) (rec0:Int→Int→Option S) (s3 v8:Int):Option S:=
 ab (decide ((v8:Int)<(f.length:Int))) (
 Option.bind (af f v8) fun x1=>
  rec0 (bj .or .u32 s3 (bj .or .u32 x1.pos x1.neg)) (IntKind.wrap .i64 (v8+1))) (
 aa k (jX k s3 (-1)) fun r2=>
 ret r2)
noncomputable def qb {S:Type} (k:Nat) (ret:Int→Option S) (f:List Cl):Nat→Int→Int→Option S
 |0=>fun _ _=> .none
 |m+1=>fun s3 v8=>wY k ret f (qb k ret f m) s3 v8
noncomputable def HL {S:Type} (k:Nat) (ret:Int→Option S) (J0:Int→Int→Option S) (f:List Cl):Option S:=
 J0 0 0
noncomputable def jc {S:Type} (k:Nat) (f:List Cl) (ret:Int→Option S):Option S:=HL k ret (fun s3 v8=>qb k ret f k s3 v8) f
def TY {S:Type} (k:Nat) (ret:Bool→Option S) (f:List Cl) (dims:Int):Option S:=
 ab (decide ((dims:Int)≥24)) (
 ret true) (
 aa k (jc k f) fun r1=>
 Option.bind (bR (0≤(IntKind.wrap .u64 dims))) fun x2=>
 ret ((Int.fdiv r1 (2^min (Int.toNat (IntKind.wrap .u64 dims)) 32))==0))
noncomputable def lK {S:Type} (k:Nat) (f:List Cl) (dims:Int) (ret:Bool→Option S):Option S:=TY k ret f dims
noncomputable def Sf {S:Type} (k:Nat) (ret:Bool→Option S) (c:Cl):Option S:=
 ret (!((bj .and .u32 c.pos c.neg)==0))
noncomputable def tB {S:Type} (k:Nat) (c:Cl) (ret:Bool→Option S):Option S:=Sf k ret c
def yd {S:Type} (k:Nat) (ret:Int→Option S) (s:List Cl) (rec0:Int→Option S) (v8:Int):Option S:=
 ab (decide ((v8:Int)<(s.length:Int))) (
 Option.bind (af s v8) fun x1=>
 aa k (tB k x1) fun r2=>
 ab (r2) (
  ret v8) (
   rec0 (IntKind.wrap .i64 (v8+1)))) (
 ret (-1))
noncomputable def qP {S:Type} (k:Nat) (ret:Int→Option S) (s:List Cl):Nat→Int→Option S
 |0=>fun _=> .none
 |m+1=>fun v8=>yd k ret s (qP k ret s m) v8
noncomputable def IN {S:Type} (k:Nat) (ret:Int→Option S) (J0:Int→Option S) (s:List Cl):Option S:=
 J0 0
noncomputable def DW {S:Type} (k:Nat) (s:List Cl) (ret:Int→Option S):Option S:=IN k ret (fun v8=>qP k ret s k v8) s
noncomputable def TM {S:Type} (k:Nat) (ret:Bool→Option S) (s:List Cl):Option S:=
 aa k (DW k s) fun r1=>
 ret (decide ((r1:Int)≥0))
noncomputable def DU {S:Type} (k:Nat) (s:List Cl) (ret:Bool→Option S):Option S:=TM k ret s
def SA {S:Type} (k:Nat) (ret:Bool→Option S) (f:List Cl):Option S:=
 aa k (hY k f) fun r1=>
 ab (r1) (
 aa k (DU k f) fun r2=>
 ret (!r2)) (
 ret false)
noncomputable def pd {S:Type} (k:Nat) (f:List Cl) (ret:Bool→Option S):Option S:=SA k ret f
def yl {S:Type} (k:Nat) (ret:Bool→Option S) (t:Tm) (dims:Int) (rec1:Int→Option S) (v109:Int):Option S:=
 ab (decide ((v109:Int)<(t.sys.length:Int))) (
 Option.bind (af t.sys v109) fun x12=>
 aa k (lJ k t.kind) fun r13=>
 ab (!((x12.kids.length:Int)==r13)) (
  ret false) (
  aa k (pd k x12.face) fun r14=>
  ab (!r14) (
  ret false) (
  aa k (lK k x12.face dims) fun r15=>
  ab (!r15) (
   ret false) (
     rec1 (IntKind.wrap .i64 (v109+1)))))) (
 ret ((t.r.length:Int)==0))
noncomputable def kO {S:Type} (k:Nat) (ret:Bool→Option S) (t:Tm) (dims:Int):Nat→Int→Option S
 |0=>fun _=> .none
 |m+1=>fun v109=>yl k ret t dims (kO k ret t dims m) v109
def tw {S:Type} (k:Nat) (ret:Bool→Option S) (t:Tm) (vars dims:Int) (J1:Int→Option S):Option S:=
 ab (t.kind==1) (
 ab ((t.r.length:Int)==0) (
  ab (decide ((t.n:Int)≥0)) (
  ab (decide ((vars:Int)<0)) (
   ret true) (
   ret (decide ((t.n:Int)<vars)))) (
  ret false)) (
  ret false)) (
 ab (t.kind==2) (
  ab ((t.r.length:Int)==0) (
  aa k (zC k t.name) fun r3=>
  ret r3) (
  ret false)) (
  ab (t.kind==13) (
  aa k (hY k t.r) fun r4=>
  ab (r4) (
   aa k (lK k t.r dims) fun r5=>
   ret r5) (
   ret false)) (
  ab (t.kind==21) (
   aa k (hY k t.r) fun r6=>
   ab (r6) (
   aa k (lK k t.r dims) fun r7=>
   ret r7) (
   ret false)) (
   ab (t.kind==26) (
   aa k (hY k t.r) fun r8=>
   ab (r8) (
    aa k (lK k t.r dims) fun r9=>
    ret r9) (
    ret false)) (
   ab (t.kind==14) (
    aa k (pd k t.r) fun r10=>
    ab (r10) (
    aa k (lK k t.r dims) fun r11=>
    ret r11) (
    ret false)) (
       J1 0))))))
noncomputable def Ar {S:Type} (k:Nat) (ret:Bool→Option S) (t:Tm) (vars dims:Int):Nat→Option S
 |0=> .none
 |_+1=>tw k ret t vars dims (fun v109=>kO k ret t dims k v109)
def IZ {S:Type} (k:Nat) (ret:Bool→Option S) (J0:Option S) (t:Tm) (vars dims:Int):Option S:=
 aa k (zA k t.kind) fun r1=>
 ab (!(r1==(t.kids.length:Int))) (
 ret false) (
 ab (!(t.kind==1)) (
  ab (!(t.n==0)) (
  ret false) (
  ab (!(t.kind==2)) (
   ab (!(t.name==ByteArray.empty)) (
   ret false) (
   aa k (lJ k t.kind) fun r2=>
   ab (r2==0) (
    ab (decide (((t.sys.length:Int):Int)>0)) (
    ret false) (
        J0)) (
       J0))) (
   aa k (lJ k t.kind) fun r16=>
   ab (r16==0) (
   ab (decide (((t.sys.length:Int):Int)>0)) (
    ret false) (
       J0)) (
      J0)))) (
  ab (!(t.kind==2)) (
  ab (!(t.name==ByteArray.empty)) (
   ret false) (
   aa k (lJ k t.kind) fun r17=>
   ab (r17==0) (
   ab (decide (((t.sys.length:Int):Int)>0)) (
    ret false) (
       J0)) (
      J0))) (
  aa k (lJ k t.kind) fun r18=>
  ab (r18==0) (
   ab (decide (((t.sys.length:Int):Int)>0)) (
   ret false) (
      J0)) (
     J0))))
noncomputable def uj {S:Type} (k:Nat) (t:Tm) (vars dims:Int) (ret:Bool→Option S):Option S:=IZ k ret (Ar k ret t vars dims k) t vars dims
abbrev dr (S:Type):=Tm→Int→Int→Bool→(Bool→Option S)→Option S
def TU {S:Type} (hd:dr S) (k:Nat) (ret:Bool→Option S) (a_k:Tm) (v d c0 c1:Int) (c2:Bool):Option S:=
 ab (decide ((c0:Int)<0)) (
 hd (ac a_k) (IntKind.wrap .i64 (c0+0)) (IntKind.wrap .i64 (c1+d)) c2 fun r1=>
 ret r1) (
 hd (ac a_k) (IntKind.wrap .i64 (c0+v)) (IntKind.wrap .i64 (c1+d)) c2 fun r2=>
 ret r2)
noncomputable def uh {S:Type} (hd:dr S) (k:Nat) (a_k:Tm) (v d c0 c1:Int) (c2:Bool) (ret:Bool→Option S):Option S:=TU hd k ret a_k v d c0 c1 c2
def yh {S:Type} (hd:dr S) (k:Nat) (ret:Bool→Option S) (c0 c1:Int) (c2:Bool) (t:Tm) (v42:Int) (x4:(Br Tm)) (more9:Int) (rec1:Int→Int→Option S) (rec2:Int→Option S) (v49:Int):Option S:=
 ab (decide ((v49:Int)<(x4.kids.length:Int))) (
 Option.bind (af x4.kids v49) fun x5=>
 aa k (uh hd k (ac x5) 0 more9 c0 c1 c2) fun r6=>
 ab (!r6) (
  ret false) (
   rec2 (IntKind.wrap .i64 (v49+1)))) (
  rec1 (IntKind.wrap .i64 (v42+1)) more9)
noncomputable def mi {S:Type} (hd:dr S) (k:Nat) (ret:Bool→Option S) (rec1:Int→Int→Option S) (c0 c1:Int) (c2:Bool) (t:Tm) (v42:Int) (x4:(Br Tm)) (more9:Int):Nat→Int→Option S
 |0=>fun _=> .none
 |m+1=>fun v49=>yh hd k ret c0 c1 c2 t v42 x4 more9 rec1 (mi hd k ret rec1 c0 c1 c2 t v42 x4 more9 m) v49
def tl {S:Type} (hd:dr S) (k:Nat) (ret:Bool→Option S) (c0 c1:Int) (c2:Bool) (t:Tm) (J2:Int→(Br Tm)→Int→Int→Option S) (rec1:Int→Int→Option S) (v42 more9:Int):Option S:=
 ab (decide ((v42:Int)<(t.sys.length:Int))) (
 Option.bind (af t.sys v42) fun x4=>
  J2 v42 x4 more9 0) (
 ret true)
noncomputable def iC {S:Type} (hd:dr S) (k:Nat) (ret:Bool→Option S) (c0 c1:Int) (c2:Bool) (t:Tm):Nat→Int→Int→Option S
 |0=>fun _ _=> .none
 |m+1=>fun v42 more9=>tl hd k ret c0 c1 c2 t (fun v42 x4 more9 v49=>mi hd k ret (iC hd k ret c0 c1 c2 t m) c0 c1 c2 t v42 x4 more9 k v49) (iC hd k ret c0 c1 c2 t m) v42 more9
def tk {S:Type} (hd:dr S) (k:Nat) (ret:Bool→Option S) (c0 c1:Int) (c2:Bool) (t:Tm) (J1:Int→Int→Option S) (rec0:Int→Option S) (v17:Int):Option S:=
 ab (decide ((v17:Int)<(t.kids.length:Int))) (
 Option.bind (af t.kids v17) fun x1=>
 aa k (gI k t.kind v17) fun r2=>
 aa k (uh hd k (ac x1) r2.1 r2.2 c0 c1 c2) fun r3=>
 ab (!r3) (
  ret false) (
   rec0 (IntKind.wrap .i64 (v17+1)))) (
 ab (t.kind==15) (
   J1 0 1) (
   J1 0 0))
noncomputable def nZ {S:Type} (hd:dr S) (k:Nat) (ret:Bool→Option S) (c0 c1:Int) (c2:Bool) (t:Tm):Nat→Int→Option S
 |0=>fun _=> .none
 |m+1=>fun v17=>tk hd k ret c0 c1 c2 t (fun v42 more9=>iC hd k ret c0 c1 c2 t k v42 more9) (nZ hd k ret c0 c1 c2 t m) v17
noncomputable def IU {S:Type} (hd:dr S) (k:Nat) (ret:Bool→Option S) (J0:Int→Option S) (t:Tm) (c0 c1:Int) (c2:Bool):Option S:=
 J0 0
noncomputable def zB {S:Type} (hd:dr S) (k:Nat) (t:Tm) (c0 c1:Int) (c2:Bool) (ret:Bool→Option S):Option S:=IU hd k ret (fun v17=>nZ hd k ret c0 c1 c2 t k v17) t c0 c1 c2
def TT {S:Type} (hd:dr S) (k:Nat) (ret:Bool→Option S) (t:Tm) (vars dims:Int) (bound:Bool):Option S:=
 ab (bound) (
 ab (decide ((dims:Int)>24)) (
  ret false) (
  aa k (uj k (ac t) vars dims) fun r1=>
  ab (!r1) (
  ret false) (
  aa k (zB hd k (ac t) vars dims bound) fun r2=>
  ret r2))) (
 aa k (uj k (ac t) vars dims) fun r3=>
 ab (!r3) (
  ret false) (
  aa k (zB hd k (ac t) vars dims bound) fun r4=>
  ret r4))
noncomputable def ic {S:Type}:Nat→Tm→Int→Int→Bool→(Bool→Option S)→Option S
 |0=>fun _ _ _ _ _=> .none
 |k+1=>fun t vars dims bound ret=>TT (ic k) k ret t vars dims bound
def TP {S:Type} (k:Nat) (ret:Int→Option S) (t:Tm):Option S:=
 aa k (zD k (ac t)) fun r1=>
 ab (!(r1==0)) (
 ret r1) (
 ic k (ac t) (-1) 24 false fun r2=>
 ab (!r2) (
  ret 100) (
  ret 0))
noncomputable def fe {S:Type} (k:Nat) (t:Tm) (ret:Int→Option S):Option S:=TP k ret t
abbrev eP (S:Type):=Tm→(Tm→Option S)→Option S
def yf {S:Type} (hd:eP S) (k:Nat) (ret:List Tm→Option S) (l:List Tm) (rec0:(List Tm)→Int→Option S) (out3:List Tm) (v8:Int):Option S:=
 ab (decide ((v8:Int)<(l.length:Int))) (
 Option.bind (af l v8) fun x1=>
 hd (ac x1) fun r2=>
 Option.bind (aw 1099511627776 out3.length [(ac r2)].length) fun x3=>
  rec0 (out3++[(ac r2)]) (IntKind.wrap .i64 (v8+1))) (
 ret out3)
noncomputable def qR {S:Type} (hd:eP S) (k:Nat) (ret:List Tm→Option S) (l:List Tm):Nat→(List Tm)→Int→Option S
 |0=>fun _ _=> .none
 |m+1=>fun out3 v8=>yf hd k ret l (qR hd k ret l m) out3 v8
noncomputable def IS {S:Type} (hd:eP S) (k:Nat) (ret:List Tm→Option S) (J0:(List Tm)→Int→Option S) (l:List Tm):Option S:=
 J0 ([]:List Tm) 0
noncomputable def ui {S:Type} (hd:eP S) (k:Nat) (l:List Tm) (ret:List Tm→Option S):Option S:=IS hd k ret (fun out3 v8=>qR hd k ret l k out3 v8) l
def ye {S:Type} (hd:eP S) (k:Nat) (ret:Tm→Option S) (t:Tm) (r1:List Cl) (r2:List Tm) (rec0:(List (Br Tm))→Int→Option S) (b3_5:List (Br Tm)) (v22:Int):Option S:=
 ab (decide ((v22:Int)<(t.sys.length:Int))) (
 Option.bind (af t.sys v22) fun x3=>
 rj x3.face fun r4=>
 aa k (ui hd k x3.kids) fun r5=>
 Option.bind (aw 1099511627776 b3_5.length [(Br.mk r4 r5)].length) fun x6=>
  rec0 (b3_5++[(Br.mk r4 r5)]) (IntKind.wrap .i64 (v22+1))) (
 ret (Tm.mk t.kind t.n t.name r1 r2 b3_5))
noncomputable def qQ {S:Type} (hd:eP S) (k:Nat) (ret:Tm→Option S) (t:Tm) (r1:List Cl) (r2:List Tm):Nat→(List (Br Tm))→Int→Option S
 |0=>fun _ _=> .none
 |m+1=>fun b3_5 v22=>ye hd k ret t r1 r2 (qQ hd k ret t r1 r2 m) b3_5 v22
noncomputable def IP {S:Type} (hd:eP S) (k:Nat) (ret:Tm→Option S) (J0:(List Cl)→(List Tm)→(List (Br Tm))→Int→Option S) (t:Tm):Option S:=
 rj t.r fun r1=>
 aa k (ui hd k t.kids) fun r2=>
 J0 r1 r2 ([]:List (Br Tm)) 0
noncomputable def dJ {S:Type}:Nat→Tm→(Tm→Option S)→Option S
 |0=>fun _ _=> .none
 |k+1=>fun t ret=>IP (dJ k) k ret (fun r1 r2 b3_5 v22=>qQ (dJ k) k ret t r1 r2 k b3_5 v22) t
noncomputable def oI {S:Type} (k:Nat) (ret:Bool→Option S) (c0:Int):Option S:=
 ret (c0==0)
noncomputable def dG {S:Type} (k:Nat) (c0:Int) (ret:Bool→Option S):Option S:=oI k ret c0
noncomputable def wm {S:Type} (k:Nat) (ret:Int×Int×ByteArray×List Tm→Option S) (kind:Int) (kids:List Tm):Option S:=
 ret (kind,0,ByteArray.empty,kids)
noncomputable def hX {S:Type} (k:Nat) (kind:Int) (kids:List Tm) (ret:Int×Int×ByteArray×List Tm→Option S):Option S:=wm k ret kind kids
noncomputable def Sd {S:Type} (k:Nat) (ret:Int×Int×ByteArray×List Tm×List (Br Tm)→Option S) (sys:List (Br Tm)):Option S:=
 aa k (hX k 3 ([]:List Tm)) fun r1=>
 aa k (hX k 3 ([]:List Tm)) fun r2=>
 ret (15,0,ByteArray.empty,[(Tm.mk r1.1 r1.2.1 r1.2.2.1 [] r1.2.2.2 []),(Tm.mk r2.1 r2.2.1 r2.2.2.1 [] r2.2.2.2 [])],sys)
noncomputable def pa {S:Type} (k:Nat) (sys:List (Br Tm)) (ret:Int×Int×ByteArray×List Tm×List (Br Tm)→Option S):Option S:=Sd k ret sys
def Sa {S:Type} (k:Nat) (ret:Int→Option S) (a_e c0:Int):Option S:=
 ab (c0==0) (
 ret a_e) (
 ret c0)
noncomputable def iZ {S:Type} (k:Nat) (a_e c0:Int) (ret:Int→Option S):Option S:=Sa k ret a_e c0
def wL {S:Type} (k:Nat) (ret:Int→Option S) (l:List Tm) (rec0:Int→Int→Option S) (b7_0 v10:Int):Option S:=
 ab (decide ((v10:Int)<(l.length:Int))) (
 Option.bind (af l v10) fun x1=>
 aa k (fe k (ac x1)) fun r2=>
 aa k (iZ k r2 b7_0) fun r3=>
  rec0 r3 (IntKind.wrap .i64 (v10+1))) (
 ret b7_0)
noncomputable def pY {S:Type} (k:Nat) (ret:Int→Option S) (l:List Tm):Nat→Int→Int→Option S
 |0=>fun _ _=> .none
 |m+1=>fun b7_0 v10=>wL k ret l (pY k ret l m) b7_0 v10
noncomputable def Hs {S:Type} (k:Nat) (ret:Int→Option S) (J0:Int→Int→Option S) (l:List Tm):Option S:=
 J0 0 0
noncomputable def m9 {S:Type} (k:Nat) (l:List Tm) (ret:Int→Option S):Option S:=Hs k ret (fun b7_0 v10=>pY k ret l k b7_0 v10) l
noncomputable def gn {S:Type} (k:Nat) (ret:Bool→Option S) (c0:Int):Option S:=
 ret (c0==0)
noncomputable def de {S:Type} (k:Nat) (c0:Int) (ret:Bool→Option S):Option S:=gn k ret c0
def w9 {S:Type} (k:Nat) (ret:Int→Option S) (l:List (List Cl)) (rec0:Int→Option S) (v7:Int):Option S:=
 ab (decide ((v7:Int)<(l.length:Int))) (
 Option.bind (af l v7) fun x1=>
 aa k (hY k x1) fun r2=>
 ab (!r2) (
  ret 2) (
   rec0 (IntKind.wrap .i64 (v7+1)))) (
 ret 0)
noncomputable def qi {S:Type} (k:Nat) (ret:Int→Option S) (l:List (List Cl)):Nat→Int→Option S
 |0=>fun _=> .none
 |m+1=>fun v7=>w9 k ret l (qi k ret l m) v7
noncomputable def HT {S:Type} (k:Nat) (ret:Int→Option S) (J0:Int→Option S) (l:List (List Cl)):Option S:=
 J0 0
noncomputable def pi {S:Type} (k:Nat) (l:List (List Cl)) (ret:Int→Option S):Option S:=HT k ret (fun v7=>qi k ret l k v7) l
noncomputable def HN {S:Type} (k:Nat) (ret:List Cl→Option S):Option S:=
 ret ([]:List Cl)
noncomputable def tK {S:Type} (k:Nat) (ret:List Cl→Option S):Option S:=HN k ret
noncomputable def S1 {S:Type} (k:Nat) (ret:Int→Option S) (i:Int):Option S:=
 Option.bind (bR (0≤(IntKind.wrap .u64 (if 24<i then 24 else i)))) fun x1=>
 ret (IntKind.wrap .u32 (IntKind.wrap .u64 ((IntKind.wrap .u64 (1*2^min (Int.toNat (IntKind.wrap .u64 (if 24<i then 24 else i))) 64))-1)))
noncomputable def pn {S:Type} (k:Nat) (i:Int) (ret:Int→Option S):Option S:=S1 k ret i
def BT {S:Type} (k:Nat) (ret:Int×Int→Option S) (s a_from a_by:Int):Option S:=
 ab (decide ((a_from:Int)<0)) (
 ret (0,2)) (
 ab (decide ((a_by:Int)<0)) (
  ret (0,2)) (
  aa k (pn k a_from) fun r1=>
  aa k (pn k a_from) fun r2=>
  ab ((IntKind.wrap .u64 (bj .andNot .u32 (bj .and .u32 s 16777215) r2))==0) (
  ret (bj .and .u32 (bj .and .u32 s 16777215) r1,0)) (
  ab (decide ((a_by:Int)≥24)) (
   ret (0,10)) (
   Option.bind (bR (0≤(IntKind.wrap .u64 a_by))) fun x3=>
   ab (decide ((IntKind.wrap .u64 ((IntKind.wrap .u64 (bj .andNot .u32 (bj .and .u32 s 16777215) r2))*2^min (Int.toNat (IntKind.wrap .u64 a_by)) 64):Int)>16777215)) (
   ret (0,10)) (
   Option.bind (bR (0≤(IntKind.wrap .u64 a_by))) fun x4=>
   ret (bj .or .u32 (bj .and .u32 (bj .and .u32 s 16777215) r1) (IntKind.wrap .u32 (IntKind.wrap .u64 ((IntKind.wrap .u64 (bj .andNot .u32 (bj .and .u32 s 16777215) r2))*2^min (Int.toNat (IntKind.wrap .u64 a_by)) 64))),0))))))
noncomputable def lx {S:Type} (k:Nat) (s a_from a_by:Int) (ret:Int×Int→Option S):Option S:=BT k ret s a_from a_by
def Si {S:Type} (k:Nat) (ret:Cl×Int→Option S) (c:Cl) (a_from a_by:Int):Option S:=
 aa k (tC k c) fun r1=>
 ab (!r1) (
 ret ((Cl.mk 0 0),2)) (
 aa k (lx k c.pos a_from a_by) fun r2=>
 ab (!(r2.2==0)) (
  ret ((Cl.mk 0 0),r2.2)) (
  aa k (lx k c.neg a_from a_by) fun r3=>
  ab (!(r3.2==0)) (
  ret ((Cl.mk 0 0),r3.2)) (
  ret ((Cl.mk r2.1 r3.1),0))))
noncomputable def yD {S:Type} (k:Nat) (c:Cl) (a_from a_by:Int) (ret:Cl×Int→Option S):Option S:=Si k ret c a_from a_by
noncomputable def SH {S:Type} (k:Nat) (ret:List Cl×Int→Option S) (a_have:List Cl) (c:Cl) (c0 c1:Int):Option S:=
 aa k (yD k c c0 c1) fun r1=>
 Option.bind (aw 1099511627776 a_have.length [r1.1].length) fun x2=>
 ret (a_have++[r1.1],r1.2)
noncomputable def DN {S:Type} (k:Nat) (a_have:List Cl) (c:Cl) (c0 c1:Int) (ret:List Cl×Int→Option S):Option S:=SH k ret a_have c c0 c1
def w6 {S:Type} (k:Nat) (ret:List Cl×Int→Option S) (c0 c1:Int) (l:List Cl) (rec0:(List Cl)→Int→Option S) (v1:List Cl) (v15:Int):Option S:=
 ab (decide ((v15:Int)<(l.length:Int))) (
 Option.bind (af l v15) fun x1=>
 aa k (DN k v1 x1 c0 c1) fun r2=>
 ab (!(r2.2==0)) (
  ret (([]:List Cl),r2.2)) (
   rec0 r2.1 (IntKind.wrap .i64 (v15+1)))) (
 ret (v1,0))
noncomputable def qf {S:Type} (k:Nat) (ret:List Cl×Int→Option S) (c0 c1:Int) (l:List Cl):Nat→(List Cl)→Int→Option S
 |0=>fun _ _=> .none
 |m+1=>fun v1 v15=>w6 k ret c0 c1 l (qf k ret c0 c1 l m) v1 v15
noncomputable def HQ {S:Type} (k:Nat) (ret:List Cl×Int→Option S) (J0:(List Cl)→Int→Option S) (l a_from:List Cl) (c0 c1:Int):Option S:=
 J0 a_from 0
noncomputable def yT {S:Type} (k:Nat) (l a_from:List Cl) (c0 c1:Int) (ret:List Cl×Int→Option S):Option S:=HQ k ret (fun v1 v15=>qf k ret c0 c1 l k v1 v15) l a_from c0 c1
def SG {S:Type} (k:Nat) (ret:List Cl×Int→Option S) (f:List Cl) (a_from a_by:Int):Option S:=
 aa k (pi k [f]) fun r1=>
 ab (!(r1==0)) (
 ret (([]:List Cl),r1)) (
 aa k (tK k) fun r2=>
 aa k (yT k f r2 a_from a_by) fun r3=>
 ab (!(r3.2==0)) (
  ret (([]:List Cl),r3.2)) (
  aa k (gy k r3.1) fun r4=>
  ret (r4.1,r4.2)))
noncomputable def jV {S:Type} (k:Nat) (f:List Cl) (a_from a_by:Int) (ret:List Cl×Int→Option S):Option S:=SG k ret f a_from a_by
def SV {S:Type} (k:Nat) (ret:Pan Int (List Cl)→Option S) (l_0 l_1:Int) (f:List Cl) (a_from:Int):Option S:=
 ab (l_1==0) (
 Option.bind (aw 1099511627776 0 f.length) fun x1=>
 ret (.ok f)) (
 ab (decide ((a_from:Int)≥24)) (
  Option.bind (aw 1099511627776 0 f.length) fun x2=>
  ret (.ok f)) (
  aa k (jV k f a_from l_1) fun r3=>
  ab (!(r3.2==0)) (
  ret (.pan r3.2)) (
  ret (.ok r3.1))))
noncomputable def tN {S:Type} (k:Nat) (l_0 l_1:Int) (f:List Cl) (a_from:Int) (ret:Pan Int (List Cl)→Option S):Option S:=SV k ret l_0 l_1 f a_from
abbrev fJ (S:Type):=Int→Int→Tm→Int→Int→(Pan Int Tm→Option S)→Option S
def xe {S:Type} (hd:fJ S) (k:Nat) (ret:Pan Int Tm→Option S) (r12:List Cl) (l_0 l_1:Int) (t:Tm) (b9_1:Int) (r2:List Cl) (b9_4:List Tm) (b9_5:List (Br Tm)) (x10:(Br Tm)) (more14 v d v90:Int) (rec2:(List (Br Tm))→Int→Int→Option S) (rec3:(List Tm)→Int→Option S) (b17_1:List Tm) (v103:Int):Option S:=
 ab (decide ((v103:Int)<(x10.kids.length:Int))) (
 Option.bind (af x10.kids v103) fun x14=>
 hd l_0 l_1 (ac x14) v (IntKind.wrap .i64 (d+more14)) fun r16=>Pan.elim r16 (fun r16=>
  Option.bind (aw 1099511627776 b17_1.length [(ac r16)].length) fun x18=>
   rec3 (b17_1++[(ac r16)]) (IntKind.wrap .i64 (v103+1))) (fun e17=>
  ret (.pan e17))) (
 Option.bind (aw 1099511627776 b9_5.length [(Br.mk r12 b17_1)].length) fun x19=>
  rec2 (b9_5++[(Br.mk r12 b17_1)]) more14 (IntKind.wrap .i64 (v90+1)))
noncomputable def l7 {S:Type} (hd:fJ S) (k:Nat) (ret:Pan Int Tm→Option S) (rec2:(List (Br Tm))→Int→Int→Option S) (r12:List Cl) (l_0 l_1:Int) (t:Tm) (b9_1:Int) (r2:List Cl) (b9_4:List Tm) (b9_5:List (Br Tm)) (x10:(Br Tm)) (more14 v d v90:Int):Nat→(List Tm)→Int→Option S
 |0=>fun _ _=> .none
 |m+1=>fun b17_1 v103=>xe hd k ret r12 l_0 l_1 t b9_1 r2 b9_4 b9_5 x10 more14 v d v90 rec2 (l7 hd k ret rec2 r12 l_0 l_1 t b9_1 r2 b9_4 b9_5 x10 more14 v d v90 m) b17_1 v103
def sA {S:Type} (hd:fJ S) (k:Nat) (ret:Pan Int Tm→Option S) (l_0 l_1:Int) (t:Tm) (b9_1:Int) (r2:List Cl) (b9_4:List Tm) (v d:Int) (J3:(List Cl)→(List (Br Tm))→(Br Tm)→Int→Int→(List Tm)→Int→Option S) (rec2:(List (Br Tm))→Int→Int→Option S) (b9_5:List (Br Tm)) (more14 v90:Int):Option S:=
 ab (decide ((v90:Int)<(t.sys.length:Int))) (
 Option.bind (af t.sys v90) fun x10=>
 aa k (tN k l_0 l_1 x10.face d) fun r12=>Pan.elim r12 (fun r12=>
   J3 r12 b9_5 x10 more14 v90 ([]:List Tm) 0) (fun e13=>
  ret (.pan e13))) (
 ret (.ok (Tm.mk t.kind b9_1 t.name r2 b9_4 b9_5)))
noncomputable def it {S:Type} (hd:fJ S) (k:Nat) (ret:Pan Int Tm→Option S) (l_0 l_1:Int) (t:Tm) (b9_1:Int) (r2:List Cl) (b9_4:List Tm) (v d:Int):Nat→(List (Br Tm))→Int→Int→Option S
 |0=>fun _ _ _=> .none
 |m+1=>fun b9_5 more14 v90=>sA hd k ret l_0 l_1 t b9_1 r2 b9_4 v d (fun r12 b9_5 x10 more14 v90 b17_1 v103=>l7 hd k ret (it hd k ret l_0 l_1 t b9_1 r2 b9_4 v d m) r12 l_0 l_1 t b9_1 r2 b9_4 b9_5 x10 more14 v d v90 k b17_1 v103) (it hd k ret l_0 l_1 t b9_1 r2 b9_4 v d m) b9_5 more14 v90
def sz {S:Type} (hd:fJ S) (k:Nat) (ret:Pan Int Tm→Option S) (l_0 l_1:Int) (t:Tm) (b9_1:Int) (r2:List Cl) (v d:Int) (J2:(List Tm)→(List (Br Tm))→Int→Int→Option S) (rec1:(List Tm)→Int→Option S) (b9_4:List Tm) (v57:Int):Option S:=
 ab (decide ((v57:Int)<(t.kids.length:Int))) (
 Option.bind (af t.kids v57) fun x4=>
 aa k (gI k t.kind v57) fun r5=>
 hd l_0 l_1 (ac x4) (IntKind.wrap .i64 (v+r5.1)) (IntKind.wrap .i64 (d+r5.2)) fun r7=>Pan.elim r7 (fun r7=>
  Option.bind (aw 1099511627776 b9_4.length [(ac r7)].length) fun x9=>
   rec1 (b9_4++[(ac r7)]) (IntKind.wrap .i64 (v57+1))) (fun e8=>
  ret (.pan e8))) (
 ab (t.kind==15) (
   J2 b9_4 ([]:List (Br Tm)) 1 0) (
   J2 b9_4 ([]:List (Br Tm)) 0 0))
noncomputable def kr {S:Type} (hd:fJ S) (k:Nat) (ret:Pan Int Tm→Option S) (l_0 l_1:Int) (t:Tm) (b9_1:Int) (r2:List Cl) (v d:Int):Nat→(List Tm)→Int→Option S
 |0=>fun _ _=> .none
 |m+1=>fun b9_4 v57=>sz hd k ret l_0 l_1 t b9_1 r2 v d (fun b9_4 b9_5 more14 v90=>it hd k ret l_0 l_1 t b9_1 r2 b9_4 v d k b9_5 more14 v90) (kr hd k ret l_0 l_1 t b9_1 r2 v d m) b9_4 v57
noncomputable def Da {S:Type} (hd:fJ S) (k:Nat) (ret:Pan Int Tm→Option S) (l_0 l_1:Int) (t:Tm) (r2:List Cl) (v d:Int) (J1:Int→(List Tm)→Int→Option S) (b9_1:Int):Option S:=
 J1 b9_1 ([]:List Tm) 0
noncomputable def uJ {S:Type} (hd:fJ S) (k:Nat) (ret:Pan Int Tm→Option S) (l_0 l_1:Int) (t:Tm) (r2:List Cl) (v d:Int):Nat→Int→Option S
 |0=>fun _=> .none
 |_+1=>fun b9_1=>Da hd k ret l_0 l_1 t r2 v d (fun b9_1 b9_4 v57=>kr hd k ret l_0 l_1 t b9_1 r2 v d k b9_4 v57) b9_1
def HY {S:Type} (hd:fJ S) (k:Nat) (ret:Pan Int Tm→Option S) (J0:(List Cl)→Int→Option S) (l_0 l_1:Int) (t:Tm) (v d:Int):Option S:=
 aa k (tN k l_0 l_1 t.r d) fun r2=>Pan.elim r2 (fun r2=>
 ab (t.kind==1) (
  ab (decide ((t.n:Int)≥v)) (
  ab (decide ((t.n:Int)>(IntKind.wrap .i64 (1000000000-l_0)))) (
   ret (.pan 100)) (
     J0 r2 (IntKind.wrap .i64 (t.n+l_0)))) (
    J0 r2 t.n)) (
   J0 r2 t.n)) (fun e3=>
 ret (.pan e3))
noncomputable def dk {S:Type}:Nat→Int→Int→Tm→Int→Int→(Pan Int Tm→Option S)→Option S
 |0=>fun _ _ _ _ _ _=> .none
 |k+1=>fun l_0 l_1 t v d ret=>HY (dk k) k ret (fun r2 b9_1=>uJ (dk k) k ret l_0 l_1 t r2 v d k b9_1) l_0 l_1 t v d
noncomputable def SS {S:Type} (k:Nat) (ret:Pan Int Tm→Option S) (c0 c1:Int) (c2:Tm):Option S:=
 dk k c1 0 (ac c2) 0 0 fun r2=>Pan.elim r2 (fun r2=>
 dk k 0 c0 (ac r2) 0 0 fun r5=>Pan.elim r5 (fun r5=>
  ret (.ok (ac r5))) (fun e6=>
  ret (.pan e6))) (fun e3=>
 ret (.pan e3))
noncomputable def yW {S:Type} (k:Nat) (c0 c1:Int) (c2:Tm) (ret:Pan Int Tm→Option S):Option S:=SS k ret c0 c1 c2
def xd {S:Type} (k:Nat) (ret:Tm×Int→Option S) (c0 c1:Int) (c2:Tm) (numbers:List Int) (rec0:Int→Option S) (v19:Int):Option S:=
 ab (decide ((v19:Int)<(numbers.length:Int))) (
 Option.bind (af numbers v19) fun x2=>
 ab (decide ((x2:Int)<0)) (
  ret ((Tm.mk 0 0 ByteArray.empty [] [] []),2)) (
   rec0 (IntKind.wrap .i64 (v19+1)))) (
 aa k (yW k c0 c1 (ac c2)) fun r4=>Pan.elim r4 (fun r4=>
  ret ((ac r4),0)) (fun e5=>
  ret ((Tm.mk 0 0 ByteArray.empty [] [] []),e5)))
noncomputable def nE {S:Type} (k:Nat) (ret:Tm×Int→Option S) (c0 c1:Int) (c2:Tm) (numbers:List Int):Nat→Int→Option S
 |0=>fun _=> .none
 |m+1=>fun v19=>xd k ret c0 c1 c2 numbers (nE k ret c0 c1 c2 numbers m) v19
def BS {S:Type} (k:Nat) (ret:Tm×Int→Option S) (J0:Int→Option S) (t:Tm) (numbers:List Int) (c0 c1:Int) (c2:Tm):Option S:=
 aa k (fe k (ac t)) fun r1=>
 ab (!(r1==0)) (
 ret ((Tm.mk 0 0 ByteArray.empty [] [] []),r1)) (
  J0 0)
noncomputable def y7 {S:Type} (k:Nat) (t:Tm) (numbers:List Int) (c0 c1:Int) (c2:Tm) (ret:Tm×Int→Option S):Option S:=BS k ret (fun v19=>nE k ret c0 c1 c2 numbers k v19) t numbers c0 c1 c2
noncomputable def HV {S:Type} (k:Nat) (ret:Tm×Int→Option S) (t:Tm) (vars dims:Int):Option S:=
 aa k (y7 k (ac t) [vars,dims,IntKind.wrap .i64 (1000000-vars)] dims vars (ac t)) fun r1=>
 ret ((ac r1.1),r1.2)
noncomputable def lu {S:Type} (k:Nat) (t:Tm) (vars dims:Int) (ret:Tm×Int→Option S):Option S:=HV k ret t vars dims
def Hv {S:Type} (k:Nat) (ret:Tm×Int→Option S) (t:Tm) (vars dims c0:Int):Option S:=
 aa k (de k c0) fun r1=>
 ab (!r1) (
 ret ((Tm.mk 0 0 ByteArray.empty [] [] []),c0)) (
 aa k (lu k (ac t) vars dims) fun r2=>
 aa k (iZ k r2.2 c0) fun r3=>
 ret ((ac r2.1),r3))
noncomputable def hU {S:Type} (k:Nat) (t:Tm) (vars dims c0:Int) (ret:Tm×Int→Option S):Option S:=Hv k ret t vars dims c0
def Hu {S:Type} (k:Nat) (ret:Tm×Int×Int→Option S) (t:Tm) (c0:Int):Option S:=
 aa k (de k c0) fun r1=>
 ab (r1) (
 aa k (fe k (ac t)) fun r2=>
 aa k (iZ k r2 c0) fun r3=>
 aa k (de k r3) fun r4=>
 ab (!r4) (
  ret ((Tm.mk 0 0 ByteArray.empty [] [] []),r3,r3)) (
  ret ((ac t),0,r3))) (
 aa k (de k c0) fun r5=>
 ab (!r5) (
  ret ((Tm.mk 0 0 ByteArray.empty [] [] []),c0,c0)) (
  ret ((ac t),0,c0)))
noncomputable def eQ {S:Type} (k:Nat) (t:Tm) (c0:Int) (ret:Tm×Int×Int→Option S):Option S:=Hu k ret t c0
def Sc {S:Type} (k:Nat) (ret:List Cl×Int→Option S) (f:List Cl) (c0:Int):Option S:=
 aa k (de k c0) fun r1=>
 ab (!r1) (
 ret (([]:List Cl),c0)) (
 aa k (jV k f 0 1) fun r2=>
 aa k (iZ k r2.2 c0) fun r3=>
 ret (r2.1,r3))
noncomputable def tA {S:Type} (k:Nat) (f:List Cl) (c0:Int) (ret:List Cl×Int→Option S):Option S:=Sc k ret f c0
noncomputable def ST {S:Type} (k:Nat) (ret:Pan Int Tm→Option S) (c0:Int) (c1:Tm) (c2:Int):Option S:=
 dk k 0 c0 (ac c1) 0 (if 24<c2 then 24 else c2) fun r2=>Pan.elim r2 (fun r2=>
 ret (.ok (ac r2))) (fun e3=>
 ret (.pan e3))
noncomputable def yX {S:Type} (k:Nat) (c0:Int) (c1:Tm) (c2:Int) (ret:Pan Int Tm→Option S):Option S:=ST k ret c0 c1 c2
def xa {S:Type} (k:Nat) (ret:Tm×Int→Option S) (c0:Int) (c1:Tm) (c2:Int) (numbers:List Int) (rec0:Int→Option S) (v19:Int):Option S:=
 ab (decide ((v19:Int)<(numbers.length:Int))) (
 Option.bind (af numbers v19) fun x2=>
 ab (decide ((x2:Int)<0)) (
  ret ((Tm.mk 0 0 ByteArray.empty [] [] []),2)) (
   rec0 (IntKind.wrap .i64 (v19+1)))) (
 aa k (yX k c0 (ac c1) c2) fun r4=>Pan.elim r4 (fun r4=>
  ret ((ac r4),0)) (fun e5=>
  ret ((Tm.mk 0 0 ByteArray.empty [] [] []),e5)))
noncomputable def nC {S:Type} (k:Nat) (ret:Tm×Int→Option S) (c0:Int) (c1:Tm) (c2:Int) (numbers:List Int):Nat→Int→Option S
 |0=>fun _=> .none
 |m+1=>fun v19=>xa k ret c0 c1 c2 numbers (nC k ret c0 c1 c2 numbers m) v19
def BQ {S:Type} (k:Nat) (ret:Tm×Int→Option S) (J0:Int→Option S) (t:Tm) (numbers:List Int) (c0:Int) (c1:Tm) (c2:Int):Option S:=
 aa k (fe k (ac t)) fun r1=>
 ab (!(r1==0)) (
 ret ((Tm.mk 0 0 ByteArray.empty [] [] []),r1)) (
  J0 0)
noncomputable def yZ {S:Type} (k:Nat) (t:Tm) (numbers:List Int) (c0:Int) (c1:Tm) (c2:Int) (ret:Tm×Int→Option S):Option S:=BQ k ret (fun v19=>nC k ret c0 c1 c2 numbers k v19) t numbers c0 c1 c2
noncomputable def HW {S:Type} (k:Nat) (ret:Tm×Int→Option S) (t:Tm) (a_from a_by:Int):Option S:=
 aa k (yZ k (ac t) [a_from,a_by] a_by (ac t) a_from) fun r1=>
 ret ((ac r1.1),r1.2)
noncomputable def lv {S:Type} (k:Nat) (t:Tm) (a_from a_by:Int) (ret:Tm×Int→Option S):Option S:=HW k ret t a_from a_by
def SZ {S:Type} (k:Nat) (ret:Int→Option S) (s i:Int):Option S:=
 aa k (nd k i) fun r1=>
 ab (!r1) (
 ret (bj .and .u32 s 16777215)) (
 Option.bind (bR (0≤(IntKind.wrap .u64 i))) fun x2=>
 ret (bj .or .u32 (bj .and .u32 s 16777215) (IntKind.wrap .u32 (1*2^min (Int.toNat (IntKind.wrap .u64 i)) 32))))
noncomputable def i_ {S:Type} (k:Nat) (s i:Int) (ret:Int→Option S):Option S:=SZ k ret s i
noncomputable def akC {S:Type} (k:Nat) (ret:Int→Option S) (a_x:Int):Option S:=
 Option.bind (af (ByteArray.mk #[0,1,1,2,1,2,2,3,1,2,2,3,2,3,3,4,1,2,2,3,2,3,3,4,2,3,3,4,3,4,4,5,1,2,2,3,2,3,3,4,2,3,3,4,3,4,4,5,2,3,3,4,3,4,4,5,3,4,4,5,4,5,5,6,1,2,2,3,2,3,3,4,2,3,3,4,3,4,4,5,2,3,3,4,3,4,4,5,3,4,4,5,4,5,5,6,2,3,3,4,3,4,4,5,3,4,4,5,4,5,5,6,3,4,4,5,4,5,5,6,4,5,5,6,5,6,6,7,1,2,2,3,2,3,3,4,2,3,3,4,3,4,4,5,2,3,3,4,3,4,4,5,3,4,4,5,4,5,5,6,2,3,3,4,3,4,4,5,3,4,4,5,4,5,5,6,3,4,4,5,4,5,5,6,4,5,5,6,5,6,6,7,2,3,3,4,3,4,4,5,3,4,4,5,4,5,5,6,3,4,4,5,4,5,5,6,4,5,5,6,5,6,6,7,3,4,4,5,4,5,5,6,4,5,5,6,5,6,6,7,4,5,5,6,5,6,6,7,5,6,6,7,6,7,7,8]).data.toList (Int.fdiv a_x (2^min (Int.toNat 24) 32))) fun x1=>
 Option.bind (af (ByteArray.mk #[0,1,1,2,1,2,2,3,1,2,2,3,2,3,3,4,1,2,2,3,2,3,3,4,2,3,3,4,3,4,4,5,1,2,2,3,2,3,3,4,2,3,3,4,3,4,4,5,2,3,3,4,3,4,4,5,3,4,4,5,4,5,5,6,1,2,2,3,2,3,3,4,2,3,3,4,3,4,4,5,2,3,3,4,3,4,4,5,3,4,4,5,4,5,5,6,2,3,3,4,3,4,4,5,3,4,4,5,4,5,5,6,3,4,4,5,4,5,5,6,4,5,5,6,5,6,6,7,1,2,2,3,2,3,3,4,2,3,3,4,3,4,4,5,2,3,3,4,3,4,4,5,3,4,4,5,4,5,5,6,2,3,3,4,3,4,4,5,3,4,4,5,4,5,5,6,3,4,4,5,4,5,5,6,4,5,5,6,5,6,6,7,2,3,3,4,3,4,4,5,3,4,4,5,4,5,5,6,3,4,4,5,4,5,5,6,4,5,5,6,5,6,6,7,3,4,4,5,4,5,5,6,4,5,5,6,5,6,6,7,4,5,5,6,5,6,6,7,5,6,6,7,6,7,7,8]).data.toList (bj .and .u32 (Int.fdiv a_x (2^min (Int.toNat 16) 32)) 255)) fun x2=>
 Option.bind (af (ByteArray.mk #[0,1,1,2,1,2,2,3,1,2,2,3,2,3,3,4,1,2,2,3,2,3,3,4,2,3,3,4,3,4,4,5,1,2,2,3,2,3,3,4,2,3,3,4,3,4,4,5,2,3,3,4,3,4,4,5,3,4,4,5,4,5,5,6,1,2,2,3,2,3,3,4,2,3,3,4,3,4,4,5,2,3,3,4,3,4,4,5,3,4,4,5,4,5,5,6,2,3,3,4,3,4,4,5,3,4,4,5,4,5,5,6,3,4,4,5,4,5,5,6,4,5,5,6,5,6,6,7,1,2,2,3,2,3,3,4,2,3,3,4,3,4,4,5,2,3,3,4,3,4,4,5,3,4,4,5,4,5,5,6,2,3,3,4,3,4,4,5,3,4,4,5,4,5,5,6,3,4,4,5,4,5,5,6,4,5,5,6,5,6,6,7,2,3,3,4,3,4,4,5,3,4,4,5,4,5,5,6,3,4,4,5,4,5,5,6,4,5,5,6,5,6,6,7,3,4,4,5,4,5,5,6,4,5,5,6,5,6,6,7,4,5,5,6,5,6,6,7,5,6,6,7,6,7,7,8]).data.toList (bj .and .u32 (Int.fdiv a_x (2^min (Int.toNat 8) 32)) 255)) fun x3=>
 Option.bind (af (ByteArray.mk #[0,1,1,2,1,2,2,3,1,2,2,3,2,3,3,4,1,2,2,3,2,3,3,4,2,3,3,4,3,4,4,5,1,2,2,3,2,3,3,4,2,3,3,4,3,4,4,5,2,3,3,4,3,4,4,5,3,4,4,5,4,5,5,6,1,2,2,3,2,3,3,4,2,3,3,4,3,4,4,5,2,3,3,4,3,4,4,5,3,4,4,5,4,5,5,6,2,3,3,4,3,4,4,5,3,4,4,5,4,5,5,6,3,4,4,5,4,5,5,6,4,5,5,6,5,6,6,7,1,2,2,3,2,3,3,4,2,3,3,4,3,4,4,5,2,3,3,4,3,4,4,5,3,4,4,5,4,5,5,6,2,3,3,4,3,4,4,5,3,4,4,5,4,5,5,6,3,4,4,5,4,5,5,6,4,5,5,6,5,6,6,7,2,3,3,4,3,4,4,5,3,4,4,5,4,5,5,6,3,4,4,5,4,5,5,6,4,5,5,6,5,6,6,7,3,4,4,5,4,5,5,6,4,5,5,6,5,6,6,7,4,5,5,6,5,6,6,7,5,6,6,7,6,7,7,8]).data.toList (bj .and .u32 a_x 255)) fun x4=>
 ret (IntKind.wrap .i64 (IntKind.wrap .u8 ((IntKind.wrap .u8 ((IntKind.wrap .u8 ((x1.toNat:Int)+(x2.toNat:Int)))+(x3.toNat:Int)))+(x4.toNat:Int))))
noncomputable def JH {S:Type} (k:Nat) (a_x:Int) (ret:Int→Option S):Option S:=akC k ret a_x
noncomputable def HZ {S:Type} (k:Nat) (ret:Int→Option S) (s:Int):Option S:=
 aa k (JH k (bj .and .u32 s 16777215)) fun r1=>
 ret r1
noncomputable def lw {S:Type} (k:Nat) (s:Int) (ret:Int→Option S):Option S:=HZ k ret s
noncomputable def Sn {S:Type} (k:Nat) (ret:Bool→Option S) (i:Int):Option S:=
 aa k (i_ k 0 i) fun r1=>
 aa k (lw k r1) fun r2=>
 ret (r2==1)
noncomputable def yE {S:Type} (k:Nat) (i:Int) (ret:Bool→Option S):Option S:=Sn k ret i
def Sx {S:Type} (k:Nat) (ret:Int→Option S) (t:Tm) (i:Int) (a_r:List Cl):Option S:=
 aa k (fe k (ac t)) fun r1=>
 ab (!(r1==0)) (
 ret r1) (
 aa k (yE k i) fun r2=>
 ab (!r2) (
  ret 2) (
  aa k (hY k a_r) fun r3=>
  ab (!r3) (
  ret 2) (
  ret 0)))
noncomputable def DM {S:Type} (k:Nat) (t:Tm) (i:Int) (a_r:List Cl) (ret:Int→Option S):Option S:=Sx k ret t i a_r
noncomputable def Ss {S:Type} (k:Nat) (ret:Unit→Option S) (c0:Int) (c1:List Cl):Option S:=
 ret ()
noncomputable def DG {S:Type} (k:Nat) (c0:Int) (c1:List Cl) (ret:Unit→Option S):Option S:=Ss k ret c0 c1
noncomputable def Su {S:Type} (k:Nat) (ret:Unit→Option S) (c0:Int) (c1:List Cl):Option S:=
 ret ()
noncomputable def DH {S:Type} (k:Nat) (c0:Int) (c1:List Cl) (ret:Unit→Option S):Option S:=Su k ret c0 c1
noncomputable def Sp {S:Type} (k:Nat) (ret:Int×List Cl→Option S) (i:Int) (a_r:List Cl):Option S:=
 aa k (DG k i a_r) fun r1=>
 aa k (DH k i a_r) fun r2=>
 ret (i,a_r)
noncomputable def DF {S:Type} (k:Nat) (i:Int) (a_r:List Cl) (ret:Int×List Cl→Option S):Option S:=Sp k ret i a_r
def SX {S:Type} (k:Nat) (ret:Bool→Option S) (s i:Int):Option S:=
 aa k (nd k i) fun r1=>
 ab (r1) (
 Option.bind (bR (0≤(IntKind.wrap .u64 i))) fun x2=>
 ret ((bj .and .u32 (Int.fdiv s (2^min (Int.toNat (IntKind.wrap .u64 i)) 32)) 1)==1)) (
 ret false)
noncomputable def amz {S:Type} (k:Nat) (s i:Int) (ret:Bool→Option S):Option S:=SX k ret s i
noncomputable def Hy {S:Type} (k:Nat) (ret:List Cl→Option S) (f:List Cl):Option S:=
 Option.bind (aw 1099511627776 0 f.length) fun x1=>
 ret f
noncomputable def tD {S:Type} (k:Nat) (f:List Cl) (ret:List Cl→Option S):Option S:=Hy k ret f
noncomputable def SC {S:Type} (k:Nat) (ret:Bool→Option S) (i:Int):Option S:=
 aa k (i_ k 0 i) fun r1=>
 aa k (lw k r1) fun r2=>
 ret (r2==1)
noncomputable def yK {S:Type} (k:Nat) (i:Int) (ret:Bool→Option S):Option S:=SC k ret i
noncomputable def SB {S:Type} (k:Nat) (ret:Cl×Bool→Option S) (c:Cl):Option S:=
 aa k (tB k c) fun r1=>
 ret (c,!r1)
noncomputable def tJ {S:Type} (k:Nat) (c:Cl) (ret:Cl×Bool→Option S):Option S:=SB k ret c
def wW {S:Type} (k:Nat) (ret:List Cl→Option S) (l:List Cl) (rec0:Int→(List Cl)→Option S) (v12:Int) (out5:List Cl):Option S:=
 ab (decide ((v12:Int)<(l.length:Int))) (
 Option.bind (af l v12) fun x1=>
 aa k (tJ k x1) fun r2=>
 ab (r2.2) (
  Option.bind (aw 1099511627776 out5.length [r2.1].length) fun x3=>
   rec0 (IntKind.wrap .i64 (v12+1)) (out5++[r2.1])) (
   rec0 (IntKind.wrap .i64 (v12+1)) out5)) (
 ret out5)
noncomputable def p9 {S:Type} (k:Nat) (ret:List Cl→Option S) (l:List Cl):Nat→Int→(List Cl)→Option S
 |0=>fun _ _=> .none
 |m+1=>fun v12 out5=>wW k ret l (p9 k ret l m) v12 out5
noncomputable def HJ {S:Type} (k:Nat) (ret:List Cl→Option S) (J0:Int→(List Cl)→Option S) (l:List Cl):Option S:=
 J0 0 ([]:List Cl)
noncomputable def yN {S:Type} (k:Nat) (l:List Cl) (ret:List Cl→Option S):Option S:=HJ k ret (fun v12 out5=>p9 k ret l k v12 out5) l
def Sy {S:Type} (k:Nat) (ret:List Cl×Int→Option S) (f:List Cl):Option S:=
 aa k (hY k f) fun r1=>
 ab (!r1) (
 ret (([]:List Cl),2)) (
 aa k (yN k f) fun r2=>
 aa k (gy k r2) fun r3=>
 ret (r3.1,r3.2))
noncomputable def tI {S:Type} (k:Nat) (f:List Cl) (ret:List Cl×Int→Option S):Option S:=Sy k ret f
noncomputable def SE {S:Type} (k:Nat) (ret:Cl×Bool→Option S) (b c0:Cl):Option S:=
 aa k (pb k c0 b) fun r1=>
 aa k (tJ k r1) fun r2=>
 ret (r2.1,r2.2)
noncomputable def yO {S:Type} (k:Nat) (b c0:Cl) (ret:Cl×Bool→Option S):Option S:=SE k ret b c0
def wV {S:Type} (k:Nat) (ret:List Cl→Option S) (c0:Cl) (l:List Cl) (rec0:Int→(List Cl)→Option S) (v12:Int) (out5:List Cl):Option S:=
 ab (decide ((v12:Int)<(l.length:Int))) (
 Option.bind (af l v12) fun x1=>
 aa k (yO k x1 c0) fun r2=>
 ab (r2.2) (
  Option.bind (aw 1099511627776 out5.length [r2.1].length) fun x3=>
   rec0 (IntKind.wrap .i64 (v12+1)) (out5++[r2.1])) (
   rec0 (IntKind.wrap .i64 (v12+1)) out5)) (
 ret out5)
noncomputable def p8 {S:Type} (k:Nat) (ret:List Cl→Option S) (c0:Cl) (l:List Cl):Nat→Int→(List Cl)→Option S
 |0=>fun _ _=> .none
 |m+1=>fun v12 out5=>wV k ret c0 l (p8 k ret c0 l m) v12 out5
noncomputable def HI {S:Type} (k:Nat) (ret:List Cl→Option S) (J0:Int→(List Cl)→Option S) (l:List Cl) (c0:Cl):Option S:=
 J0 0 ([]:List Cl)
noncomputable def yM {S:Type} (k:Nat) (l:List Cl) (c0:Cl) (ret:List Cl→Option S):Option S:=HI k ret (fun v12 out5=>p8 k ret c0 l k v12 out5) l c0
def wX {S:Type} (k:Nat) (ret:List Cl×Int→Option S) (g f:List Cl) (rec0:Int→(List Cl)→Option S) (v11:Int) (out6:List Cl):Option S:=
 ab (decide ((v11:Int)<(f.length:Int))) (
 Option.bind (af f v11) fun x1=>
 aa k (yM k g x1) fun r2=>
 Option.bind (aw 1099511627776 out6.length r2.length) fun x3=>
  rec0 (IntKind.wrap .i64 (v11+1)) (out6++r2)) (
 aa k (gy k out6) fun r4=>
 ret (r4.1,r4.2))
noncomputable def p_ {S:Type} (k:Nat) (ret:List Cl×Int→Option S) (g f:List Cl):Nat→Int→(List Cl)→Option S
 |0=>fun _ _=> .none
 |m+1=>fun v11 out6=>wX k ret g f (p_ k ret g f m) v11 out6
noncomputable def HK {S:Type} (k:Nat) (ret:List Cl×Int→Option S) (J0:Int→(List Cl)→Option S) (f g:List Cl):Option S:=
 J0 0 ([]:List Cl)
noncomputable def pe {S:Type} (k:Nat) (f g:List Cl) (ret:List Cl×Int→Option S):Option S:=HK k ret (fun v11 out6=>p_ k ret g f k v11 out6) f g
noncomputable def SD {S:Type} (k:Nat) (ret:List Cl×Int→Option S) (f g:List Cl):Option S:=
 Option.bind (aw 1099511627776 ([]:List Cl).length f.length) fun x1=>
 Option.bind (aw 1099511627776 (([]:List Cl)++f).length g.length) fun x2=>
 aa k (gy k ((([]:List Cl)++f)++g)) fun r3=>
 ret (r3.1,r3.2)
noncomputable def yL {S:Type} (k:Nat) (f g:List Cl) (ret:List Cl×Int→Option S):Option S:=SD k ret f g
noncomputable def HM {S:Type} (k:Nat) (ret:List Cl→Option S):Option S:=
 ret [(Cl.mk 0 0)]
noncomputable def pg {S:Type} (k:Nat) (ret:List Cl→Option S):Option S:=HM k ret
def w8 {S:Type} (k:Nat) (ret:List Cl×Int→Option S) (r5:List Int) (rec1:Int→(List Cl)→Option S) (v28:Int) (out4':List Cl):Option S:=
 ab (decide ((v28:Int)<(r5.length:Int))) (
 Option.bind (af r5 v28) fun x6=>
 aa k (i_ k 0 x6) fun r7=>
 Option.bind (aw 1099511627776 out4'.length [(Cl.mk r7 0)].length) fun x8=>
  rec1 (IntKind.wrap .i64 (v28+1)) (out4'++[(Cl.mk r7 0)])) (
 aa k (gy k out4') fun r9=>
 ret (r9.1,r9.2))
noncomputable def nB {S:Type} (k:Nat) (ret:List Cl×Int→Option S) (r5:List Int):Nat→Int→(List Cl)→Option S
 |0=>fun _ _=> .none
 |m+1=>fun v28 out4'=>w8 k ret r5 (nB k ret r5 m) v28 out4'
def aoa {S:Type} (k:Nat) (ret:List Cl×Int→Option S) (c:Cl) (r1:List Int) (J1:(List Int)→Int→(List Cl)→Option S) (rec0:Int→(List Cl)→Option S) (v13:Int) (out4:List Cl):Option S:=
 ab (decide ((v13:Int)<(r1.length:Int))) (
 Option.bind (af r1 v13) fun x2=>
 aa k (i_ k 0 x2) fun r3=>
 Option.bind (aw 1099511627776 out4.length [(Cl.mk 0 r3)].length) fun x4=>
  rec0 (IntKind.wrap .i64 (v13+1)) (out4++[(Cl.mk 0 r3)])) (
 vz c.neg fun r5=>
  J1 r5 0 out4)
noncomputable def qh {S:Type} (k:Nat) (ret:List Cl×Int→Option S) (c:Cl) (r1:List Int):Nat→Int→(List Cl)→Option S
 |0=>fun _ _=> .none
 |m+1=>fun v13 out4=>aoa k ret c r1 (fun r5 v28 out4'=>nB k ret r5 k v28 out4') (qh k ret c r1 m) v13 out4
noncomputable def HS {S:Type} (k:Nat) (ret:List Cl×Int→Option S) (J0:(List Int)→Int→(List Cl)→Option S) (c:Cl):Option S:=
 vz c.pos fun r1=>
 J0 r1 0 ([]:List Cl)
noncomputable def yV {S:Type} (k:Nat) (c:Cl) (ret:List Cl×Int→Option S):Option S:=HS k ret (fun r1 v13 out4=>qh k ret c r1 k v13 out4) c
def w7 {S:Type} (k:Nat) (ret:List Cl×Int→Option S) (x1:Cl) (g f:List Cl) (v13:Int) (rec0:Int→(List Cl)→Option S) (rec1:Int→(List Cl)→Option S) (v19:Int) (out6':List Cl):Option S:=
 ab (decide ((v19:Int)<(g.length:Int))) (
 Option.bind (af g v19) fun x2=>
 aa k (pb k x1 x2) fun r3=>
 Option.bind (aw 1099511627776 out6'.length [r3].length) fun x4=>
  rec1 (IntKind.wrap .i64 (v19+1)) (out6'++[r3])) (
  rec0 (IntKind.wrap .i64 (v13+1)) out6')
noncomputable def nA {S:Type} (k:Nat) (ret:List Cl×Int→Option S) (rec0:Int→(List Cl)→Option S) (x1:Cl) (g f:List Cl) (v13:Int):Nat→Int→(List Cl)→Option S
 |0=>fun _ _=> .none
 |m+1=>fun v19 out6'=>w7 k ret x1 g f v13 rec0 (nA k ret rec0 x1 g f v13 m) v19 out6'
def an_ {S:Type} (k:Nat) (ret:List Cl×Int→Option S) (g f:List Cl) (J1:Cl→Int→Int→(List Cl)→Option S) (rec0:Int→(List Cl)→Option S) (v13:Int) (out6:List Cl):Option S:=
 ab (decide ((v13:Int)<(f.length:Int))) (
 Option.bind (af f v13) fun x1=>
  J1 x1 v13 0 out6) (
 aa k (gy k out6) fun r5=>
 ret (r5.1,r5.2))
noncomputable def lZ {S:Type} (k:Nat) (ret:List Cl×Int→Option S) (g f:List Cl):Nat→Int→(List Cl)→Option S
 |0=>fun _ _=> .none
 |m+1=>fun v13 out6=>an_ k ret g f (fun x1 v13 v19 out6'=>nA k ret (lZ k ret g f m) x1 g f v13 k v19 out6') (lZ k ret g f m) v13 out6
noncomputable def HR {S:Type} (k:Nat) (ret:List Cl×Int→Option S) (J0:Int→(List Cl)→Option S) (f g:List Cl):Option S:=
 J0 0 ([]:List Cl)
noncomputable def jW {S:Type} (k:Nat) (f g:List Cl) (ret:List Cl×Int→Option S):Option S:=HR k ret (fun v13 out6=>lZ k ret g f k v13 out6) f g
def SO {S:Type} (k:Nat) (ret:List Cl×Int→Option S) (a_have:List Cl) (c:Cl):Option S:=
 aa k (yV k c) fun r1=>
 ab (!(r1.2==0)) (
 ret (([]:List Cl),r1.2)) (
 aa k (jW k a_have r1.1) fun r2=>
 ret (r2.1,r2.2))
noncomputable def yU {S:Type} (k:Nat) (a_have:List Cl) (c:Cl) (ret:List Cl×Int→Option S):Option S:=SO k ret a_have c
def w5 {S:Type} (k:Nat) (ret:List Cl×Int→Option S) (l:List Cl) (rec0:(List Cl)→Int→Option S) (v1:List Cl) (v15:Int):Option S:=
 ab (decide ((v15:Int)<(l.length:Int))) (
 Option.bind (af l v15) fun x1=>
 aa k (yU k v1 x1) fun r2=>
 ab (!(r2.2==0)) (
  ret (([]:List Cl),r2.2)) (
   rec0 r2.1 (IntKind.wrap .i64 (v15+1)))) (
 ret (v1,0))
noncomputable def qe {S:Type} (k:Nat) (ret:List Cl×Int→Option S) (l:List Cl):Nat→(List Cl)→Int→Option S
 |0=>fun _ _=> .none
 |m+1=>fun v1 v15=>w5 k ret l (qe k ret l m) v1 v15
noncomputable def HP {S:Type} (k:Nat) (ret:List Cl×Int→Option S) (J0:(List Cl)→Int→Option S) (l a_from:List Cl):Option S:=
 J0 a_from 0
noncomputable def DP {S:Type} (k:Nat) (l a_from:List Cl) (ret:List Cl×Int→Option S):Option S:=HP k ret (fun v1 v15=>qe k ret l k v1 v15) l a_from
noncomputable def SN {S:Type} (k:Nat) (ret:List Cl×Int→Option S) (f:List Cl):Option S:=
 aa k (pg k) fun r1=>
 aa k (DP k f r1) fun r2=>
 ret (r2.1,r2.2)
noncomputable def ph {S:Type} (k:Nat) (f:List Cl) (ret:List Cl×Int→Option S):Option S:=SN k ret f
def SI {S:Type} (k:Nat) (ret:List Cl×Int→Option S) (f:List Cl):Option S:=
 aa k (pi k [f]) fun r1=>
 ab (!(r1==0)) (
 ret (([]:List Cl),r1)) (
 aa k (ph k f) fun r2=>
 ret (r2.1,r2.2))
noncomputable def yQ {S:Type} (k:Nat) (f:List Cl) (ret:List Cl×Int→Option S):Option S:=SI k ret f
def Sz {S:Type} (k:Nat) (ret:List Cl×Int→Option S) (f:List Cl):Option S:=
 aa k (yQ k f) fun r1=>
 ab (!(r1.2==0)) (
 ret (([]:List Cl),r1.2)) (
 aa k (tI k r1.1) fun r2=>
 ret (r2.1,r2.2))
noncomputable def yI {S:Type} (k:Nat) (f:List Cl) (ret:List Cl×Int→Option S):Option S:=Sz k ret f
def wU {S:Type} (k:Nat) (ret:List Cl×Int→Option S) (i:Int) (a_r f:List Cl) (v29:Int) (v8:List Cl) (rec0:Int→(List Cl)→Option S) (g11:List Cl) (v13:Int):Option S:=
 ab (v13==0) (
 aa k (yL k v8 g11) fun r10=>
 ab (!(r10.2==0)) (
  ret (([]:List Cl),r10.2)) (
   rec0 (IntKind.wrap .i64 (v29+1)) r10.1)) (
 ab (!(v13==0)) (
  ret (([]:List Cl),v13)) (
   rec0 (IntKind.wrap .i64 (v29+1)) v8))
noncomputable def p7 {S:Type} (k:Nat) (ret:List Cl×Int→Option S) (rec0:Int→(List Cl)→Option S) (i:Int) (a_r f:List Cl) (v29:Int) (v8:List Cl):Nat→(List Cl)→Int→Option S
 |0=>fun _ _=> .none
 |_+1=>fun g11 v13=>wU k ret i a_r f v29 v8 rec0 g11 v13
def sr {S:Type} (k:Nat) (ret:List Cl×Int→Option S) (i:Int) (a_r f:List Cl) (J1:Int→(List Cl)→(List Cl)→Int→Option S) (rec0:Int→(List Cl)→Option S) (v29:Int) (v8:List Cl):Option S:=
 ab (decide ((v29:Int)<(f.length:Int))) (
 Option.bind (af f v29) fun x4=>
 aa k (jX k x4.pos i) fun r5=>
 aa k (jX k x4.neg i) fun r6=>
 aa k (amz k x4.pos i) fun r7=>
 ab (r7) (
  aa k (tI k a_r) fun r8=>
  ab (r8.2==0) (
  aa k (pe k [(Cl.mk r5 r6)] r8.1) fun r9=>
    J1 v29 v8 r9.1 r9.2) (
    J1 v29 v8 [(Cl.mk r5 r6)] r8.2)) (
  aa k (amz k x4.neg i) fun r11=>
  ab (r11) (
  aa k (yI k a_r) fun r12=>
  ab (r12.2==0) (
   aa k (pe k [(Cl.mk r5 r6)] r12.1) fun r13=>
     J1 v29 v8 r13.1 r13.2) (
     J1 v29 v8 [(Cl.mk r5 r6)] r12.2)) (
    J1 v29 v8 [(Cl.mk r5 r6)] 0))) (
 ret (v8,0))
noncomputable def lY {S:Type} (k:Nat) (ret:List Cl×Int→Option S) (i:Int) (a_r f:List Cl):Nat→Int→(List Cl)→Option S
 |0=>fun _ _=> .none
 |m+1=>fun v29 v8=>sr k ret i a_r f (fun v29 v8 g11 v13=>p7 k ret (lY k ret i a_r f m) i a_r f v29 v8 k g11 v13) (lY k ret i a_r f m) v29 v8
def HH {S:Type} (k:Nat) (ret:List Cl×Int→Option S) (J0:Int→(List Cl)→Option S) (f:List Cl) (i:Int) (a_r:List Cl):Option S:=
 aa k (pd k f) fun r1=>
 ab (!r1) (
 ret (([]:List Cl),2)) (
 aa k (yK k i) fun r2=>
 ab (!r2) (
  ret (([]:List Cl),2)) (
  aa k (hY k a_r) fun r3=>
  ab (!r3) (
  ret (([]:List Cl),2)) (
    J0 0 [])))
noncomputable def yJ {S:Type} (k:Nat) (f:List Cl) (i:Int) (a_r:List Cl) (ret:List Cl×Int→Option S):Option S:=HH k ret (fun v29 v8=>lY k ret i a_r f k v29 v8) f i a_r
def Sr {S:Type} (k:Nat) (ret:List Cl×Int→Option S) (f:List Cl) (depth c0:Int) (c1:List Cl):Option S:=
 aa k (jc k f) fun r1=>
 aa k (amz k r1 (IntKind.wrap .i64 (c0+depth))) fun r2=>
 ab (!r2) (
 aa k (tD k f) fun r3=>
 ret (r3,0)) (
 aa k (jV k c1 0 depth) fun r4=>
 ab (!(r4.2==0)) (
  ret (([]:List Cl),r4.2)) (
  aa k (yJ k f (IntKind.wrap .i64 (c0+depth)) r4.1) fun r5=>
  ret (r5.1,r5.2)))
noncomputable def tF {S:Type} (k:Nat) (f:List Cl) (depth c0:Int) (c1:List Cl) (ret:List Cl×Int→Option S):Option S:=Sr k ret f depth c0 c1
def SF {S:Type} (k:Nat) (ret:List Cl×Int→Option S) (i:Int):Option S:=
 aa k (i_ k 0 i) fun r1=>
 aa k (lw k r1) fun r2=>
 ab (r2==0) (
 ret (([]:List Cl),2)) (
 aa k (i_ k 0 i) fun r3=>
 ret ([(Cl.mk r3 0)],0))
noncomputable def yP {S:Type} (k:Nat) (i:Int) (ret:List Cl×Int→Option S):Option S:=SF k ret i
noncomputable def SM {S:Type} (k:Nat) (ret:List Cl×Int→Option S) (f g:List Cl):Option S:=
 Option.bind (aw 1099511627776 ([]:List Cl).length f.length) fun x1=>
 Option.bind (aw 1099511627776 (([]:List Cl)++f).length g.length) fun x2=>
 aa k (gy k ((([]:List Cl)++f)++g)) fun r3=>
 ret (r3.1,r3.2)
noncomputable def na {S:Type} (k:Nat) (f g:List Cl) (ret:List Cl×Int→Option S):Option S:=SM k ret f g
def SK {S:Type} (k:Nat) (ret:List Cl×Int→Option S) (a_have:List Cl) (c:Cl) (c0:Int) (c1:List Cl):Option S:=
 aa k (jX k c.pos c0) fun r1=>
 aa k (jX k c.neg c0) fun r2=>
 aa k (amz k c.pos c0) fun r3=>
 ab (r3) (
 aa k (jW k [(Cl.mk r1 r2)] c1) fun r4=>
 ab (!(r4.2==0)) (
  ret (([]:List Cl),r4.2)) (
  aa k (amz k c.neg c0) fun r5=>
  ab (r5) (
  aa k (ph k c1) fun r6=>
  ab (!(r6.2==0)) (
   ret (([]:List Cl),r6.2)) (
   aa k (jW k r4.1 r6.1) fun r7=>
   ab (!(r7.2==0)) (
   ret (([]:List Cl),r7.2)) (
   aa k (na k a_have r7.1) fun r8=>
   ret (r8.1,r8.2)))) (
  aa k (na k a_have r4.1) fun r9=>
  ret (r9.1,r9.2)))) (
 aa k (amz k c.neg c0) fun r10=>
 ab (r10) (
  aa k (ph k c1) fun r11=>
  ab (!(r11.2==0)) (
  ret (([]:List Cl),r11.2)) (
  aa k (jW k [(Cl.mk r1 r2)] r11.1) fun r12=>
  ab (!(r12.2==0)) (
   ret (([]:List Cl),r12.2)) (
   aa k (na k a_have r12.1) fun r13=>
   ret (r13.1,r13.2)))) (
  aa k (na k a_have [(Cl.mk r1 r2)]) fun r14=>
  ret (r14.1,r14.2)))
noncomputable def yS {S:Type} (k:Nat) (a_have:List Cl) (c:Cl) (c0:Int) (c1:List Cl) (ret:List Cl×Int→Option S):Option S:=SK k ret a_have c c0 c1
def wZ {S:Type} (k:Nat) (ret:List Cl×Int→Option S) (c0:Int) (c1 l:List Cl) (rec0:(List Cl)→Int→Option S) (v1:List Cl) (v15:Int):Option S:=
 ab (decide ((v15:Int)<(l.length:Int))) (
 Option.bind (af l v15) fun x1=>
 aa k (yS k v1 x1 c0 c1) fun r2=>
 ab (!(r2.2==0)) (
  ret (([]:List Cl),r2.2)) (
   rec0 r2.1 (IntKind.wrap .i64 (v15+1)))) (
 ret (v1,0))
noncomputable def qc {S:Type} (k:Nat) (ret:List Cl×Int→Option S) (c0:Int) (c1 l:List Cl):Nat→(List Cl)→Int→Option S
 |0=>fun _ _=> .none
 |m+1=>fun v1 v15=>wZ k ret c0 c1 l (qc k ret c0 c1 l m) v1 v15
noncomputable def HO {S:Type} (k:Nat) (ret:List Cl×Int→Option S) (J0:(List Cl)→Int→Option S) (l a_from:List Cl) (c0:Int) (c1:List Cl):Option S:=
 J0 a_from 0
noncomputable def DO {S:Type} (k:Nat) (l a_from:List Cl) (c0:Int) (c1:List Cl) (ret:List Cl×Int→Option S):Option S:=HO k ret (fun v1 v15=>qc k ret c0 c1 l k v1 v15) l a_from c0 c1
def SJ {S:Type} (k:Nat) (ret:List Cl×Int→Option S) (f:List Cl) (i:Int) (a_r:List Cl):Option S:=
 aa k (pi k [f,a_r]) fun r1=>
 ab (!(r1==0)) (
 ret (([]:List Cl),r1)) (
 aa k (yP k i) fun r2=>
 ab (!(r2.2==0)) (
  ret (([]:List Cl),r2.2)) (
  aa k (tK k) fun r3=>
  aa k (DO k f r3 i a_r) fun r4=>
  ret (r4.1,r4.2)))
noncomputable def yR {S:Type} (k:Nat) (f:List Cl) (i:Int) (a_r:List Cl) (ret:List Cl×Int→Option S):Option S:=SJ k ret f i a_r
def Sq {S:Type} (k:Nat) (ret:List Cl×Int→Option S) (f:List Cl) (depth c0:Int) (c1:List Cl):Option S:=
 aa k (jc k f) fun r1=>
 aa k (amz k r1 (IntKind.wrap .i64 (c0+depth))) fun r2=>
 ab (!r2) (
 aa k (tD k f) fun r3=>
 ret (r3,0)) (
 aa k (jV k c1 0 depth) fun r4=>
 ab (!(r4.2==0)) (
  ret (([]:List Cl),r4.2)) (
  aa k (yR k f (IntKind.wrap .i64 (c0+depth)) r4.1) fun r5=>
  ret (r5.1,r5.2)))
noncomputable def yF {S:Type} (k:Nat) (f:List Cl) (depth c0:Int) (c1:List Cl) (ret:List Cl×Int→Option S):Option S:=Sq k ret f depth c0 c1
def Sv {S:Type} (k:Nat) (ret:List Cl×Int→Option S) (t:Tm) (depth c0:Int) (c1:List Cl):Option S:=
 ab (t.kind==14) (
 aa k (tF k t.r depth c0 c1) fun r1=>
 ret (r1.1,r1.2)) (
 aa k (yF k t.r depth c0 c1) fun r2=>
 ret (r2.1,r2.2))
noncomputable def yG {S:Type} (k:Nat) (t:Tm) (depth c0:Int) (c1:List Cl) (ret:List Cl×Int→Option S):Option S:=Sv k ret t depth c0 c1
noncomputable def HD {S:Type} (k:Nat) (ret:Int→Option S) (i:Int) (c0:Tm):Option S:=
 aa k (gI k c0.kind i) fun r1=>
 ret r1.2
noncomputable def tG {S:Type} (k:Nat) (i:Int) (c0:Tm) (ret:Int→Option S):Option S:=HD k ret i c0
noncomputable def HE {S:Type} (k:Nat) (ret:Int→Option S) (p c0:Int):Option S:=
 ret c0
noncomputable def tH {S:Type} (k:Nat) (p c0:Int) (ret:Int→Option S):Option S:=HE k ret p c0
abbrev c8 (S:Type):=Tm→Int→Int→(List Cl)→(Tm×Int→Option S)→Option S
def wQ {S:Type} (hd:c8 S) (k:Nat) (ret:List Tm×Int→Option S) (c0:Int) (c1:List Cl) (c4:Int) (l:List Tm) (depth:Int) (rec0:(List Tm)→Int→Option S) (out10:List Tm) (v17:Int):Option S:=
 ab (decide ((v17:Int)<(l.length:Int))) (
 Option.bind (af l v17) fun x1=>
 aa k (tH k v17 c4) fun r2=>
 hd (ac x1) (IntKind.wrap .i64 (depth+r2)) c0 c1 fun r3=>
 ab (!(r3.2==0)) (
  ret (([]:List Tm),r3.2)) (
  Option.bind (aw 1099511627776 out10.length [(ac r3.1)].length) fun x4=>
   rec0 (out10++[(ac r3.1)]) (IntKind.wrap .i64 (v17+1)))) (
 ret (out10,0))
noncomputable def lW {S:Type} (hd:c8 S) (k:Nat) (ret:List Tm×Int→Option S) (c0:Int) (c1:List Cl) (c4:Int) (l:List Tm) (depth:Int):Nat→(List Tm)→Int→Option S
 |0=>fun _ _=> .none
 |m+1=>fun out10 v17=>wQ hd k ret c0 c1 c4 l depth (lW hd k ret c0 c1 c4 l depth m) out10 v17
noncomputable def HB {S:Type} (hd:c8 S) (k:Nat) (ret:List Tm×Int→Option S) (J0:(List Tm)→Int→Option S) (l:List Tm) (depth c0:Int) (c1:List Cl) (c4:Int):Option S:=
 J0 ([]:List Tm) 0
noncomputable def DK {S:Type} (hd:c8 S) (k:Nat) (l:List Tm) (depth c0:Int) (c1:List Cl) (c4:Int) (ret:List Tm×Int→Option S):Option S:=HB hd k ret (fun out10 v17=>lW hd k ret c0 c1 c4 l depth k out10 v17) l depth c0 c1 c4
def wR {S:Type} (hd:c8 S) (k:Nat) (ret:List Tm×Int→Option S) (c0:Int) (c1:List Cl) (c4:Tm) (l:List Tm) (depth:Int) (rec0:(List Tm)→Int→Option S) (out10:List Tm) (v17:Int):Option S:=
 ab (decide ((v17:Int)<(l.length:Int))) (
 Option.bind (af l v17) fun x1=>
 aa k (tG k v17 (ac c4)) fun r2=>
 hd (ac x1) (IntKind.wrap .i64 (depth+r2)) c0 c1 fun r3=>
 ab (!(r3.2==0)) (
  ret (([]:List Tm),r3.2)) (
  Option.bind (aw 1099511627776 out10.length [(ac r3.1)].length) fun x4=>
   rec0 (out10++[(ac r3.1)]) (IntKind.wrap .i64 (v17+1)))) (
 ret (out10,0))
noncomputable def lX {S:Type} (hd:c8 S) (k:Nat) (ret:List Tm×Int→Option S) (c0:Int) (c1:List Cl) (c4:Tm) (l:List Tm) (depth:Int):Nat→(List Tm)→Int→Option S
 |0=>fun _ _=> .none
 |m+1=>fun out10 v17=>wR hd k ret c0 c1 c4 l depth (lX hd k ret c0 c1 c4 l depth m) out10 v17
noncomputable def HC {S:Type} (hd:c8 S) (k:Nat) (ret:List Tm×Int→Option S) (J0:(List Tm)→Int→Option S) (l:List Tm) (depth c0:Int) (c1:List Cl) (c4:Tm):Option S:=
 J0 ([]:List Tm) 0
noncomputable def DL {S:Type} (hd:c8 S) (k:Nat) (l:List Tm) (depth c0:Int) (c1:List Cl) (c4:Tm) (ret:List Tm×Int→Option S):Option S:=HC hd k ret (fun out10 v17=>lX hd k ret c0 c1 c4 l depth k out10 v17) l depth c0 c1 c4
def wS {S:Type} (hd:c8 S) (k:Nat) (ret:Tm×Int→Option S) (c0:Int) (c1:List Cl) (t:Tm) (r1:List Cl×Int) (r2:List Tm×Int) (depth:Int) (rec0:Int→(List (Br Tm))→Int→Option S) (b10_0:Int) (b8_5:List (Br Tm)) (v55:Int):Option S:=
 ab (decide ((v55:Int)<(t.sys.length:Int))) (
 Option.bind (af t.sys v55) fun x3=>
 aa k (tF k x3.face depth c0 c1) fun r4=>
 ab (!(r4.2==0)) (
  ret ((Tm.mk 0 0 ByteArray.empty [] [] []),r4.2)) (
  ab ((r4.1.length:Int)==0) (
    rec0 b10_0 b8_5 (IntKind.wrap .i64 (v55+1))) (
  aa k (DK hd k x3.kids depth c0 c1 b10_0) fun r5=>
  ab (!(r5.2==0)) (
   ret ((Tm.mk 0 0 ByteArray.empty [] [] []),r5.2)) (
   Option.bind (aw 1099511627776 b8_5.length [(Br.mk r4.1 r5.1)].length) fun x6=>
     rec0 b10_0 (b8_5++[(Br.mk r4.1 r5.1)]) (IntKind.wrap .i64 (v55+1)))))) (
 ret ((Tm.mk t.kind t.n t.name r1.1 r2.1 b8_5),0))
noncomputable def fV {S:Type} (hd:c8 S) (k:Nat) (ret:Tm×Int→Option S) (c0:Int) (c1:List Cl) (t:Tm) (r1:List Cl×Int) (r2:List Tm×Int) (depth:Int):Nat→Int→(List (Br Tm))→Int→Option S
 |0=>fun _ _ _=> .none
 |m+1=>fun b10_0 b8_5 v55=>wS hd k ret c0 c1 t r1 r2 depth (fV hd k ret c0 c1 t r1 r2 depth m) b10_0 b8_5 v55
def HF {S:Type} (hd:c8 S) (k:Nat) (ret:Tm×Int→Option S) (J0:(List Cl×Int)→(List Tm×Int)→Int→(List (Br Tm))→Int→Option S) (t:Tm) (depth c0:Int) (c1:List Cl):Option S:=
 aa k (yG k (ac t) depth c0 c1) fun r1=>
 ab (!(r1.2==0)) (
 ret ((Tm.mk 0 0 ByteArray.empty [] [] []),r1.2)) (
 aa k (DL hd k t.kids depth c0 c1 (ac t)) fun r2=>
 ab (!(r2.2==0)) (
  ret ((Tm.mk 0 0 ByteArray.empty [] [] []),r2.2)) (
  ab (t.kind==15) (
    J0 r1 r2 1 ([]:List (Br Tm)) 0) (
    J0 r1 r2 0 ([]:List (Br Tm)) 0)))
noncomputable def d7 {S:Type}:Nat→Tm→Int→Int→(List Cl)→(Tm×Int→Option S)→Option S
 |0=>fun _ _ _ _ _=> .none
 |k+1=>fun t depth c0 c1 ret=>HF (d7 k) k ret (fun r1 r2 b10_0 b8_5 v55=>fV (d7 k) k ret c0 c1 t r1 r2 depth k b10_0 b8_5 v55) t depth c0 c1
noncomputable def So {S:Type} (k:Nat) (ret:Int→Option S) (i:Int):Option S:=
 ret i
noncomputable def DE {S:Type} (k:Nat) (i:Int) (ret:Int→Option S):Option S:=So k ret i
def SW {S:Type} (k:Nat) (ret:Int→Option S) (s i:Int):Option S:=
 aa k (nd k i) fun r1=>
 ab (!r1) (
 ret (bj .and .u32 s 16777215)) (
 aa k (pn k i) fun r2=>
 Option.bind (bR (0≤(IntKind.wrap .u64 (IntKind.wrap .i64 (i+1))))) fun x3=>
 Option.bind (bR (0≤(IntKind.wrap .u64 i))) fun x4=>
 ret (bj .or .u32 (bj .and .u32 (bj .and .u32 s 16777215) r2) (IntKind.wrap .u32 ((Int.fdiv (bj .and .u32 s 16777215) (2^min (Int.toNat (IntKind.wrap .u64 (IntKind.wrap .i64 (i+1)))) 32))*2^min (Int.toNat (IntKind.wrap .u64 i)) 32))))
noncomputable def pk {S:Type} (k:Nat) (s i:Int) (ret:Int→Option S):Option S:=SW k ret s i
def wN {S:Type} (k:Nat) (ret:List Cl×Int→Option S) (c0 depth:Int) (f:List Cl) (rec0:Int→(List Cl)→Option S) (v12:Int) (out7:List Cl):Option S:=
 ab (decide ((v12:Int)<(f.length:Int))) (
 Option.bind (af f v12) fun x1=>
 aa k (pk k x1.pos (IntKind.wrap .i64 (c0+depth))) fun r2=>
 aa k (pk k x1.neg (IntKind.wrap .i64 (c0+depth))) fun r3=>
 Option.bind (aw 1099511627776 out7.length [(Cl.mk r2 r3)].length) fun x4=>
  rec0 (IntKind.wrap .i64 (v12+1)) (out7++[(Cl.mk r2 r3)])) (
 aa k (gy k out7) fun r5=>
 ret (r5.1,r5.2))
noncomputable def p6 {S:Type} (k:Nat) (ret:List Cl×Int→Option S) (c0 depth:Int) (f:List Cl):Nat→Int→(List Cl)→Option S
 |0=>fun _ _=> .none
 |m+1=>fun v12 out7=>wN k ret c0 depth f (p6 k ret c0 depth f m) v12 out7
noncomputable def Hx {S:Type} (k:Nat) (ret:List Cl×Int→Option S) (J0:Int→(List Cl)→Option S) (f:List Cl) (depth c0:Int):Option S:=
 J0 0 ([]:List Cl)
noncomputable def pc {S:Type} (k:Nat) (f:List Cl) (depth c0:Int) (ret:List Cl×Int→Option S):Option S:=Hx k ret (fun v12 out7=>p6 k ret c0 depth f k v12 out7) f depth c0
def Sw {S:Type} (k:Nat) (ret:List Cl×Int→Option S) (t:Tm) (depth c0:Int):Option S:=
 ab (t.kind==14) (
 aa k (pc k t.r depth c0) fun r1=>
 ret (r1.1,r1.2)) (
 aa k (pc k t.r depth c0) fun r2=>
 ret (r2.1,r2.2))
noncomputable def yH {S:Type} (k:Nat) (t:Tm) (depth c0:Int) (ret:List Cl×Int→Option S):Option S:=Sw k ret t depth c0
abbrev c_ (S:Type):=Tm→Int→Int→(Tm×Int→Option S)→Option S
def wO {S:Type} (hd:c_ S) (k:Nat) (ret:List Tm×Int→Option S) (c0 c1:Int) (l:List Tm) (depth:Int) (rec0:(List Tm)→Int→Option S) (out10:List Tm) (v17:Int):Option S:=
 ab (decide ((v17:Int)<(l.length:Int))) (
 Option.bind (af l v17) fun x1=>
 aa k (tH k v17 c1) fun r2=>
 hd (ac x1) (IntKind.wrap .i64 (depth+r2)) c0 fun r3=>
 ab (!(r3.2==0)) (
  ret (([]:List Tm),r3.2)) (
  Option.bind (aw 1099511627776 out10.length [(ac r3.1)].length) fun x4=>
   rec0 (out10++[(ac r3.1)]) (IntKind.wrap .i64 (v17+1)))) (
 ret (out10,0))
noncomputable def lU {S:Type} (hd:c_ S) (k:Nat) (ret:List Tm×Int→Option S) (c0 c1:Int) (l:List Tm) (depth:Int):Nat→(List Tm)→Int→Option S
 |0=>fun _ _=> .none
 |m+1=>fun out10 v17=>wO hd k ret c0 c1 l depth (lU hd k ret c0 c1 l depth m) out10 v17
noncomputable def Hz {S:Type} (hd:c_ S) (k:Nat) (ret:List Tm×Int→Option S) (J0:(List Tm)→Int→Option S) (l:List Tm) (depth c0 c1:Int):Option S:=
 J0 ([]:List Tm) 0
noncomputable def DI {S:Type} (hd:c_ S) (k:Nat) (l:List Tm) (depth c0 c1:Int) (ret:List Tm×Int→Option S):Option S:=Hz hd k ret (fun out10 v17=>lU hd k ret c0 c1 l depth k out10 v17) l depth c0 c1
def wP {S:Type} (hd:c_ S) (k:Nat) (ret:List Tm×Int→Option S) (c0:Int) (c1:Tm) (l:List Tm) (depth:Int) (rec0:(List Tm)→Int→Option S) (out10:List Tm) (v17:Int):Option S:=
 ab (decide ((v17:Int)<(l.length:Int))) (
 Option.bind (af l v17) fun x1=>
 aa k (tG k v17 (ac c1)) fun r2=>
 hd (ac x1) (IntKind.wrap .i64 (depth+r2)) c0 fun r3=>
 ab (!(r3.2==0)) (
  ret (([]:List Tm),r3.2)) (
  Option.bind (aw 1099511627776 out10.length [(ac r3.1)].length) fun x4=>
   rec0 (out10++[(ac r3.1)]) (IntKind.wrap .i64 (v17+1)))) (
 ret (out10,0))
noncomputable def lV {S:Type} (hd:c_ S) (k:Nat) (ret:List Tm×Int→Option S) (c0:Int) (c1:Tm) (l:List Tm) (depth:Int):Nat→(List Tm)→Int→Option S
 |0=>fun _ _=> .none
 |m+1=>fun out10 v17=>wP hd k ret c0 c1 l depth (lV hd k ret c0 c1 l depth m) out10 v17
noncomputable def HA {S:Type} (hd:c_ S) (k:Nat) (ret:List Tm×Int→Option S) (J0:(List Tm)→Int→Option S) (l:List Tm) (depth c0:Int) (c1:Tm):Option S:=
 J0 ([]:List Tm) 0
noncomputable def DJ {S:Type} (hd:c_ S) (k:Nat) (l:List Tm) (depth c0:Int) (c1:Tm) (ret:List Tm×Int→Option S):Option S:=HA hd k ret (fun out10 v17=>lV hd k ret c0 c1 l depth k out10 v17) l depth c0 c1
def wT {S:Type} (hd:c_ S) (k:Nat) (ret:Tm×Int→Option S) (c0:Int) (t:Tm) (r1:List Cl×Int) (r2:List Tm×Int) (depth:Int) (rec0:Int→(List (Br Tm))→Int→Option S) (b10_0:Int) (b8_5:List (Br Tm)) (v55:Int):Option S:=
 ab (decide ((v55:Int)<(t.sys.length:Int))) (
 Option.bind (af t.sys v55) fun x3=>
 aa k (pc k x3.face depth c0) fun r4=>
 ab (!(r4.2==0)) (
  ret ((Tm.mk 0 0 ByteArray.empty [] [] []),r4.2)) (
  ab ((r4.1.length:Int)==0) (
    rec0 b10_0 b8_5 (IntKind.wrap .i64 (v55+1))) (
  aa k (DI hd k x3.kids depth c0 b10_0) fun r5=>
  ab (!(r5.2==0)) (
   ret ((Tm.mk 0 0 ByteArray.empty [] [] []),r5.2)) (
   Option.bind (aw 1099511627776 b8_5.length [(Br.mk r4.1 r5.1)].length) fun x6=>
     rec0 b10_0 (b8_5++[(Br.mk r4.1 r5.1)]) (IntKind.wrap .i64 (v55+1)))))) (
 ret ((Tm.mk t.kind t.n t.name r1.1 r2.1 b8_5),0))
noncomputable def fW {S:Type} (hd:c_ S) (k:Nat) (ret:Tm×Int→Option S) (c0:Int) (t:Tm) (r1:List Cl×Int) (r2:List Tm×Int) (depth:Int):Nat→Int→(List (Br Tm))→Int→Option S
 |0=>fun _ _ _=> .none
 |m+1=>fun b10_0 b8_5 v55=>wT hd k ret c0 t r1 r2 depth (fW hd k ret c0 t r1 r2 depth m) b10_0 b8_5 v55
def HG {S:Type} (hd:c_ S) (k:Nat) (ret:Tm×Int→Option S) (J0:(List Cl×Int)→(List Tm×Int)→Int→(List (Br Tm))→Int→Option S) (t:Tm) (depth c0:Int):Option S:=
 aa k (yH k (ac t) depth c0) fun r1=>
 ab (!(r1.2==0)) (
 ret ((Tm.mk 0 0 ByteArray.empty [] [] []),r1.2)) (
 aa k (DJ hd k t.kids depth c0 (ac t)) fun r2=>
 ab (!(r2.2==0)) (
  ret ((Tm.mk 0 0 ByteArray.empty [] [] []),r2.2)) (
  ab (t.kind==15) (
    J0 r1 r2 1 ([]:List (Br Tm)) 0) (
    J0 r1 r2 0 ([]:List (Br Tm)) 0)))
noncomputable def dT {S:Type}:Nat→Tm→Int→Int→(Tm×Int→Option S)→Option S
 |0=>fun _ _ _ _=> .none
 |k+1=>fun t depth c0 ret=>HG (dT k) k ret (fun r1 r2 b10_0 b8_5 v55=>fW (dT k) k ret c0 t r1 r2 depth k b10_0 b8_5 v55) t depth c0
def Sl {S:Type} (k:Nat) (ret:Tm×Int→Option S) (t:Tm) (i:Int) (a_r:List Cl):Option S:=
 aa k (DM k (ac t) i a_r) fun r1=>
 ab (!(r1==0)) (
 ret ((Tm.mk 0 0 ByteArray.empty [] [] []),r1)) (
 aa k (jV k a_r i 1) fun r2=>
 ab (!(r2.2==0)) (
  ret ((Tm.mk 0 0 ByteArray.empty [] [] []),r2.2)) (
  aa k (DF k i r2.1) fun r3=>
  d7 k (ac t) 0 r3.1 r3.2 fun r4=>
  ab (!(r4.2==0)) (
  ret ((Tm.mk 0 0 ByteArray.empty [] [] []),r4.2)) (
  aa k (DE k i) fun r5=>
  dT k (ac r4.1) 0 r5 fun r6=>
  ret ((ac r6.1),r6.2))))
noncomputable def m_ {S:Type} (k:Nat) (t:Tm) (i:Int) (a_r:List Cl) (ret:Tm×Int→Option S):Option S:=Sl k ret t i a_r
def Ht {S:Type} (k:Nat) (ret:Tm×Int→Option S) (line:Tm) (a_r:List Cl) (c0:Int):Option S:=
 aa k (de k c0) fun r1=>
 ab (!r1) (
 ret ((Tm.mk 0 0 ByteArray.empty [] [] []),c0)) (
 aa k (lv k (ac line) 1 2) fun r2=>
 aa k (iZ k r2.2 c0) fun r3=>
 aa k (de k r3) fun r4=>
 ab (!r4) (
  ret ((Tm.mk 0 0 ByteArray.empty [] [] []),r3)) (
  aa k (m_ k (ac r2.1) 0 a_r) fun r5=>
  aa k (iZ k r5.2 r3) fun r6=>
  ret ((ac r5.1),r6)))
noncomputable def lr {S:Type} (k:Nat) (line:Tm) (a_r:List Cl) (c0:Int) (ret:Tm×Int→Option S):Option S:=Ht k ret line a_r c0
def oQ {S:Type} (k:Nat) (ret:Tm×Int→Option S) (a:Tm) (r5:Int×Int×ByteArray×List Tm) (sys:List (Br Tm)) (rec0:Int→(List (Br Tm))→Int→Option S) (b19000_0:Int) (b9_5:List (Br Tm)) (v29:Int):Option S:=
 ab (decide ((v29:Int)<(sys.length:Int))) (
 Option.bind (af sys v29) fun x6=>
 aa k (de k b19000_0) fun r7=>
 ab (!r7) (
  aa k (hU k (ac a) 0 2 b19000_0) fun r8=>
  Option.bind (aw 1099511627776 b9_5.length [(Br.mk [(Cl.mk 0 1)] [(ac r8.1)])].length) fun x9=>
  aa k (eQ k (Tm.mk r5.1 r5.2.1 r5.2.2.1 [] r5.2.2.2 (b9_5++[(Br.mk [(Cl.mk 0 1)] [(ac r8.1)])])) r8.2) fun r10=>
  ret ((ac r10.1),r10.2.1)) (
  aa k (tA k x6.face b19000_0) fun r11=>
  Option.bind (af x6.kids 0) fun x12=>
  aa k (lr k (ac x12) [(Cl.mk 3 0)] r11.2) fun r13=>
  Option.bind (aw 1099511627776 b9_5.length [(Br.mk r11.1 [(ac r13.1)])].length) fun x14=>
   rec0 r13.2 (b9_5++[(Br.mk r11.1 [(ac r13.1)])]) (IntKind.wrap .i64 (v29+1)))) (
 aa k (hU k (ac a) 0 2 b19000_0) fun r15=>
 Option.bind (aw 1099511627776 b9_5.length [(Br.mk [(Cl.mk 0 1)] [(ac r15.1)])].length) fun x16=>
 aa k (eQ k (Tm.mk r5.1 r5.2.1 r5.2.2.1 [] r5.2.2.2 (b9_5++[(Br.mk [(Cl.mk 0 1)] [(ac r15.1)])])) r15.2) fun r17=>
 ret ((ac r17.1),r17.2.1))
noncomputable def gM {S:Type} (k:Nat) (ret:Tm×Int→Option S) (a:Tm) (r5:Int×Int×ByteArray×List Tm) (sys:List (Br Tm)):Nat→Int→(List (Br Tm))→Int→Option S
 |0=>fun _ _ _=> .none
 |m+1=>fun b19000_0 b9_5 v29=>oQ k ret a r5 sys (gM k ret a r5 sys m) b19000_0 b9_5 v29
noncomputable def Hr {S:Type} (k:Nat) (ret:Tm×Int→Option S) (J0:(Int×Int×ByteArray×List Tm)→Int→(List (Br Tm))→Int→Option S) (t a:Tm) (sys:List (Br Tm)):Option S:=
 aa k (pa k sys) fun r1=>
 aa k (m9 k [(ac t),(ac a),(Tm.mk r1.1 r1.2.1 r1.2.2.1 [] r1.2.2.2.1 r1.2.2.2.2)]) fun r2=>
 aa k (hU k (ac t) 0 1 r2) fun r3=>
 aa k (hU k (ac a) 0 1 r3.2) fun r4=>
 aa k (hX k 15 [(ac r3.1),(ac r4.1)]) fun r5=>
 J0 r5 r4.2 ([]:List (Br Tm)) 0
noncomputable def yy {S:Type} (k:Nat) (t a:Tm) (sys:List (Br Tm)) (ret:Tm×Int→Option S):Option S:=Hr k ret (fun r5 b19000_0 b9_5 v29=>gM k ret a r5 sys k b19000_0 b9_5 v29) t a sys
def S9 {S:Type} (k:Nat) (ret:Tm×Int→Option S) (t:Tm) (a_e c0:Int):Option S:=
 ab (c0==0) (
 ab (!(a_e==0)) (
  ret ((Tm.mk 0 0 ByteArray.empty [] [] []),a_e)) (
  ret ((ac t),a_e))) (
 ab (!(c0==0)) (
  ret ((Tm.mk 0 0 ByteArray.empty [] [] []),c0)) (
  ret ((ac t),c0)))
noncomputable def fP {S:Type} (k:Nat) (t:Tm) (a_e c0:Int) (ret:Tm×Int→Option S):Option S:=S9 k ret t a_e c0
def S6 {S:Type} (k:Nat) (ret:Tm×Int→Option S) (t a:Tm) (sys:List (Br Tm)) (c0:Int):Option S:=
 aa k (dG k c0) fun r1=>
 ab (!r1) (
 ret ((Tm.mk 0 0 ByteArray.empty [] [] []),c0)) (
 aa k (yy k (ac t) (ac a) sys) fun r2=>
 aa k (fP k (ac r2.1) r2.2 c0) fun r3=>
 ret ((ac r3.1),r3.2))
noncomputable def y_ {S:Type} (k:Nat) (t a:Tm) (sys:List (Br Tm)) (c0:Int) (ret:Tm×Int→Option S):Option S:=S6 k ret t a sys c0
noncomputable def SU {S:Type} (k:Nat) (ret:Pan Int Tm→Option S) (c0:Int) (c1:Tm) (c2:Int):Option S:=
 dk k c0 0 (ac c1) (if 2000000000<c2 then 2000000000 else c2) 0 fun r2=>Pan.elim r2 (fun r2=>
 ret (.ok (ac r2))) (fun e3=>
 ret (.pan e3))
noncomputable def yY {S:Type} (k:Nat) (c0:Int) (c1:Tm) (c2:Int) (ret:Pan Int Tm→Option S):Option S:=SU k ret c0 c1 c2
def xb {S:Type} (k:Nat) (ret:Tm×Int→Option S) (c0:Int) (c1:Tm) (c2:Int) (numbers:List Int) (rec0:Int→Option S) (v19:Int):Option S:=
 ab (decide ((v19:Int)<(numbers.length:Int))) (
 Option.bind (af numbers v19) fun x2=>
 ab (decide ((x2:Int)<0)) (
  ret ((Tm.mk 0 0 ByteArray.empty [] [] []),2)) (
   rec0 (IntKind.wrap .i64 (v19+1)))) (
 aa k (yY k c0 (ac c1) c2) fun r4=>Pan.elim r4 (fun r4=>
  ret ((ac r4),0)) (fun e5=>
  ret ((Tm.mk 0 0 ByteArray.empty [] [] []),e5)))
noncomputable def nD {S:Type} (k:Nat) (ret:Tm×Int→Option S) (c0:Int) (c1:Tm) (c2:Int) (numbers:List Int):Nat→Int→Option S
 |0=>fun _=> .none
 |m+1=>fun v19=>xb k ret c0 c1 c2 numbers (nD k ret c0 c1 c2 numbers m) v19
def BR {S:Type} (k:Nat) (ret:Tm×Int→Option S) (J0:Int→Option S) (t:Tm) (numbers:List Int) (c0:Int) (c1:Tm) (c2:Int):Option S:=
 aa k (fe k (ac t)) fun r1=>
 ab (!(r1==0)) (
 ret ((Tm.mk 0 0 ByteArray.empty [] [] []),r1)) (
  J0 0)
noncomputable def y6 {S:Type} (k:Nat) (t:Tm) (numbers:List Int) (c0:Int) (c1:Tm) (c2:Int) (ret:Tm×Int→Option S):Option S:=BR k ret (fun v19=>nD k ret c0 c1 c2 numbers k v19) t numbers c0 c1 c2
noncomputable def HX {S:Type} (k:Nat) (ret:Tm×Int→Option S) (t:Tm) (a_from a_by:Int):Option S:=
 aa k (y6 k (ac t) [a_from,a_by,IntKind.wrap .i64 (1000000-a_by)] a_by (ac t) a_from) fun r1=>
 ret ((ac r1.1),r1.2)
noncomputable def pj {S:Type} (k:Nat) (t:Tm) (a_from a_by:Int) (ret:Tm×Int→Option S):Option S:=HX k ret t a_from a_by
def S3 {S:Type} (k:Nat) (ret:Tm×Int→Option S) (t:Tm) (vars dims c0:Int):Option S:=
 aa k (dG k c0) fun r1=>
 ab (!r1) (
 ret ((Tm.mk 0 0 ByteArray.empty [] [] []),c0)) (
 aa k (pj k (ac t) 1 vars) fun r2=>
 aa k (fP k (ac r2.1) r2.2 c0) fun r3=>
 aa k (dG k r3.2) fun r4=>
 ab (!r4) (
  ret ((Tm.mk 0 0 ByteArray.empty [] [] []),r3.2)) (
  aa k (lv k (ac r3.1) 0 dims) fun r5=>
  aa k (fP k (ac r5.1) r5.2 r3.2) fun r6=>
  ret ((ac r6.1),r6.2)))
noncomputable def y8 {S:Type} (k:Nat) (t:Tm) (vars dims c0:Int) (ret:Tm×Int→Option S):Option S:=S3 k ret t vars dims c0
abbrev dq (S:Type):=Tm→(Int→Option S)→Option S
noncomputable def IR {S:Type} (hd:dq S) (k:Nat) (ret:Bool×Int→Option S) (a_k:Tm) (p p' c0:Int):Option S:=
 hd (ac a_k) fun r1=>
 ret (true,IntKind.wrap .i64 (c0+r1))
noncomputable def ug {S:Type} (hd:dq S) (k:Nat) (a_k:Tm) (p p' c0:Int) (ret:Bool×Int→Option S):Option S:=IR hd k ret a_k p p' c0
def yj {S:Type} (hd:dq S) (k:Nat) (ret:Bool×Int→Option S) (t:Tm) (v42:Int) (x4:(Br Tm)) (more9:Int) (rec1:Int→Int→Int→Option S) (rec2:Int→Int→Option S) (e0_0'' v49:Int):Option S:=
 ab (decide ((v49:Int)<(x4.kids.length:Int))) (
 Option.bind (af x4.kids v49) fun x5=>
 aa k (ug hd k (ac x5) 0 more9 e0_0'') fun r6=>
 ab (!r6.1) (
  ret (false,r6.2)) (
   rec2 r6.2 (IntKind.wrap .i64 (v49+1)))) (
  rec1 e0_0'' (IntKind.wrap .i64 (v42+1)) more9)
noncomputable def n4 {S:Type} (hd:dq S) (k:Nat) (ret:Bool×Int→Option S) (rec1:Int→Int→Int→Option S) (t:Tm) (v42:Int) (x4:(Br Tm)) (more9:Int):Nat→Int→Int→Option S
 |0=>fun _ _=> .none
 |m+1=>fun e0_0'' v49=>yj hd k ret t v42 x4 more9 rec1 (n4 hd k ret rec1 t v42 x4 more9 m) e0_0'' v49
def tr {S:Type} (hd:dq S) (k:Nat) (ret:Bool×Int→Option S) (t:Tm) (J2:Int→(Br Tm)→Int→Int→Int→Option S) (rec1:Int→Int→Int→Option S) (e0_0' v42 more9:Int):Option S:=
 ab (decide ((v42:Int)<(t.sys.length:Int))) (
 Option.bind (af t.sys v42) fun x4=>
  J2 v42 x4 more9 e0_0' 0) (
 ret (true,e0_0'))
noncomputable def kM {S:Type} (hd:dq S) (k:Nat) (ret:Bool×Int→Option S) (t:Tm):Nat→Int→Int→Int→Option S
 |0=>fun _ _ _=> .none
 |m+1=>fun e0_0' v42 more9=>tr hd k ret t (fun v42 x4 more9 e0_0'' v49=>n4 hd k ret (kM hd k ret t m) t v42 x4 more9 k e0_0'' v49) (kM hd k ret t m) e0_0' v42 more9
def tq {S:Type} (hd:dq S) (k:Nat) (ret:Bool×Int→Option S) (t:Tm) (J1:Int→Int→Int→Option S) (rec0:Int→Int→Option S) (e0_0 v17:Int):Option S:=
 ab (decide ((v17:Int)<(t.kids.length:Int))) (
 Option.bind (af t.kids v17) fun x1=>
 aa k (gI k t.kind v17) fun r2=>
 aa k (ug hd k (ac x1) r2.1 r2.2 e0_0) fun r3=>
 ab (!r3.1) (
  ret (false,r3.2)) (
   rec0 r3.2 (IntKind.wrap .i64 (v17+1)))) (
 ab (t.kind==15) (
   J1 e0_0 0 1) (
   J1 e0_0 0 0))
noncomputable def qT {S:Type} (hd:dq S) (k:Nat) (ret:Bool×Int→Option S) (t:Tm):Nat→Int→Int→Option S
 |0=>fun _ _=> .none
 |m+1=>fun e0_0 v17=>tq hd k ret t (fun e0_0' v42 more9=>kM hd k ret t k e0_0' v42 more9) (qT hd k ret t m) e0_0 v17
noncomputable def IW {S:Type} (hd:dq S) (k:Nat) (ret:Bool×Int→Option S) (J0:Int→Int→Option S) (t:Tm) (c0:Int):Option S:=
 J0 c0 0
noncomputable def DY {S:Type} (hd:dq S) (k:Nat) (t:Tm) (c0:Int) (ret:Bool×Int→Option S):Option S:=IW hd k ret (fun e0_0 v17=>qT hd k ret t k e0_0 v17) t c0
noncomputable def TS {S:Type} (hd:dq S) (k:Nat) (ret:Int→Option S) (t:Tm):Option S:=
 aa k (DY hd k (ac t) 1) fun r1=>
 ret r1.2
noncomputable def j6 {S:Type}:Nat→Tm→(Int→Option S)→Option S
 |0=>fun _ _=> .none
 |k+1=>fun t ret=>TS (j6 k) k ret t
abbrev fK (S:Type):=Tm→Int→(Int→Option S)→Option S
def xh {S:Type} (hd:fK S) (k:Nat) (ret:Int→Option S) (a_n:Int) (t:Tm) (v49:Int) (x4:(Br Tm)) (rec2:Int→Int→Option S) (rec3:Int→Int→Option S) (sum5'' v56:Int):Option S:=
 ab (decide ((v56:Int)<(x4.kids.length:Int))) (
 Option.bind (af x4.kids v56) fun x5=>
 hd (ac x5) a_n fun r6=>
  rec3 (IntKind.wrap .i64 (sum5''+r6)) (IntKind.wrap .i64 (v56+1))) (
  rec2 (IntKind.wrap .i64 (v49+1)) sum5'')
noncomputable def nG {S:Type} (hd:fK S) (k:Nat) (ret:Int→Option S) (rec2:Int→Int→Option S) (a_n:Int) (t:Tm) (v49:Int) (x4:(Br Tm)):Nat→Int→Int→Option S
 |0=>fun _ _=> .none
 |m+1=>fun sum5'' v56=>xh hd k ret a_n t v49 x4 rec2 (nG hd k ret rec2 a_n t v49 x4 m) sum5'' v56
def sE {S:Type} (hd:fK S) (k:Nat) (ret:Int→Option S) (a_n:Int) (t:Tm) (J3:Int→(Br Tm)→Int→Int→Option S) (rec2:Int→Int→Option S) (v49 sum5':Int):Option S:=
 ab (decide ((v49:Int)<(t.sys.length:Int))) (
 Option.bind (af t.sys v49) fun x4=>
  J3 v49 x4 sum5' 0) (
 ret sum5')
noncomputable def ku {S:Type} (hd:fK S) (k:Nat) (ret:Int→Option S) (a_n:Int) (t:Tm):Nat→Int→Int→Option S
 |0=>fun _ _=> .none
 |m+1=>fun v49 sum5'=>sE hd k ret a_n t (fun v49 x4 sum5'' v56=>nG hd k ret (ku hd k ret a_n t m) a_n t v49 x4 k sum5'' v56) (ku hd k ret a_n t m) v49 sum5'
def sD {S:Type} (hd:fK S) (k:Nat) (ret:Int→Option S) (t:Tm) (a_n:Int) (J2:Int→Int→Option S) (rec1:Int→Int→Option S) (v26 sum5:Int):Option S:=
 ab (decide ((v26:Int)<(t.kids.length:Int))) (
 Option.bind (af t.kids v26) fun x1=>
 aa k (gI k t.kind v26) fun r2=>
 hd (ac x1) (IntKind.wrap .i64 (a_n+r2.1)) fun r3=>
  rec1 (IntKind.wrap .i64 (v26+1)) (IntKind.wrap .i64 (sum5+r3))) (
  J2 0 sum5)
noncomputable def nF {S:Type} (hd:fK S) (k:Nat) (ret:Int→Option S) (t:Tm) (a_n:Int):Nat→Int→Int→Option S
 |0=>fun _ _=> .none
 |m+1=>fun v26 sum5=>sD hd k ret t a_n (fun v49 sum5'=>ku hd k ret a_n t k v49 sum5') (nF hd k ret t a_n m) v26 sum5
noncomputable def xg {S:Type} (hd:fK S) (k:Nat) (ret:Int→Option S) (t:Tm) (a_n:Int) (J1:Int→Int→Option S):Option S:=
 J1 0 0
noncomputable def Ak {S:Type} (hd:fK S) (k:Nat) (ret:Int→Option S) (t:Tm) (a_n:Int):Nat→Option S
 |0=> .none
 |_+1=>xg hd k ret t a_n (fun v26 sum5=>nF hd k ret t a_n k v26 sum5)
def BU {S:Type} (hd:fK S) (k:Nat) (ret:Int→Option S) (J0:Option S) (t:Tm) (a_n:Int):Option S:=
 ab (t.kind==1) (
 ab (t.n==a_n) (
  ret 1) (
   J0)) (
  J0)
noncomputable def gz {S:Type}:Nat→Tm→Int→(Int→Option S)→Option S
 |0=>fun _ _ _=> .none
 |k+1=>fun t a_n ret=>BU (gz k) k ret (Ak (gz k) k ret t a_n k) t a_n
def Ta {S:Type} (k:Nat) (ret:Int→Option S) (t:Tm):Option S:=
 ab (t.kind==15) (
 ret 1) (
 ret 0)
noncomputable def ze {S:Type} (k:Nat) (t:Tm) (ret:Int→Option S):Option S:=Ta k ret t
abbrev gX (S:Type):=Tm→Int→Tm→Int→Int→(Pan Int Tm→Option S)→Option S
def xj {S:Type} (hd:gX S) (k:Nat) (ret:Pan Int Tm→Option S) (t:Tm) (b13_4:List Tm) (b13_5:List (Br Tm)) (x9:(Br Tm)) (u:Tm) (a_n vars dims v99:Int) (rec1:(List (Br Tm))→Int→Option S) (rec2:(List Tm)→Int→Option S) (b20_1:List Tm) (v110:Int):Option S:=
 ab (decide ((v110:Int)<(x9.kids.length:Int))) (
 Option.bind (af x9.kids v110) fun x11=>
 aa k (ze k (ac t)) fun r12=>
 hd (ac x11) a_n (ac u) vars (IntKind.wrap .i64 (dims+r12)) fun r14=>Pan.elim r14 (fun r14=>
  Option.bind (aw 1099511627776 b20_1.length [(ac r14)].length) fun x16=>
   rec2 (b20_1++[(ac r14)]) (IntKind.wrap .i64 (v110+1))) (fun e15=>
  ret (.pan e15))) (
 Option.bind (aw 1099511627776 b13_5.length [(Br.mk x9.face b20_1)].length) fun x17=>
  rec1 (b13_5++[(Br.mk x9.face b20_1)]) (IntKind.wrap .i64 (v99+1)))
noncomputable def nH {S:Type} (hd:gX S) (k:Nat) (ret:Pan Int Tm→Option S) (rec1:(List (Br Tm))→Int→Option S) (t:Tm) (b13_4:List Tm) (b13_5:List (Br Tm)) (x9:(Br Tm)) (u:Tm) (a_n vars dims v99:Int):Nat→(List Tm)→Int→Option S
 |0=>fun _ _=> .none
 |m+1=>fun b20_1 v110=>xj hd k ret t b13_4 b13_5 x9 u a_n vars dims v99 rec1 (nH hd k ret rec1 t b13_4 b13_5 x9 u a_n vars dims v99 m) b20_1 v110
def sG {S:Type} (hd:gX S) (k:Nat) (ret:Pan Int Tm→Option S) (t:Tm) (b13_4:List Tm) (u:Tm) (a_n vars dims:Int) (J2:(List (Br Tm))→(Br Tm)→Int→(List Tm)→Int→Option S) (rec1:(List (Br Tm))→Int→Option S) (b13_5:List (Br Tm)) (v99:Int):Option S:=
 ab (decide ((v99:Int)<(t.sys.length:Int))) (
 Option.bind (af t.sys v99) fun x9=>
 Option.bind (aw 1099511627776 0 x9.face.length) fun x10=>
  J2 b13_5 x9 v99 ([]:List Tm) 0) (
 ret (.ok (Tm.mk t.kind 0 t.name t.r b13_4 b13_5)))
noncomputable def kw {S:Type} (hd:gX S) (k:Nat) (ret:Pan Int Tm→Option S) (t:Tm) (b13_4:List Tm) (u:Tm) (a_n vars dims:Int):Nat→(List (Br Tm))→Int→Option S
 |0=>fun _ _=> .none
 |m+1=>fun b13_5 v99=>sG hd k ret t b13_4 u a_n vars dims (fun b13_5 x9 v99 b20_1 v110=>nH hd k ret (kw hd k ret t b13_4 u a_n vars dims m) t b13_4 b13_5 x9 u a_n vars dims v99 k b20_1 v110) (kw hd k ret t b13_4 u a_n vars dims m) b13_5 v99
def sF {S:Type} (hd:gX S) (k:Nat) (ret:Pan Int Tm→Option S) (t u:Tm) (a_n vars dims:Int) (J1:(List Tm)→(List (Br Tm))→Int→Option S) (rec0:(List Tm)→Int→Option S) (b13_4:List Tm) (v68:Int):Option S:=
 ab (decide ((v68:Int)<(t.kids.length:Int))) (
 Option.bind (af t.kids v68) fun x3=>
 aa k (gI k t.kind v68) fun r4=>
 hd (ac x3) a_n (ac u) (IntKind.wrap .i64 (vars+r4.1)) (IntKind.wrap .i64 (dims+r4.2)) fun r6=>Pan.elim r6 (fun r6=>
  Option.bind (aw 1099511627776 b13_4.length [(ac r6)].length) fun x8=>
   rec0 (b13_4++[(ac r6)]) (IntKind.wrap .i64 (v68+1))) (fun e7=>
  ret (.pan e7))) (
  J1 b13_4 ([]:List (Br Tm)) 0)
noncomputable def qj {S:Type} (hd:gX S) (k:Nat) (ret:Pan Int Tm→Option S) (t u:Tm) (a_n vars dims:Int):Nat→(List Tm)→Int→Option S
 |0=>fun _ _=> .none
 |m+1=>fun b13_4 v68=>sF hd k ret t u a_n vars dims (fun b13_4 b13_5 v99=>kw hd k ret t b13_4 u a_n vars dims k b13_5 v99) (qj hd k ret t u a_n vars dims m) b13_4 v68
def H2 {S:Type} (hd:gX S) (k:Nat) (ret:Pan Int Tm→Option S) (J0:(List Tm)→Int→Option S) (t:Tm) (a_n:Int) (u:Tm) (vars dims:Int):Option S:=
 ab (t.kind==1) (
 ab (t.n==(IntKind.wrap .i64 (a_n+vars))) (
  aa k (lu k (ac u) vars dims) fun r1=>
  ab (!(r1.2==0)) (
  ret (.pan r1.2)) (
  ret (.ok (ac r1.1)))) (
  ab (decide ((t.n:Int)>(IntKind.wrap .i64 (a_n+vars)))) (
  ret (.ok (Tm.mk 1 (IntKind.wrap .i64 (t.n-1)) ByteArray.empty [] [] []))) (
  ret (.ok (ac t))))) (
 Option.bind (aw 1099511627776 0 t.r.length) fun x2=>
  J0 ([]:List Tm) 0)
noncomputable def gA {S:Type}:Nat→Tm→Int→Tm→Int→Int→(Pan Int Tm→Option S)→Option S
 |0=>fun _ _ _ _ _ _=> .none
 |k+1=>fun t a_n u vars dims ret=>H2 (gA k) k ret (fun b13_4 v68=>qj (gA k) k ret t u a_n vars dims k b13_4 v68) t a_n u vars dims
abbrev dp (S:Type):=Tm→(Int→Option S)→Option S
noncomputable def IQ {S:Type} (hd:dp S) (k:Nat) (ret:Bool×Int→Option S) (a_k:Tm) (p p' c0:Int):Option S:=
 hd (ac a_k) fun r1=>
 ret (true,if r1>c0 then r1 else c0)
noncomputable def uf {S:Type} (hd:dp S) (k:Nat) (a_k:Tm) (p p' c0:Int) (ret:Bool×Int→Option S):Option S:=IQ hd k ret a_k p p' c0
def yk {S:Type} (hd:dp S) (k:Nat) (ret:Bool×Int→Option S) (t:Tm) (v42:Int) (x4:(Br Tm)) (more9:Int) (rec1:Int→Int→Int→Option S) (rec2:Int→Int→Option S) (e0_0'' v49:Int):Option S:=
 ab (decide ((v49:Int)<(x4.kids.length:Int))) (
 Option.bind (af x4.kids v49) fun x5=>
 aa k (uf hd k (ac x5) 0 more9 e0_0'') fun r6=>
 ab (!r6.1) (
  ret (false,r6.2)) (
   rec2 r6.2 (IntKind.wrap .i64 (v49+1)))) (
  rec1 e0_0'' (IntKind.wrap .i64 (v42+1)) more9)
noncomputable def n5 {S:Type} (hd:dp S) (k:Nat) (ret:Bool×Int→Option S) (rec1:Int→Int→Int→Option S) (t:Tm) (v42:Int) (x4:(Br Tm)) (more9:Int):Nat→Int→Int→Option S
 |0=>fun _ _=> .none
 |m+1=>fun e0_0'' v49=>yk hd k ret t v42 x4 more9 rec1 (n5 hd k ret rec1 t v42 x4 more9 m) e0_0'' v49
def tu {S:Type} (hd:dp S) (k:Nat) (ret:Bool×Int→Option S) (t:Tm) (J2:Int→(Br Tm)→Int→Int→Int→Option S) (rec1:Int→Int→Int→Option S) (e0_0' v42 more9:Int):Option S:=
 ab (decide ((v42:Int)<(t.sys.length:Int))) (
 Option.bind (af t.sys v42) fun x4=>
  J2 v42 x4 more9 e0_0' 0) (
 ret (true,e0_0'))
noncomputable def kN {S:Type} (hd:dp S) (k:Nat) (ret:Bool×Int→Option S) (t:Tm):Nat→Int→Int→Int→Option S
 |0=>fun _ _ _=> .none
 |m+1=>fun e0_0' v42 more9=>tu hd k ret t (fun v42 x4 more9 e0_0'' v49=>n5 hd k ret (kN hd k ret t m) t v42 x4 more9 k e0_0'' v49) (kN hd k ret t m) e0_0' v42 more9
def tt {S:Type} (hd:dp S) (k:Nat) (ret:Bool×Int→Option S) (t:Tm) (J1:Int→Int→Int→Option S) (rec0:Int→Int→Option S) (e0_0 v17:Int):Option S:=
 ab (decide ((v17:Int)<(t.kids.length:Int))) (
 Option.bind (af t.kids v17) fun x1=>
 aa k (gI k t.kind v17) fun r2=>
 aa k (uf hd k (ac x1) r2.1 r2.2 e0_0) fun r3=>
 ab (!r3.1) (
  ret (false,r3.2)) (
   rec0 r3.2 (IntKind.wrap .i64 (v17+1)))) (
 ab (t.kind==15) (
   J1 e0_0 0 1) (
   J1 e0_0 0 0))
noncomputable def qU {S:Type} (hd:dp S) (k:Nat) (ret:Bool×Int→Option S) (t:Tm):Nat→Int→Int→Option S
 |0=>fun _ _=> .none
 |m+1=>fun e0_0 v17=>tt hd k ret t (fun e0_0' v42 more9=>kN hd k ret t k e0_0' v42 more9) (qU hd k ret t m) e0_0 v17
noncomputable def IX {S:Type} (hd:dp S) (k:Nat) (ret:Bool×Int→Option S) (J0:Int→Int→Option S) (t:Tm) (c0:Int):Option S:=
 J0 c0 0
noncomputable def DZ {S:Type} (hd:dp S) (k:Nat) (t:Tm) (c0:Int) (ret:Bool×Int→Option S):Option S:=IX hd k ret (fun e0_0 v17=>qU hd k ret t k e0_0 v17) t c0
noncomputable def TO {S:Type} (hd:dp S) (k:Nat) (ret:Int→Option S) (t:Tm):Option S:=
 aa k (DZ hd k (ac t) 0) fun r1=>
 ret (IntKind.wrap .i64 (r1.2+1))
noncomputable def j5 {S:Type}:Nat→Tm→(Int→Option S)→Option S
 |0=>fun _ _=> .none
 |k+1=>fun t ret=>TO (j5 k) k ret t
def S_ {S:Type} (k:Nat) (ret:Tm×Int→Option S) (t:Tm) (a_n:Int) (u:Tm):Option S:=
 aa k (fe k (ac t)) fun r1=>
 ab (!(r1==0)) (
 ret ((Tm.mk 0 0 ByteArray.empty [] [] []),r1)) (
 aa k (fe k (ac u)) fun r2=>
 ab (!(r2==0)) (
  ret ((Tm.mk 0 0 ByteArray.empty [] [] []),r2)) (
  ab (decide ((a_n:Int)<0)) (
  ret ((Tm.mk 0 0 ByteArray.empty [] [] []),2)) (
  j6 k (ac t) fun r3=>
  gz k (ac t) (if 1099511627776<a_n then 1099511627776 else a_n) fun r4=>
  j6 k (ac u) fun r5=>
  ab (decide ((IntKind.wrap .i64 (r3+(IntKind.wrap .i64 (r4*(IntKind.wrap .i64 (r5-1))))):Int)>20000)) (
   ret ((Tm.mk 0 0 ByteArray.empty [] [] []),221)) (
   gA k (ac t) (if 1099511627776<a_n then 1099511627776 else a_n) (ac u) 0 0 fun r7=>Pan.elim r7 (fun r7=>
   j5 k (ac r7) fun r9=>
   ab (decide ((r9:Int)>200)) (
    ret ((Tm.mk 0 0 ByteArray.empty [] [] []),62)) (
    ret ((ac r7),0))) (fun e8=>
   ret ((Tm.mk 0 0 ByteArray.empty [] [] []),e8))))))
noncomputable def zd {S:Type} (k:Nat) (t:Tm) (a_n:Int) (u:Tm) (ret:Tm×Int→Option S):Option S:=S_ k ret t a_n u
def S7 {S:Type} (k:Nat) (ret:Tm×Int→Option S) (t u:Tm) (c0:Int):Option S:=
 aa k (dG k c0) fun r1=>
 ab (!r1) (
 ret ((Tm.mk 0 0 ByteArray.empty [] [] []),c0)) (
 aa k (zd k (ac t) 0 (ac u)) fun r2=>
 aa k (fP k (ac r2.1) r2.2 c0) fun r3=>
 ret ((ac r3.1),r3.2))
noncomputable def za {S:Type} (k:Nat) (t u:Tm) (c0:Int) (ret:Tm×Int→Option S):Option S:=S7 k ret t u c0
def S8 {S:Type} (k:Nat) (ret:Tm×Int→Option S) (t:Tm) (vars dims c0:Int):Option S:=
 aa k (dG k c0) fun r1=>
 ab (!r1) (
 ret ((Tm.mk 0 0 ByteArray.empty [] [] []),c0)) (
 aa k (lu k (ac t) vars dims) fun r2=>
 aa k (fP k (ac r2.1) r2.2 c0) fun r3=>
 ret ((ac r3.1),r3.2))
noncomputable def zb {S:Type} (k:Nat) (t:Tm) (vars dims c0:Int) (ret:Tm×Int→Option S):Option S:=S8 k ret t vars dims c0
noncomputable def H1 {S:Type} (k:Nat) (ret:Int×Int×ByteArray×List Tm→Option S) (kind:Int) (kids:List Tm):Option S:=
 ret (kind,0,ByteArray.empty,kids)
noncomputable def zc {S:Type} (k:Nat) (kind:Int) (kids:List Tm) (ret:Int×Int×ByteArray×List Tm→Option S):Option S:=H1 k ret kind kids
def oS {S:Type} (k:Nat) (ret:Int×Int×ByteArray×List Tm×Int→Option S) (c0:Tm) (c1:Int) (a_x:Tm) (a_by:Int) (rec0:Int→(List Tm)→Int→Option S) (e3_0:Int) (kids10:List Tm) (v20:Int):Option S:=
 ab (decide ((v20:Int)<((List.drop (Int.toNat 1) (List.take (Int.toNat c1) c0.kids)).length:Int))) (
 Option.bind (af (List.drop (Int.toNat 1) (List.take (Int.toNat c1) c0.kids)) v20) fun x2=>
 ab (decide ((a_by:Int)>0)) (
  aa k (zb k (ac x2) 0 a_by e3_0) fun r3=>
  Option.bind (aw 1099511627776 kids10.length [(ac r3.1)].length) fun x4=>
   rec0 r3.2 (kids10++[(ac r3.1)]) (IntKind.wrap .i64 (v20+1))) (
  Option.bind (aw 1099511627776 kids10.length [(ac x2)].length) fun x5=>
   rec0 e3_0 (kids10++[(ac x2)]) (IntKind.wrap .i64 (v20+1)))) (
 Option.bind (aw 1099511627776 kids10.length [(ac a_x)].length) fun x6=>
 aa k (zc k c0.kind (kids10++[(ac a_x)])) fun r7=>
 ret (r7.1,r7.2.1,r7.2.2.1,r7.2.2.2,e3_0))
noncomputable def kq {S:Type} (k:Nat) (ret:Int×Int×ByteArray×List Tm×Int→Option S) (c0:Tm) (c1:Int) (a_x:Tm) (a_by:Int):Nat→Int→(List Tm)→Int→Option S
 |0=>fun _ _ _=> .none
 |m+1=>fun e3_0 kids10 v20=>oS k ret c0 c1 a_x a_by (kq k ret c0 c1 a_x a_by m) e3_0 kids10 v20
noncomputable def BP {S:Type} (k:Nat) (ret:Int×Int×ByteArray×List Tm×Int→Option S) (J0:Int→(List Tm)→Int→Option S) (p:Tm) (a_by:Int) (a_x c0:Tm) (c1 c3:Int):Option S:=
 Option.bind (bR (0≤(1:Int)∧(1:Int)≤c1∧c1≤(c0.kids.length:Int))) fun x1=>
 J0 c3 [(ac p)] 0
noncomputable def nc {S:Type} (k:Nat) (p:Tm) (a_by:Int) (a_x c0:Tm) (c1 c3:Int) (ret:Int×Int×ByteArray×List Tm×Int→Option S):Option S:=BP k ret (fun e3_0 kids10 v20=>kq k ret c0 c1 a_x a_by k e3_0 kids10 v20) p a_by a_x c0 c1 c3
noncomputable def H0 {S:Type} (k:Nat) (ret:(Br Tm)→Option S) (f:List Cl) (kids:List Tm):Option S:=
 ret (Br.mk f kids)
noncomputable def nf {S:Type} (k:Nat) (f:List Cl) (kids:List Tm) (ret:(Br Tm)→Option S):Option S:=H0 k ret f kids
def Sb {S:Type} (k:Nat) (ret:Tm×Int→Option S) (line:Tm) (c0:Int):Option S:=
 aa k (de k c0) fun r1=>
 ab (!r1) (
 ret ((Tm.mk 0 0 ByteArray.empty [] [] []),c0)) (
 aa k (pg k) fun r2=>
 aa k (m_ k (ac line) 0 r2) fun r3=>
 aa k (iZ k r3.2 c0) fun r4=>
 ret ((ac r3.1),r4))
noncomputable def yz {S:Type} (k:Nat) (line:Tm) (c0:Int) (ret:Tm×Int→Option S):Option S:=Sb k ret line c0
def oP {S:Type} (k:Nat) (ret:Tm×Int→Option S) (r3:Tm) (r9:Int×Int×ByteArray×List Tm) (r6:Tm) (rec0:Int→(List (Br Tm))→Int→Option S) (b19000_0:Int) (b9_5:List (Br Tm)) (v38:Int):Option S:=
 ab (decide ((v38:Int)<(r6.sys.length:Int))) (
 Option.bind (af r6.sys v38) fun x10=>
 aa k (de k b19000_0) fun r11=>
 ab (!r11) (
  aa k (eQ k (Tm.mk r9.1 r9.2.1 r9.2.2.1 [] r9.2.2.2 b9_5) b19000_0) fun r12=>
  ret ((ac r12.1),r12.2.1)) (
  aa k (lr k (ac r3) [(Cl.mk 1 0),(Cl.mk 2 0)] b19000_0) fun r13=>
  Option.bind (af x10.kids 0) fun x14=>
  aa k (hX k 14 [(ac r13.1),(ac x14)]) fun r15=>
  Option.bind (aw 1099511627776 b9_5.length [(Br.mk x10.face [(Tm.mk r15.1 r15.2.1 r15.2.2.1 [(Cl.mk 1 0)] r15.2.2.2 [])])].length) fun x16=>
   rec0 r13.2 (b9_5++[(Br.mk x10.face [(Tm.mk r15.1 r15.2.1 r15.2.2.1 [(Cl.mk 1 0)] r15.2.2.2 [])])]) (IntKind.wrap .i64 (v38+1)))) (
 aa k (eQ k (Tm.mk r9.1 r9.2.1 r9.2.2.1 [] r9.2.2.2 b9_5) b19000_0) fun r17=>
 ret ((ac r17.1),r17.2.1))
noncomputable def ko {S:Type} (k:Nat) (ret:Tm×Int→Option S) (r3:Tm) (r9:Int×Int×ByteArray×List Tm) (r6:Tm):Nat→Int→(List (Br Tm))→Int→Option S
 |0=>fun _ _ _=> .none
 |m+1=>fun b19000_0 b9_5 v38=>oP k ret r3 r9 r6 (ko k ret r3 r9 r6 m) b19000_0 b9_5 v38
noncomputable def Hq {S:Type} (k:Nat) (ret:Tm×Int→Option S) (J0:Tm→(Int×Int×ByteArray×List Tm)→Tm→Int→(List (Br Tm))→Int→Option S) (line a:Tm) (sys:List (Br Tm)):Option S:=
 aa k (pa k sys) fun r1=>
 aa k (m9 k [(ac line),(ac a),(Tm.mk r1.1 r1.2.1 r1.2.2.1 [] r1.2.2.2.1 r1.2.2.2.2)]) fun r2=>
 dJ k (ac line) fun r3=>
 dJ k (ac a) fun r4=>
 aa k (pa k sys) fun r5=>
 dJ k (Tm.mk r5.1 r5.2.1 r5.2.2.1 [] r5.2.2.2.1 r5.2.2.2.2) fun r6=>
 aa k (yz k (ac r3) r2) fun r7=>
 aa k (hX k 14 [(ac r3),(ac r4)]) fun r8=>
 aa k (hX k 15 [(ac r7.1),(Tm.mk r8.1 r8.2.1 r8.2.2.1 [] r8.2.2.2 [])]) fun r9=>
 J0 r3 r9 r6 r7.2 ([]:List (Br Tm)) 0
noncomputable def yx {S:Type} (k:Nat) (line a:Tm) (sys:List (Br Tm)) (ret:Tm×Int→Option S):Option S:=Hq k ret (fun r3 r9 r6 b19000_0 b9_5 v38=>ko k ret r3 r9 r6 k b19000_0 b9_5 v38) line a sys
def S4 {S:Type} (k:Nat) (ret:Tm×Int→Option S) (line a:Tm) (sys:List (Br Tm)) (c0:Int):Option S:=
 aa k (dG k c0) fun r1=>
 ab (!r1) (
 ret ((Tm.mk 0 0 ByteArray.empty [] [] []),c0)) (
 aa k (yx k (ac line) (ac a) sys) fun r2=>
 aa k (fP k (ac r2.1) r2.2 c0) fun r3=>
 ret ((ac r3.1),r3.2))
noncomputable def y9 {S:Type} (k:Nat) (line a:Tm) (sys:List (Br Tm)) (c0:Int) (ret:Tm×Int→Option S):Option S:=S4 k ret line a sys c0
noncomputable def S5 {S:Type} (k:Nat) (ret:Tm×Bool×Int×Int→Option S) (t:Tm) (c0:Int):Option S:=
 aa k (fe k (ac t)) fun r1=>
 aa k (fP k (ac t) r1 c0) fun r2=>
 dJ k (ac r2.1) fun r3=>
 aa k (dG k r2.2) fun r4=>
 ret ((ac r3),r4,r2.2,r2.2)
noncomputable def ly {S:Type} (k:Nat) (t:Tm) (c0:Int) (ret:Tm×Bool×Int×Int→Option S):Option S:=S5 k ret t c0
def oR {S:Type} (k:Nat) (ret:Tm×Bool×Int→Option S) (r3:Tm) (r9 r10:Tm×Int) (r13:Int×Int×ByteArray×List Tm×Int) (t x4:Tm) (rec1:Int→(List (Br Tm))→Int→Option S) (b53_0:Int) (sys14:List (Br Tm)) (v90:Int):Option S:=
 ab (decide ((v90:Int)<(x4.sys.length:Int))) (
 Option.bind (af x4.sys v90) fun x14=>
 Option.bind (af x14.kids 0) fun x15=>
 aa k (nc k (ac r9.1) 1 (ac x15) (ac r3) (IntKind.wrap .i64 ((t.kids.length:Int)-1)) b53_0) fun r16=>
 aa k (nf k x14.face [(Tm.mk r16.1 r16.2.1 r16.2.2.1 [] r16.2.2.2.1 [])]) fun r17=>
 Option.bind (aw 1099511627776 sys14.length [r17].length) fun x18=>
  rec1 r16.2.2.2.2 (sys14++[r17]) (IntKind.wrap .i64 (v90+1))) (
 aa k (y9 k (ac r10.1) (Tm.mk r13.1 r13.2.1 r13.2.2.1 [] r13.2.2.2.1 []) sys14 b53_0) fun r19=>
 aa k (ly k (ac r19.1) r19.2) fun r20=>
 ret ((ac r20.1),r20.2.1,r20.2.2.1))
noncomputable def fX {S:Type} (k:Nat) (ret:Tm×Bool×Int→Option S) (r3:Tm) (r9 r10:Tm×Int) (r13:Int×Int×ByteArray×List Tm×Int) (t x4:Tm):Nat→Int→(List (Br Tm))→Int→Option S
 |0=>fun _ _ _=> .none
 |m+1=>fun b53_0 sys14 v90=>oR k ret r3 r9 r10 r13 t x4 (fX k ret r3 r9 r10 r13 t x4 m) b53_0 sys14 v90
noncomputable def w_ {S:Type} (k:Nat) (ret:Tm×Bool×Int→Option S) (t:Tm) (J1:Tm→(Tm×Int)→(Tm×Int)→(Int×Int×ByteArray×List Tm×Int)→Tm→Int→(List (Br Tm))→Int→Option S):Option S:=
 dJ k (ac t) fun r3=>
 Option.bind (af r3.kids (IntKind.wrap .i64 ((t.kids.length:Int)-1))) fun x4=>
 Option.bind (af x4.kids 0) fun x5=>
 Option.bind (af x4.kids 1) fun x6=>
 aa k (y_ k (ac x5) (ac x6) x4.sys 0) fun r7=>
 Option.bind (af r3.kids 0) fun x8=>
 aa k (y8 k (ac x8) 0 1 r7.2) fun r9=>
 aa k (za k (ac r9.1) (ac r7.1) r9.2) fun r10=>
 Option.bind (af r3.kids 0) fun x11=>
 Option.bind (af x4.kids 1) fun x12=>
 aa k (nc k (ac x11) 0 (ac x12) (ac r3) (IntKind.wrap .i64 ((t.kids.length:Int)-1)) r10.2) fun r13=>
 J1 r3 r9 r10 r13 x4 r13.2.2.2.2 ([]:List (Br Tm)) 0
noncomputable def l6 {S:Type} (k:Nat) (ret:Tm×Bool×Int→Option S) (t:Tm):Nat→Option S
 |0=> .none
 |_+1=>w_ k ret t (fun r3 r9 r10 r13 x4 b53_0 sys14 v90=>fX k ret r3 r9 r10 r13 t x4 k b53_0 sys14 v90)
def HU {S:Type} (k:Nat) (ret:Tm×Bool×Int→Option S) (J0:Option S) (t:Tm):Option S:=
 aa k (fe k (ac t)) fun r1=>
 ab (!(r1==0)) (
 ret ((Tm.mk 0 0 ByteArray.empty [] [] []),false,r1)) (
 ab (!(t.kind==22)) (
  ab (!(t.kind==27)) (
  ret ((Tm.mk 0 0 ByteArray.empty [] [] []),false,0)) (
  Option.bind (af t.kids (IntKind.wrap .i64 ((t.kids.length:Int)-1))) fun x2=>
  ab (!(x2.kind==15)) (
   ret ((Tm.mk 0 0 ByteArray.empty [] [] []),false,0)) (
     J0))) (
  Option.bind (af t.kids (IntKind.wrap .i64 ((t.kids.length:Int)-1))) fun x21=>
  ab (!(x21.kind==15)) (
  ret ((Tm.mk 0 0 ByteArray.empty [] [] []),false,0)) (
    J0)))
noncomputable def tL {S:Type} (k:Nat) (t:Tm) (ret:Tm×Bool×Int→Option S):Option S:=HU k ret (l6 k ret t k) t
noncomputable def akI {S:Type} (k:Nat) (ret:Int×Int×ByteArray×List Cl×List Tm→Option S) (kind:Int) (a_r:List Cl) (kids:List Tm):Option S:=
 ret (kind,0,ByteArray.empty,a_r,kids)
noncomputable def tO {S:Type} (k:Nat) (kind:Int) (a_r:List Cl) (kids:List Tm) (ret:Int×Int×ByteArray×List Cl×List Tm→Option S):Option S:=akI k ret kind a_r kids
def akG {S:Type} (k:Nat) (ret:Tm×Int→Option S) (t:Tm) (a_r:List Cl) (c0:Int):Option S:=
 aa k (dG k c0) fun r1=>
 ab (!r1) (
 ret ((Tm.mk 0 0 ByteArray.empty [] [] []),c0)) (
 aa k (m_ k (ac t) 0 a_r) fun r2=>
 aa k (fP k (ac r2.1) r2.2 c0) fun r3=>
 ret ((ac r3.1),r3.2))
noncomputable def JL {S:Type} (k:Nat) (t:Tm) (a_r:List Cl) (c0:Int) (ret:Tm×Int→Option S):Option S:=akG k ret t a_r c0
noncomputable def akD {S:Type} (k:Nat) (ret:Tm×Int→Option S) (t:Tm) (c0:Int):Option S:=
 aa k (pg k) fun r1=>
 aa k (JL k (ac t) r1 c0) fun r2=>
 ret ((ac r2.1),r2.2)
noncomputable def JI {S:Type} (k:Nat) (t:Tm) (c0:Int) (ret:Tm×Int→Option S):Option S:=akD k ret t c0
def akF {S:Type} (k:Nat) (ret:List Cl×Int→Option S) (f:List Cl) (a_by c0:Int):Option S:=
 aa k (dG k c0) fun r1=>
 ab (!r1) (
 ret (([]:List Cl),c0)) (
 aa k (jV k f 0 a_by) fun r2=>
 aa k (fP k (Tm.mk 0 0 ByteArray.empty [] [] []) r2.2 c0) fun r3=>
 ret (r2.1,r3.2))
noncomputable def JK {S:Type} (k:Nat) (f:List Cl) (a_by c0:Int) (ret:List Cl×Int→Option S):Option S:=akF k ret f a_by c0
def akE {S:Type} (k:Nat) (ret:Tm×Int→Option S) (t:Tm) (a_by c0:Int):Option S:=
 aa k (dG k c0) fun r1=>
 ab (!r1) (
 ret ((Tm.mk 0 0 ByteArray.empty [] [] []),c0)) (
 aa k (lv k (ac t) 1 a_by) fun r2=>
 aa k (fP k (ac r2.1) r2.2 c0) fun r3=>
 ret ((ac r3.1),r3.2))
noncomputable def JJ {S:Type} (k:Nat) (t:Tm) (a_by c0:Int) (ret:Tm×Int→Option S):Option S:=akE k ret t a_by c0
noncomputable def akH {S:Type} (k:Nat) (ret:Int×Int×ByteArray×List Tm×List (Br Tm)→Option S) (kind:Int) (l:List (Br Tm)) (kids:List Tm):Option S:=
 ret (kind,0,ByteArray.empty,kids,l)
noncomputable def JM {S:Type} (k:Nat) (kind:Int) (l:List (Br Tm)) (kids:List Tm) (ret:Int×Int×ByteArray×List Tm×List (Br Tm)→Option S):Option S:=akH k ret kind l kids
end
end Go.Proofs.YtfkkpkhfjpaafaaGreatDoor
namespace Go.Proofs.YtfkkpkhfjpaafaaGreatDoor
open Go PI
set_option linter.unusedVariables false
set_option maxRecDepth 100000
noncomputable section
def Jp {S:Type} (k:Nat) (ret:Tm×Bool×Int→Option S) (r3:Tm) (r15:Int×Int×ByteArray×List Cl×List Tm) (x4:Tm) (r13:Tm×Int) (x5:Tm) (rec0:Int→(List (Br Tm))→Int→Option S) (b44_0:Int) (sys11:List (Br Tm)) (v96:Int):Option S:=
 ab (decide ((v96:Int)<(x5.sys.length:Int))) (
 Option.bind (af x5.sys v96) fun x16=>
 aa k (JK k r3.r 1 b44_0) fun r17=>
 aa k (JJ k (ac x4) 1 r17.2) fun r18=>
 Option.bind (af x16.kids 0) fun x19=>
 aa k (tO k 14 r17.1 [(ac r18.1),(ac x19)]) fun r20=>
 aa k (nf k x16.face [(Tm.mk r20.1 r20.2.1 r20.2.2.1 r20.2.2.2.1 r20.2.2.2.2 [])]) fun r21=>
 Option.bind (aw 1099511627776 sys11.length [r21].length) fun x22=>
  rec0 r18.2 (sys11++[r21]) (IntKind.wrap .i64 (v96+1))) (
 aa k (JM k 15 sys11 [(ac r13.1),(Tm.mk r15.1 r15.2.1 r15.2.2.1 r15.2.2.2.1 r15.2.2.2.2 [])]) fun r23=>
 aa k (ly k (Tm.mk r23.1 r23.2.1 r23.2.2.1 [] r23.2.2.2.1 r23.2.2.2.2) b44_0) fun r24=>
 ret ((ac r24.1),r24.2.1,r24.2.2.1))
noncomputable def E7 {S:Type} (k:Nat) (ret:Tm×Bool×Int→Option S) (r3:Tm) (r15:Int×Int×ByteArray×List Cl×List Tm) (x4:Tm) (r13:Tm×Int) (x5:Tm):Nat→Int→(List (Br Tm))→Int→Option S
 |0=>fun _ _ _=> .none
 |m+1=>fun b44_0 sys11 v96=>Jp k ret r3 r15 x4 r13 x5 (E7 k ret r3 r15 x4 r13 x5 m) b44_0 sys11 v96
def SP {S:Type} (k:Nat) (ret:Tm×Bool×Int→Option S) (J0:Tm→(Int×Int×ByteArray×List Cl×List Tm)→Tm→(Tm×Int)→Tm→Int→(List (Br Tm))→Int→Option S) (t:Tm):Option S:=
 aa k (fe k (ac t)) fun r1=>
 ab (!(r1==0)) (
 ret ((Tm.mk 0 0 ByteArray.empty [] [] []),false,r1)) (
 ab (!(t.kind==14)) (
  ret ((Tm.mk 0 0 ByteArray.empty [] [] []),false,0)) (
  Option.bind (af t.kids 0) fun x2=>
  ab (!(x2.kind==23)) (
  ret ((Tm.mk 0 0 ByteArray.empty [] [] []),false,0)) (
  dJ k (ac t) fun r3=>
  Option.bind (af r3.kids 0) fun x4=>
  Option.bind (af r3.kids 1) fun x5=>
  ab (x5.kind==24) (
   aa k (ly k (ac x5) 0) fun r6=>
   ret ((ac r6.1),r6.2.1,r6.2.2.1)) (
   ab (x5.kind==25) (
   aa k (ly k (ac x5) 0) fun r7=>
   ret ((ac r7.1),r7.2.1,r7.2.2.1)) (
   ab (x5.kind==26) (
    Option.bind (af x4.kids 0) fun x8=>
    Option.bind (af x5.kids 0) fun x9=>
    aa k (tO k 14 r3.r [(ac x8),(ac x9)]) fun r10=>
    aa k (tO k 26 x5.r [(Tm.mk r10.1 r10.2.1 r10.2.2.1 r10.2.2.2.1 r10.2.2.2.2 [])]) fun r11=>
    aa k (ly k (Tm.mk r11.1 r11.2.1 r11.2.2.1 r11.2.2.2.1 r11.2.2.2.2 []) 0) fun r12=>
    ret ((ac r12.1),r12.2.1,r12.2.2.1)) (
    ab (x5.kind==15) (
    aa k (JI k (ac x4) 0) fun r13=>
    Option.bind (af x5.kids 1) fun x14=>
    aa k (tO k 14 r3.r [(ac x4),(ac x14)]) fun r15=>
        J0 r3 r15 x4 r13 x5 r13.2 ([]:List (Br Tm)) 0) (
    ret ((Tm.mk 0 0 ByteArray.empty [] [] []),false,0))))))))
noncomputable def JG {S:Type} (k:Nat) (t:Tm) (ret:Tm×Bool×Int→Option S):Option S:=SP k ret (fun r3 r15 x4 r13 x5 b44_0 sys11 v96=>E7 k ret r3 r15 x4 r13 x5 k b44_0 sys11 v96) t
def oT {S:Type} (k:Nat) (ret:Bool→Option S) (a b:List Cl) (rec0:Int→Option S) (i5:Int):Option S:=
 ab (decide ((i5:Int)<(a.length:Int))) (
 Option.bind (af a i5) fun x1=>
 Option.bind (af b i5) fun x2=>
 ab (!((x1.pos==x2.pos)&&((x1.neg==x2.neg)&&true))) (
  ret false) (
   rec0 (IntKind.wrap .i64 (i5+1)))) (
 ret true)
noncomputable def ky {S:Type} (k:Nat) (ret:Bool→Option S) (a b:List Cl):Nat→Int→Option S
 |0=>fun _=> .none
 |m+1=>fun i5=>oT k ret a b (ky k ret a b m) i5
def BV {S:Type} (k:Nat) (ret:Bool→Option S) (J0:Int→Option S) (a b:List Cl):Option S:=
 ab (!((a.length:Int)==(b.length:Int))) (
 ret false) (
  J0 0)
noncomputable def jY {S:Type} (k:Nat) (a b:List Cl) (ret:Bool→Option S):Option S:=BV k ret (fun i5=>ky k ret a b k i5) a b
abbrev eN (S:Type):=Tm→Tm→(Bool→Option S)→Option S
def xQ {S:Type} (hd:eN S) (k:Nat) (ret:Bool→Option S) (a b:List Tm) (rec0:Int→Option S) (i5:Int):Option S:=
 ab (decide ((i5:Int)<(a.length:Int))) (
 Option.bind (af a i5) fun x1=>
 Option.bind (af b i5) fun x2=>
 hd (ac x1) (ac x2) fun r3=>
 ab (!r3) (
  ret false) (
   rec0 (IntKind.wrap .i64 (i5+1)))) (
 ret true)
noncomputable def qH {S:Type} (hd:eN S) (k:Nat) (ret:Bool→Option S) (a b:List Tm):Nat→Int→Option S
 |0=>fun _=> .none
 |m+1=>fun i5=>xQ hd k ret a b (qH hd k ret a b m) i5
def It {S:Type} (hd:eN S) (k:Nat) (ret:Bool→Option S) (J0:Int→Option S) (a b:List Tm):Option S:=
 ab (!((a.length:Int)==(b.length:Int))) (
 ret false) (
  J0 0)
noncomputable def tX {S:Type} (hd:eN S) (k:Nat) (a b:List Tm) (ret:Bool→Option S):Option S:=It hd k ret (fun i5=>qH hd k ret a b k i5) a b
def xO {S:Type} (hd:eN S) (k:Nat) (ret:Bool→Option S) (a b:Tm) (rec0:Int→Option S) (i5:Int):Option S:=
 ab (decide ((i5:Int)<(a.sys.length:Int))) (
 Option.bind (af a.sys i5) fun x3=>
 Option.bind (af b.sys i5) fun x4=>
 aa k (jY k x3.face x4.face) fun r5=>
 ab (!r5) (
  ret false) (
  Option.bind (af a.sys i5) fun x6=>
  Option.bind (af b.sys i5) fun x7=>
  aa k (tX hd k x6.kids x7.kids) fun r8=>
  ab (!r8) (
  ret false) (
    rec0 (IntKind.wrap .i64 (i5+1))))) (
 ret true)
noncomputable def qF {S:Type} (hd:eN S) (k:Nat) (ret:Bool→Option S) (a b:Tm):Nat→Int→Option S
 |0=>fun _=> .none
 |m+1=>fun i5=>xO hd k ret a b (qF hd k ret a b m) i5
def Ir {S:Type} (hd:eN S) (k:Nat) (ret:Bool→Option S) (J0:Int→Option S) (a b:Tm):Option S:=
 ab (!(a.kind==b.kind)) (
 ret false) (
 ab (!(a.n==b.n)) (
  ret false) (
  ab (!(a.name==b.name)) (
  ret false) (
  aa k (jY k a.r b.r) fun r1=>
  ab (!r1) (
   ret false) (
   aa k (tX hd k a.kids b.kids) fun r2=>
   ab (!r2) (
   ret false) (
   ab (!((a.sys.length:Int)==(b.sys.length:Int))) (
    ret false) (
       J0 0))))))
noncomputable def d8 {S:Type}:Nat→Tm→Tm→(Bool→Option S)→Option S
 |0=>fun _ _ _=> .none
 |k+1=>fun a b ret=>Ir (d8 k) k ret (fun i5=>qF (d8 k) k ret a b k i5) a b
def akB {S:Type} (k:Nat) (ret:Bool→Option S):Option S:=
 aa k (al5 k 3 ([]:List Tm)) fun r1=>
 aa k (al5 k 19 ([]:List Tm)) fun r2=>
 aa k (al5 k 1 ([]:List Tm)) fun r3=>
 aa k (al5 k 20 ([]:List Tm)) fun r4=>
 aa k (al5 k 15 [(Tm.mk r2.1 r2.2.1 r2.2.2.1 [] r2.2.2.2 []),(Tm.mk r4.1 r4.2.1 r4.2.2.1 [] r4.2.2.2 [])]) fun r5=>
 aa k (al5 k 22 [(Tm.mk r1.1 r1.2.1 r1.2.2.1 [] r1.2.2.2 []),(Tm.mk r2.1 r2.2.1 r2.2.2.1 [] r2.2.2.2 []),(Tm.mk r3.1 r3.2.1 r3.2.2.1 [] r3.2.2.2 []),(Tm.mk r5.1 r5.2.1 r5.2.2.1 [] r5.2.2.2 [])]) fun r6=>
 aa k (tL k (Tm.mk r6.1 r6.2.1 r6.2.2.1 [] r6.2.2.2 [])) fun r7=>
 aa k (al5 k 20 ([]:List Tm)) fun r8=>
 aa k (al5 k 26 [(Tm.mk r8.1 r8.2.1 r8.2.2.1 [] r8.2.2.2 [])]) fun r9=>
 aa k (al5 k 23 [(Tm.mk r2.1 r2.2.1 r2.2.2.1 [] r2.2.2.2 [])]) fun r10=>
 aa k (al5 k 14 [(Tm.mk r10.1 r10.2.1 r10.2.2.1 [] r10.2.2.2 []),(Tm.mk r9.1 r9.2.1 r9.2.2.1 [(Cl.mk 1 0)] r9.2.2.2 [])]) fun r11=>
 aa k (JG k (Tm.mk r11.1 r11.2.1 r11.2.2.1 [] r11.2.2.2 [])) fun r12=>
 ab (!r7.2.1) (
 ret false) (
 ab (!(r7.2.2==0)) (
  ret false) (
  ab (!r12.2.1) (
  ret false) (
  ab (!(r12.2.2==0)) (
   ret false) (
   ab (!(r7.1.kind==15)) (
   ret false) (
   ab (!((r7.1.kids.length:Int)==2)) (
    ret false) (
    ab (!((r7.1.sys.length:Int)==0)) (
    ret false) (
    aa k (al5 k 1 ([]:List Tm)) fun r13=>
    aa k (al5 k 20 ([]:List Tm)) fun r14=>
    aa k (al5 k 22 [(Tm.mk r1.1 r1.2.1 r1.2.2.1 [] r1.2.2.2 []),(Tm.mk r2.1 r2.2.1 r2.2.2.1 [] r2.2.2.2 []),(Tm.mk r13.1 r13.2.1 r13.2.2.1 [] r13.2.2.2 []),(Tm.mk r14.1 r14.2.1 r14.2.2.1 [] r14.2.2.2 [])]) fun r15=>
    aa k (al5 k 14 [(Tm.mk r1.1 r1.2.1 r1.2.2.1 [] r1.2.2.2 []),(Tm.mk r15.1 r15.2.1 r15.2.2.1 [] r15.2.2.2 [])]) fun r16=>
    Option.bind (af r7.1.kids 0) fun x17=>
    d8 k (ac x17) (Tm.mk r1.1 r1.2.1 r1.2.2.1 [] r1.2.2.2 []) fun r18=>
    ab (r18) (
     Option.bind (af r7.1.kids 1) fun x19=>
     d8 k (ac x19) (Tm.mk r16.1 r16.2.1 r16.2.2.1 [] r16.2.2.2 []) fun r20=>
     ab (r20) (
     ab (r12.1.kind==26) (
      aa k (jY k r12.1.r [(Cl.mk 1 0)]) fun r21=>
      ab (r21) (
      ab ((r12.1.kids.length:Int)==1) (
       Option.bind (af r12.1.kids 0) fun x22=>
       aa k (al5 k 20 ([]:List Tm)) fun r23=>
       aa k (al5 k 14 [(Tm.mk r2.1 r2.2.1 r2.2.2.1 [] r2.2.2.2 []),(Tm.mk r23.1 r23.2.1 r23.2.2.1 [] r23.2.2.2 [])]) fun r24=>
       d8 k (ac x22) (Tm.mk r24.1 r24.2.1 r24.2.2.1 [] r24.2.2.2 []) fun r25=>
       ret r25) (
       ret false)) (
      ret false)) (
      ret false)) (
     ret false)) (
     ret false))))))))
noncomputable def tM {S:Type} (k:Nat) (ret:Bool→Option S):Option S:=akB k ret
abbrev gZ (S:Type):=Tm→(Tm→Option S)→Option S
abbrev g4 (S:Type):=Tm→(Int→Option S)→Option S
abbrev g5 (S:Type):=Tm→(Int→Option S)→Option S
abbrev dP (S:Type):=Tm→Int→Int→Bool→(Bool→Option S)→Option S
abbrev fL (S:Type):=Tm→Int→Int→Int→Int→(Tm→Option S)→Option S
abbrev g6 (S:Type):=Tm→Int→(List Cl)→Int→Bool→(Tm→Option S)→Option S
abbrev fM (S:Type):=Tm→Int→(Int→Option S)→Option S
abbrev eO (S:Type):=Tm→Int→Tm→Int→Int→(Tm→Option S)→Option S
abbrev WX (S:Type):=Tm→(Int→Option S)→Option S
def lG {S:Type} (hd:WX S) (k:Nat) (ret:Int→Option S) (t:Tm) (v37:Int) (x4:(Br Tm)) (rec1:Int→Int→Option S) (rec2:Int→Int→Option S) (sum3'' v44:Int):Option S:=
 ab (decide ((v44:Int)<(x4.kids.length:Int))) (
 Option.bind (af x4.kids v44) fun x5=>
 hd (ac x5) fun r6=>
  rec2 (IntKind.wrap .i64 (sum3''+(IntKind.wrap .i64 (1+r6)))) (IntKind.wrap .i64 (v44+1))) (
  rec1 sum3'' (IntKind.wrap .i64 (v37+1)))
noncomputable def iM {S:Type} (hd:WX S) (k:Nat) (ret:Int→Option S) (rec1:Int→Int→Option S) (t:Tm) (v37:Int) (x4:(Br Tm)):Nat→Int→Int→Option S
 |0=>fun _ _=> .none
 |m+1=>fun sum3'' v44=>lG hd k ret t v37 x4 rec1 (iM hd k ret rec1 t v37 x4 m) sum3'' v44
def j9 {S:Type} (hd:WX S) (k:Nat) (ret:Int→Option S) (t:Tm) (J2:Int→(Br Tm)→Int→Int→Option S) (rec1:Int→Int→Option S) (sum3' v37:Int):Option S:=
 ab (decide ((v37:Int)<(t.sys.length:Int))) (
 Option.bind (af t.sys v37) fun x4=>
  J2 v37 x4 sum3' 0) (
 ret sum3')
noncomputable def hZ {S:Type} (hd:WX S) (k:Nat) (ret:Int→Option S) (t:Tm):Nat→Int→Int→Option S
 |0=>fun _ _=> .none
 |m+1=>fun sum3' v37=>j9 hd k ret t (fun v37 x4 sum3'' v44=>iM hd k ret (hZ hd k ret t m) t v37 x4 k sum3'' v44) (hZ hd k ret t m) sum3' v37
def j4 {S:Type} (hd:WX S) (k:Nat) (ret:Int→Option S) (t:Tm) (J1:Int→Int→Option S) (rec0:Int→Int→Option S) (v15 sum3:Int):Option S:=
 ab (decide ((v15:Int)<(t.kids.length:Int))) (
 Option.bind (af t.kids v15) fun x1=>
 aa k (gI k t.kind v15) fun r2=>
 hd (ac x1) fun r3=>
  rec0 (IntKind.wrap .i64 (v15+1)) (IntKind.wrap .i64 (sum3+(IntKind.wrap .i64 (r2.2+r3))))) (
  J1 sum3 0)
noncomputable def jm {S:Type} (hd:WX S) (k:Nat) (ret:Int→Option S) (t:Tm):Nat→Int→Int→Option S
 |0=>fun _ _=> .none
 |m+1=>fun v15 sum3=>j4 hd k ret t (fun sum3' v37=>hZ hd k ret t k sum3' v37) (jm hd k ret t m) v15 sum3
noncomputable def aoC {S:Type} (hd:WX S) (k:Nat) (ret:Int→Option S) (J0:Int→Int→Option S) (t:Tm):Option S:=
 J0 0 0
noncomputable def fH {S:Type}:Nat→Tm→(Int→Option S)→Option S
 |0=>fun _ _=> .none
 |k+1=>fun t ret=>aoC (fH k) k ret (fun v15 sum3=>jm (fH k) k ret t k v15 sum3) t
def aoY {S:Type} (k:Nat) (ret:Int→Option S) (t:Tm) (vars dims:Int):Option S:=
 ab (decide ((vars:Int)<0)) (
 ret 2) (
 ab (decide ((dims:Int)<0)) (
  ret 2) (
  ab (decide ((dims:Int)>24)) (
  ret 2) (
  aa k (zD k (ac t)) fun r1=>
  ab (!(r1==0)) (
   ret r1) (
   ic k (ac t) vars dims true fun r2=>
   ab (!r2) (
   ret 100) (
   ret 0)))))
noncomputable def anX {S:Type} (k:Nat) (t:Tm) (vars dims:Int) (ret:Int→Option S):Option S:=aoY k ret t vars dims
def lE {S:Type} (k:Nat) (ret:Bool→Option S) (x11 b14:Tm) (rec3:Int→Option S) (v131:Int):Option S:=
 ab (decide ((v131:Int)<(x11.sys.length:Int))) (
 Option.bind (af b14.sys v131) fun x12=>
 Option.bind (af x11.sys v131) fun x13=>
 aa k (jY k x12.face x13.face) fun r14=>
 ab (!r14) (
  ret false) (
   rec3 (IntKind.wrap .i64 (v131+1)))) (
 ret true)
noncomputable def iz {S:Type} (k:Nat) (ret:Bool→Option S) (x11 b14:Tm):Nat→Int→Option S
 |0=>fun _=> .none
 |m+1=>fun v131=>lE k ret x11 b14 (iz k ret x11 b14 m) v131
noncomputable def lD {S:Type} (k:Nat) (ret:Bool→Option S) (x11:Tm) (J3:Tm→Int→Option S) (b14:Tm):Option S:=
 J3 b14 0
noncomputable def an6 {S:Type} (k:Nat) (ret:Bool→Option S) (x11:Tm):Nat→Tm→Option S
 |0=>fun _=> .none
 |_+1=>fun b14=>lD k ret x11 (fun b14 v131=>iz k ret x11 b14 k v131) b14
def lA {S:Type} (k:Nat) (ret:Bool→Option S) (r6:Tm×Bool×Int) (t:Tm) (r5:Tm×Bool×Int) (J2:Tm→Tm→Option S):Option S:=
 Option.bind (af t.kids (IntKind.wrap .i64 ((t.kids.length:Int)-1))) fun x11=>
 ab (!(x11.kind==15)) (
 ab (r6.2.1) (
  ret (r6.1.kind==x11.kind)) (
  ret false)) (
 ab (r5.2.1) (
  ab (!(r5.1.kind==15)) (
  ret false) (
  ab (!((r5.1.sys.length:Int)==(x11.sys.length:Int))) (
   ret false) (
     J2 x11 (ac r5.1)))) (
  ab (!(r6.1.kind==15)) (
  ret false) (
  ab (!((r6.1.sys.length:Int)==(x11.sys.length:Int))) (
   ret false) (
     J2 x11 (ac r6.1)))))
noncomputable def an5 {S:Type} (k:Nat) (ret:Bool→Option S) (r6:Tm×Bool×Int) (t:Tm) (r5:Tm×Bool×Int):Nat→Option S
 |0=> .none
 |_+1=>lA k ret r6 t r5 (fun x11 b14=>an6 k ret x11 k b14)
def lz {S:Type} (k:Nat) (ret:Bool→Option S) (r6:Tm×Bool×Int) (t:Tm) (r5:Tm×Bool×Int) (J1:Option S):Option S:=
 ab (!r5.2.1) (
 ab (!r6.2.1) (
  d8 k (ac r5.1) (Tm.mk 0 0 ByteArray.empty [] [] []) fun r9=>
  ab (r9) (
  d8 k (ac r6.1) (Tm.mk 0 0 ByteArray.empty [] [] []) fun r10=>
  ret r10) (
  ret false)) (
   J1)) (
  J1)
noncomputable def anV {S:Type} (k:Nat) (ret:Bool→Option S) (r6:Tm×Bool×Int) (t:Tm) (r5:Tm×Bool×Int):Nat→Option S
 |0=> .none
 |_+1=>lz k ret r6 t r5 (an5 k ret r6 t r5 k)
def aoB {S:Type} (k:Nat) (ret:Bool→Option S) (J0:(Tm×Bool×Int)→(Tm×Bool×Int)→Option S) (t:Tm) (vars many:Int):Option S:=
 aa k (tM k) fun r1=>
 ab (!r1) (
 ret false) (
 aa k (DR k (ac t)) fun r2=>
 ab (r2) (
  ret true) (
  ab (decide ((many:Int)>8)) (
  ret true) (
  fH k (ac t) fun r3=>
  ab (decide ((r3:Int)>4)) (
   ret true) (
   aa k (anX k (ac t) vars many) fun r4=>
   ab (!(r4==0)) (
   ret true) (
   aa k (tL k (ac t)) fun r5=>
   aa k (JG k (ac t)) fun r6=>
   ab (r5.2.1) (
    ab (!(r5.2.2==0)) (
    ret false) (
    aa k (anX k (ac r5.1) vars many) fun r7=>
    ab (!(r7==0)) (
     ret false) (
     ab (r6.2.1) (
     ab (!(r6.2.2==0)) (
      ret false) (
      aa k (anX k (ac r6.1) vars many) fun r8=>
      ab (!(r8==0)) (
      ret false) (
      ab (r5.2.1) (
       ab (r6.2.1) (
       ret false) (
              J0 r6 r5)) (
             J0 r6 r5)))) (
     ab (r5.2.1) (
      ab (r6.2.1) (
      ret false) (
            J0 r6 r5)) (
           J0 r6 r5))))) (
    ab (r6.2.1) (
    ab (!(r6.2.2==0)) (
     ret false) (
     aa k (anX k (ac r6.1) vars many) fun r15=>
     ab (!(r15==0)) (
     ret false) (
     ab (r5.2.1) (
      ab (r6.2.1) (
      ret false) (
            J0 r6 r5)) (
           J0 r6 r5)))) (
    ab (r5.2.1) (
     ab (r6.2.1) (
     ret false) (
          J0 r6 r5)) (
         J0 r6 r5))))))))
noncomputable def l_ {S:Type} (k:Nat) (t:Tm) (vars many:Int) (ret:Bool→Option S):Option S:=aoB k ret (fun r6 r5=>anV k ret r6 t r5 k) t vars many
end
end Go.Proofs.YtfkkpkhfjpaafaaGreatDoor
namespace Go.Proofs.YtfkkpkhfjpaafaaGreatDoor
open Go PI
set_option linter.unusedVariables false
set_option maxRecDepth 100000
noncomputable section
end
end Go.Proofs.YtfkkpkhfjpaafaaGreatDoor
namespace Go.Proofs.YtfkkpkhfjpaafaaGreatDoor
open Go PI
set_option linter.unusedVariables false
set_option linter.unusedSimpArgs false
abbrev M24:Nat:=16777215
theorem N4 {n:Nat} (h:n<24):2^n<4294967296:=Nat.lt_of_lt_of_le (Nat.pow_lt_pow_right (by decide) h) (by decide)
theorem Dt (n:Nat):(2:Int)^n=((2^n:Nat):Int):=by simp
theorem Es (m n:Nat):Int.fdiv (m:Int) ((2:Int)^n)=((m/2^n:Nat):Int):=by
 grind
variable {S:Type} {k:Nat}
theorem BM (hk:Fu k) (i:Int) (ret:Bool→Option S):nd k i ret=ret (decide (0≤i∧i<24)):=by
 grind [nd,S2,aY]
theorem akm (hk:Fu k) {m:Nat} (hm:m<4294967296) (ret:Bool→Option S):pm k (m:Int) ret=ret (decide (m<16777216)):=by
 simp only [pm,SY]
 rw [show (16777215:Int)=((16777215:Nat):Int) from rfl,C_ hm (by decide)]
 congr 1
 rw [Bool.eq_iff_iff]
 simp only [beq_iff_eq,decide_eq_true_eq]
 have key:dL m 16777215=0↔m<16777216:=by
  constructor
  ·intro h
   apply Nat.lt_pow_two_of_testBit (n:=24)
   intro i hi
   have h2:=mm m 16777215 i
   rw [h,Nat.zero_testBit] at h2
   have:(16777215:Nat).testBit i=false:=Nat.testBit_lt_two_pow (Nat.lt_of_lt_of_le (by decide:16777215<2^24) (Nat.pow_le_pow_right (by decide) hi))
   grind
  ·intro h
   apply Nat.eq_of_testBit_eq
   intro i
   rw [mm,Nat.zero_testBit]
   by_cases hi:i<24
   ·have:(16777215:Nat).testBit i=true:=by
     rw [show (16777215:Nat)=2^24-1 from rfl,Nat.testBit_two_pow_sub_one];grind
    grind
   ·have h2:(2:Nat)^24≤2^i:=Nat.pow_le_pow_right (by decide) (by omega)
    grind [Nat.testBit_lt_two_pow]
 omega
theorem akk (hk:Fu k) {m:Nat} (hm:m<4294967296) (i:Int) (ret:Bool→Option S):amz k (m:Int) i ret=ret (decide (0≤i∧i<24)&&m.testBit i.toNat):=by
 simp only [amz,SX,BM hk,ag hk]
 by_cases h:0≤i∧i<24
 ·obtain ⟨n,rfl⟩: ∃n:Nat,i=n:=⟨i.toNat,by omega⟩
  have hn:n<24:=by omega
  rw [decide_eq_true h,ae,Bool.true_and,iR n (by omega),fN _ (by omega)]
  congr 1
  rw [Int.toNat_natCast,Nat.min_eq_left (by omega),Es,show (1:Int)=((1:Nat):Int) from rfl,lj (Nat.lt_of_le_of_lt (Nat.div_le_self _ _) hm) (by decide)]
  grind
 grind [ad]
theorem akn (hk:Fu k) {m:Nat} (hm:m<4294967296) (i:Int) (ret:Int→Option S):i_ k (m:Int) i ret=ret (if 0≤i∧i<24 then (((m&&&M24)|||2^i.toNat:Nat):Int) else ((m&&&M24:Nat):Int)):=by
 simp only [i_,SZ,BM hk,ag hk]
 have hand:bj .and .u32 (m:Int) 16777215=((m&&&M24:Nat):Int):=lj hm (by decide:(16777215:Nat)<4294967296)
 have hlt:m&&&M24<4294967296:=sk (n:=32) hm
 rw [hand]
 by_cases h:0≤i∧i<24
 ·obtain ⟨n,rfl⟩: ∃n:Nat,i=n:=⟨i.toNat,by omega⟩
  grind [iR,ad,fN,Int.toNat_natCast,ld,N4,wK]
 ·rw [decide_eq_false h,if_neg h];rfl
theorem ako (hk:Fu k) {m:Nat} (hm:m<4294967296) (i:Int) (ret:Int→Option S):jX k (m:Int) i ret=ret (if 0≤i∧i<24 then ((dL (m&&&M24) (2^i.toNat):Nat):Int) else ((m&&&M24:Nat):Int)):=by
 simp only [jX,S0,BM hk,ag hk]
 have hand:bj .and .u32 (m:Int) 16777215=((m&&&M24:Nat):Int):=lj hm (by decide:(16777215:Nat)<4294967296)
 have hlt:m&&&M24<4294967296:=sk (n:=32) hm
 rw [hand]
 by_cases h:0≤i∧i<24
 ·grind [iR,ad,fN,Int.toNat_natCast,ld,N4,C_]
 ·rw [decide_eq_false h,if_neg h];rfl
theorem R5 (hk:Fu k) (n:Nat) (hn:n<18446744073709551616) (ret:Int→Option S):pn k (n:Int) ret=ret ((2^min n 24-1:Nat):Int):=by
 simp only [pn,S1]
 have e:(if (24:Int)<(n:Int) then (24:Int) else (n:Int))=((min n 24:Nat):Int):=by
  omega
 rw [e,iR _ (by omega),fN _ (by omega),Int.toNat_natCast]
 congr 1
 generalize hq:min n 24=q
 have hq24:q≤24:=by omega
 rw [Nat.min_eq_left (by omega),Int.one_mul,Dt]
 have h1:2^q≤2^24:=Nat.pow_le_pow_right (by decide) hq24
 grind [iR,ld]
def gO (m n:Nat):Nat:=(m&&&M24)&&&(2^min n 24-1)
def dl (m n:Nat):Nat:=dL (m&&&M24) (2^min n 24-1)
def amc (m n b:Nat):Nat×Nat:=
 if dl m n=0 then (gO m n,0) else if 24≤b then (0,10) else if dl m n*2^b>16777215 then (0,10) else (gO m n|||(dl m n*2^b),0)
theorem akl (hk:Fu k) {m:Nat} (hm:m<4294967296) (n b:Nat) (hn:n<9223372036854775808) (hb:b<9223372036854775808) (ret:Int×Int→Option S):
  lx k (m:Int) (n:Int) (b:Int) ret=ret (((amc m n b).1:Int),((amc m n b).2:Int)):=by
 have hand:bj .and .u32 (m:Int) 16777215=((m&&&M24:Nat):Int):=lj hm (by decide:(16777215:Nat)<4294967296)
 have hlt:m&&&M24<16777216:=Nat.lt_of_le_of_lt Nat.and_le_right (by decide)
 have hbl:2^min n 24-1<4294967296:=by
  have:2^min n 24≤2^24:=Nat.pow_le_pow_right (by decide) (by omega)
  omega
 have hhi:dl m n<16777216:=vq (n:=24) hlt
 have hlow:bj .and .u32 ((m&&&M24:Nat):Int) ((2^min n 24-1:Nat):Int)=((gO m n:Nat):Int):=lj (by omega) hbl
 have hhigh:bj .andNot .u32 ((m&&&M24:Nat):Int) ((2^min n 24-1:Nat):Int)=((dl m n:Nat):Int):=C_ (by omega) hbl
 simp only [lx,BT]
 rw [aY,aY,if_neg (by omega),if_neg (by omega)]
 simp only [R5 hk n (by omega),ag hk,hand,hlow,hhigh]
 rw [iR _ (by omega)]
 unfold amc
 by_cases h0:dl m n=0
 ·grind [ae]
 ·rw [if_neg h0]
  have hb0:(((dl m n:Nat):Int)==0)=false:=by
   grind
  simp only [hb0,ad,aY]
  by_cases h24:24≤b
  ·grind
  ·rw [if_neg (by omega),if_neg h24,iR b (by omega),fN _ (by omega),Int.toNat_natCast,Nat.min_eq_left (by omega),Dt]
   have hp:2^b≤2^23:=Nat.pow_le_pow_right (by decide) (by omega)
   have h23:(2:Nat)^23=8388608:=by decide
   have hmul:dl m n*2^b<18446744073709551616:=by
    have:=Nat.mul_le_mul (Nat.le_of_lt hhi) hp
    omega
   have ec:((dl m n:Nat):Int)*((2^b:Nat):Int)=((dl m n*2^b:Nat):Int):=by simp
   rw [ec,iR _ hmul]
   by_cases hg:dl m n*2^b>16777215
   ·grind
   ·rw [if_neg (by omega),if_neg hg]
    rw [ld _ (by omega),fN _ (by omega),wK (by grind [gO,Nat.and_le_left]) (by omega)]
    rfl
end Go.Proofs.YtfkkpkhfjpaafaaGreatDoor
namespace Go.Proofs.YtfkkpkhfjpaafaaGreatDoor
open Go PI
set_option linter.unusedVariables false
set_option linter.unusedSimpArgs false
set_option maxRecDepth 20000
variable {S:Type} {k:Nat}
def alK (l:List Nat):Nat:=(l.map (2^ ·)).sum
theorem Zr {x a:Nat} (h:x.testBit a=false):x+2^a=x|||2^a:=by
 have h1:x=2^(a+1)*(x/2^(a+1))+x%2^(a+1):=(Nat.div_add_mod _ _).symm
 have hlt:x%2^(a+1)<2^a:=by
  have hb:(x%2^(a+1)).testBit a=false:=by grind
  grind [Nat.lt_pow_two_of_testBit,Nat.testBit_lt_two_pow]
 generalize x/2^(a+1)=q at h1
 generalize x%2^(a+1)=r at h1 hlt
 have hp:(2:Nat)^(a+1)=2^a*2:=Nat.pow_succ 2 a
 have e1:2^a+r=2^a|||r:=by
  have:=Nat.two_pow_add_eq_or_of_lt hlt 1
  grind
 have e2:x=2^(a+1)*q|||r:=by grind [Nat.two_pow_add_eq_or_of_lt]
 grind [Nat.two_pow_add_eq_or_of_lt]
theorem oG: ∀ (l:List Nat),l.Nodup→ ∀j,(alK l).testBit j=decide (j∈l):=by
 intro l
 induction l with
 |nil=>grind [alK]
 |cons a l ih=>
  intro hn j
  have hn':=List.nodup_cons.1 hn
  have ha:(alK l).testBit a=false:=by grind
  have e:alK (a::l)=alK l|||2^a:=by
   grind [Zr,alK]
  grind
def bW (m:Nat):List Nat:=(List.range 24).filter m.testBit
theorem oY (m:Nat):(bW m).Nodup:=List.nodup_range.filter _
theorem mem_bitsN {m j:Nat}:j∈bW m↔j<24∧m.testBit j=true:=by simp [bW]
theorem gu (m:Nat):(bW m).length≤24:=by
 grind [bW]
theorem g8 (j:Nat):M24.testBit j=decide (j<24):=by
 rw [show M24=2^24-1 from rfl,Nat.testBit_two_pow_sub_one]
def ints (l:List Nat):List Int:=l.map Int.ofNat
theorem amb (l:List Nat):(ints l).length=l.length:=by simp [ints]
end Go.Proofs.YtfkkpkhfjpaafaaGreatDoor
namespace Go.Proofs.YtfkkpkhfjpaafaaGreatDoor
open Go PI
set_option linter.unusedVariables false
set_option linter.unusedSimpArgs false
set_option maxRecDepth 20000
variable {S:Type} {k:Nat}
theorem uB {α:Type} (p r:List α) (x:α):af (p++x::r) (p.length:Int)=some x:=by simp [af]
theorem oZ {m:Nat} (h:m<16777216) {j:Nat} (hj:m.testBit j=true):j<24:=by
 apply Classical.byContradiction
 intro hn
 have:m<2^j:=Nat.lt_of_lt_of_le h (Nat.pow_le_pow_right (n:=2) (i:=24) (j:=j) (by decide) (by omega))
 grind [Nat.testBit_lt_two_pow]
theorem LN (m:Nat):m<16777216↔ ∀j,m.testBit j=true→j<24:=by
 constructor
 ·intro h j hj;exact oZ h hj
 ·intro h
  apply Nat.lt_pow_two_of_testBit (n:=24)
  grind
def up1 (n b x:Nat):Nat:=if x<n then x else x+b
theorem Dl (m n j:Nat):(gO m n).testBit j=(m.testBit j&&decide (j<n∧j<24)):=by
 grind [gO,g8]
theorem Js (m n j:Nat):(dl m n).testBit j=(m.testBit j&&decide (n≤j∧j<24)):=by
 grind [dl,mm,g8]
theorem Fg (m n b:Nat):amc m n b=if (∃x∈bW m,n≤x∧24≤x+b) then (0,10) else (alK ((bW m).map (up1 n b)),0):=by
 have hnd:((bW m).map (up1 n b)).Nodup:=by
  grind [up1,oY]
 have hset: ∀j,(alK ((bW m).map (up1 n b))).testBit j=((gO m n).testBit j||(decide (b≤j)&&(dl m n).testBit (j-b))):=by
  intro j
  rw [oG _ hnd,Dl,Js,Bool.eq_iff_iff]
  simp only [decide_eq_true_eq,List.mem_map,mem_bitsN,Bool.or_eq_true,Bool.and_eq_true]
  grind [up1]
 have hhigh: ∀j,(dl m n).testBit j=true↔(j∈bW m∧n≤j):=by
  grind [Js,mem_bitsN]
 unfold amc
 by_cases h0:dl m n=0
 ·rw [if_pos h0,if_neg]
  ·congr 1
   apply Nat.eq_of_testBit_eq
   grind
  grind
 ·rw [if_neg h0]
  have hex: ∃j,(dl m n).testBit j=true:=by
   apply Classical.byContradiction
   intro hne
   apply h0
   apply Nat.eq_of_testBit_eq
   grind
  have hmul: ∀j,(dl m n*2^b).testBit j=(decide (b≤j)&&(dl m n).testBit (j-b)):=by
   grind
  by_cases h24:24≤b
  ·rw [if_pos h24]
   obtain ⟨j,hj⟩:=hex
   have:=(hhigh j).1 hj
   rw [if_pos ⟨j,this.1,this.2,by omega⟩]
  ·rw [if_neg h24]
   have hlt:=LN (dl m n*2^b)
   by_cases hg:dl m n*2^b>16777215
   ·rw [if_pos hg,if_pos]
    grind
   ·rw [if_neg hg,if_neg]
    ·congr 1
     apply Nat.eq_of_testBit_eq
     grind
    ·rintro ⟨x,h1,h2,h3⟩
     have hx:(dl m n*2^b).testBit (x+b)=true:=by
      simp_all
     grind
def j7 (m:Nat) (i:Int):Nat:=if 0≤i∧i<24 then gO m i.toNat|||((m&&&M24)/2^(i.toNat+1)*2^i.toNat) else m&&&M24
theorem akj (hk:Fu k) {m:Nat} (hm:m<4294967296) (i:Int) (ret:Int→Option S):pk k (m:Int) i ret=ret ((j7 m i:Nat):Int):=by
 simp only [pk,SW,BM hk,ag hk]
 have hand:bj .and .u32 (m:Int) 16777215=((m&&&M24:Nat):Int):=lj hm (by decide:(16777215:Nat)<4294967296)
 have hlt:m&&&M24<16777216:=Nat.lt_of_le_of_lt Nat.and_le_right (by decide)
 rw [hand]
 unfold j7
 by_cases h:0≤i∧i<24
 ·obtain ⟨n,rfl⟩: ∃n:Nat,i=n:=⟨i.toNat,by omega⟩
  have hn:n<24:=by omega
  rw [decide_eq_true h,if_pos h,Bool.not_true,ad,R5 hk n (by omega)]
  have e1:(n:Int)+1=((n+1:Nat):Int):=by simp
  rw [alX (by omega) (by omega),e1,iR _ (by omega),iR _ (by omega),fN _ (by omega),fN _ (by omega)]
  rw [Int.toNat_natCast,Int.toNat_natCast,Nat.min_eq_left (show n+1≤32 by omega),Nat.min_eq_left (show n≤32 by omega),Es,Dt]
  have hb:2^min n 24-1<4294967296:=by
   have:2^min n 24≤2^24:=Nat.pow_le_pow_right (by decide) (by omega)
   omega
  have hq:(m&&&M24)/2^(n+1)*2^n≤m&&&M24:=by
   have h1:(m&&&M24)/2^(n+1)*2^(n+1)≤m&&&M24:=Nat.div_mul_le_self _ _
   have h2:2^n≤2^(n+1):=Nat.pow_le_pow_right (by decide) (by omega)
   exact Nat.le_trans (Nat.mul_le_mul_left _ h2) h1
  have ec:((((m&&&M24)/2^(n+1):Nat):Int))*((2^n:Nat):Int)=(((m&&&M24)/2^(n+1)*2^n:Nat):Int):=by simp
  rw [ec,ld _ (by omega),lj (by omega) hb]
  have hlow:gO m n<4294967296:=by grind [gO,Nat.and_le_left]
  show ret (bj .or .u32 ((gO m n:Nat):Int) _)=_
  rw [wK hlow (by omega)]
 ·rw [decide_eq_false h,if_neg h];rfl
end Go.Proofs.YtfkkpkhfjpaafaaGreatDoor
namespace Go.Proofs.YtfkkpkhfjpaafaaGreatDoor
open Go PI
set_option linter.unusedVariables false
set_option linter.unusedSimpArgs false
set_option maxRecDepth 20000
variable {S:Type} {k:Nat}
def aG (n:Int):Prop:= -9223372036854775808≤n∧n<9223372036854775808
def oC (s:Int):Bool:=decide (s<16777216)
def bP (s i:Int):Bool:=decide (0≤i∧i<24)&&s.toNat.testBit i.toNat
def e_ (s i:Int):Int:=if 0≤i∧i<24 then (((s.toNat&&&M24)|||2^i.toNat:Nat):Int) else ((s.toNat&&&M24:Nat):Int)
def alW (s i:Int):Int:=if 0≤i∧i<24 then ((dL (s.toNat&&&M24) (2^i.toNat):Nat):Int) else ((s.toNat&&&M24:Nat):Int)
def amp (s:Int):List Int:=ints (bW s.toNat)
def alS (s i b:Int):Int×Int:=if i<0∨b<0 then (0,2) else (((amc s.toNat i.toNat b.toNat).1:Int),((amc s.toNat i.toNat b.toNat).2:Int))
def pI (s i:Int):Int:=((j7 s.toNat i:Nat):Int)
theorem QE (m:Nat):oC (m:Int)=decide (m<16777216):=by
 grind [oC]
theorem Q9 (hk:Fu k) {s:Int} (h:U32 s) (ret:Bool→Option S):pm k s ret=ret (oC s):=by
 obtain ⟨m,hm,rfl⟩:=h.nat
 rw [akm hk hm,QE]
theorem rF (hk:Fu k) {s:Int} (h:U32 s) (i:Int) (ret:Bool→Option S):amz k s i ret=ret (bP s i):=by
 obtain ⟨m,hm,rfl⟩:=h.nat
 rw [akk hk hm];rfl
theorem vV (hk:Fu k) {s:Int} (h:U32 s) (i:Int) (ret:Int→Option S):i_ k s i ret=ret (e_ s i):=by
 obtain ⟨m,hm,rfl⟩:=h.nat
 rw [akn hk hm];rfl
theorem vW (hk:Fu k) {s:Int} (h:U32 s) (i:Int) (ret:Int→Option S):jX k s i ret=ret (alW s i):=by
 obtain ⟨m,hm,rfl⟩:=h.nat
 rw [ako hk hm];rfl
theorem Ny {s:Int} (h:U32 s):ra s=amp s:=by
 obtain ⟨m,hm,rfl⟩:=h.nat
 have: ∀i:Nat,(BitVec.ofInt 32 (m:Int)).getLsbD i=m.testBit i:=by
  grind
 simp_all [ra,amp,ints,bW]
theorem Q6 (hk:Fu k) {s i b:Int} (h:U32 s) (hi:aG i) (hb:aG b) (ret:Int×Int→Option S):lx k s i b ret=ret (alS s i b):=by
 obtain ⟨m,hm,rfl⟩:=h.nat
 by_cases h1:i<0
 ·grind [lx,BT,aY,alS]
 by_cases h2:b<0
 ·grind [lx,BT,aY,alS]
 obtain ⟨n,rfl⟩: ∃n:Nat,i=n:=⟨i.toNat,by omega⟩
 obtain ⟨c,rfl⟩: ∃n:Nat,b=n:=⟨b.toNat,by omega⟩
 have:=hi.2;have:=hb.2
 grind [akl,alS]
theorem Q4 (hk:Fu k) {s:Int} (h:U32 s) (i:Int) (ret:Int→Option S):pk k s i ret=ret (pI s i):=by
 obtain ⟨m,hm,rfl⟩:=h.nat
 rw [akj hk hm];rfl
theorem Dy (hk:Fu k) (ret:Int→Option S):lw k 0 ret=ret 0:=by
 simp only [lw,HZ,ag hk];rfl
theorem Dz (hk:Fu k) (ret:Int→Option S): ∀n:Nat,n<24→lw k ((2^n:Nat):Int) ret=ret 1:=by
 simp only [lw,HZ,ag hk]
 intro n hn
 match n,hn with
 |0,_|1,_|2,_|3,_|4,_|5,_|6,_|7,_|8,_|9,_|10,_|11,_|12,_|13,_|14,_|15,_|16,_|17,_|18,_|19,_|20,_|21,_|22,_|23,_=>rfl
 |n+24,h=>omega
theorem B7 (i:Int):e_ 0 i=if 0≤i∧i<24 then ((2^i.toNat:Nat):Int) else 0:=by
 grind [e_]
theorem ai7 (hk:Fu k) (i:Int) (ret:Bool→Option S):yE k i ret=ret (decide (0≤i∧i<24)):=by
 simp only [yE,Sn,ag hk,vV hk (s:=0) ⟨by omega,by omega⟩,B7]
 grind [Dz,Dy]
theorem ai8 (hk:Fu k) (i:Int) (ret:Bool→Option S):yK k i ret=ret (decide (0≤i∧i<24)):=by
 simp only [yK,SC,ag hk,vV hk (s:=0) ⟨by omega,by omega⟩,B7]
 grind [Dz,Dy]
theorem U32.of {n:Nat} (h:n<4294967296):U32 (n:Int):=⟨by omega,by omega⟩
theorem ao2 {s i:Int}:0≤e_ s i∧e_ s i<16777216:=by
 have h1:s.toNat&&&M24<16777216:=Nat.lt_of_le_of_lt Nat.and_le_right (by decide)
 unfold e_
 split
 ·next h=>
  have hp:2^i.toNat<2^24:=Nat.pow_lt_pow_right (by decide) (by omega)
  have:=Nat.or_lt_two_pow (n:=24) h1 hp
  omega
 ·omega
theorem Jd {s i:Int}:0≤alW s i∧alW s i<16777216:=by
 have h1:s.toNat&&&M24<16777216:=Nat.lt_of_le_of_lt Nat.and_le_right (by decide)
 unfold alW
 split
 ·have:=vq (n:=24) (b:=2^i.toNat) h1
  omega
 ·omega
theorem aam (m:Nat) (i:Int):j7 m i<16777216:=by
 have h1:m&&&M24<16777216:=Nat.lt_of_le_of_lt Nat.and_le_right (by decide)
 unfold j7
 split
 ·rw [LN]
  grind [Dl,g8]
 omega
deriving instance DecidableEq for Cl
theorem Cl.ext' {a b:Cl} (h1:a.pos=b.pos) (h2:a.neg=b.neg):a=b:=by cases a<;>simp_all
theorem lm (a b:Cl):((a.pos==b.pos)&&((a.neg==b.neg)&&true))=decide (a=b):=by
 grind [Cl.ext']
def aX (c:Cl):Prop:=U32 c.pos∧U32 c.neg
def aq (f:List Cl):Prop:= ∀c∈f,aX c
def fE (c:Cl):Bool:=oC c.pos&&oC c.neg
def RC (c:Cl):Prop:=(0≤c.pos∧c.pos<16777216)∧(0≤c.neg∧c.neg<16777216)
theorem RC.ok {c:Cl} (h:RC c):aX c:=⟨⟨h.1.1,by have:=h.1.2;omega⟩,⟨h.2.1,by have:=h.2.2;omega⟩⟩
theorem Bp {c:Cl} (h:aX c):fE c=true↔RC c:=by
 unfold fE oC RC
 simp only [Bool.and_eq_true,decide_eq_true_eq]
 have h1:=h.1.1;have h2:=h.2.1
 omega
def ep (a b:Int):Int:=((a.toNat|||b.toNat:Nat):Int)
theorem rh {a b:Int} (ha:U32 a) (hb:U32 b):bj .or .u32 a b=ep a b:=by
 obtain ⟨m,hm,rfl⟩:=ha.nat;obtain ⟨n,hn,rfl⟩:=hb.nat
 rw [wK hm hn];rfl
def d9 (a b:Cl):Cl:=⟨ep a.pos b.pos,ep a.neg b.neg⟩
def dR (a b:Cl):Bool:=decide (d9 a b=a)
def bS (c:Cl):Bool:= !decide (c.pos.toNat&&&c.neg.toNat=0)
theorem FX {a b:Int} (ha:U32 a) (hb:U32 b):U32 (ep a b):=by
 obtain ⟨m,hm,rfl⟩:=ha.nat;obtain ⟨n,hn,rfl⟩:=hb.nat
 exact U32.of (Nat.or_lt_two_pow (n:=32) hm hn)
theorem Aw {a b:Cl} (ha:aX a) (hb:aX b):aX (d9 a b):=⟨FX ha.1 hb.1,FX ha.2 hb.2⟩
theorem Rg (hk:Fu k) {c:Cl} (h:aX c) (ret:Bool→Option S):tC k c ret=ret (fE c):=by
 simp only [tC,Sk,ag hk,Q9 hk h.1,Q9 hk h.2,fE,cH]
 grind
theorem G_ (hk:Fu k) {a b:Cl} (ha:aX a) (hb:aX b) (ret:Cl→Option S):pb k a b ret=ret (d9 a b):=by
 simp only [pb,Sj,rh ha.1 hb.1,rh ha.2 hb.2];rfl
theorem ai3 (hk:Fu k) {a b:Cl} (ha:aX a) (hb:aX b) (ret:Bool→Option S):yA k a b ret=ret (dR a b):=by
 simp only [yA,Se,ag hk,G_ hk ha hb,lm];rfl
theorem Rf (hk:Fu k) {c:Cl} (h:aX c) (ret:Bool→Option S):tB k c ret=ret (bS c):=by
 obtain ⟨p,n⟩:=c
 obtain ⟨m,hm,rfl⟩:=h.1.nat;obtain ⟨n,hn,rfl⟩:=h.2.nat
 simp only [tB,Sf,lj hm hn,bS,Int.toNat_natCast]
 congr 2
 grind
theorem aln (s:Int) (x:Nat) (hx:x<24) (j:Nat):(e_ s (x:Int)).toNat.testBit j=((s.toNat.testBit j&&decide (j<24))||decide (j=x)):=by
 unfold e_
 rw [if_pos (by omega),Int.toNat_natCast,Int.toNat_natCast,Nat.testBit_or,Nat.testBit_and,g8,Nat.testBit_two_pow,Bool.eq_iff_iff]
 grind
def dw (c:Cl) (i b:Int):Cl×Int:=
 if fE c then
  if (alS c.pos i b).2=0 then if (alS c.neg i b).2=0 then (⟨(alS c.pos i b).1,(alS c.neg i b).1⟩,0) else (⟨0,0⟩,(alS c.neg i b).2)
  else (⟨0,0⟩,(alS c.pos i b).2)
 else (⟨0,0⟩,2)
theorem ai4 (hk:Fu k) {c:Cl} {i b:Int} (h:aX c) (hi:aG i) (hb:aG b) (ret:Cl×Int→Option S):yD k c i b ret=ret (dw c i b):=by
 simp only [yD,Si,ag hk,Rg hk h,Q6 hk h.1 hi hb,Q6 hk h.2 hi hb,cH,dw,Bool.not_eq_true',beq_eq_false_iff_ne]
 grind
end Go.Proofs.YtfkkpkhfjpaafaaGreatDoor
namespace Go.Proofs.YtfkkpkhfjpaafaaGreatDoor
open Go PI
set_option linter.unusedVariables false
set_option linter.unusedSimpArgs false
set_option maxRecDepth 20000
variable {S:Type} {k:Nat}
def gP (a b:Cl):Prop:=a.pos<b.pos∨(a.pos=b.pos∧a.neg<b.neg)
def qZ (a b:Cl):Bool:=decide (a.pos<b.pos)||(a.pos==b.pos&&decide (a.neg<b.neg))
theorem agh {a b:Cl}:qZ a b=true↔gP a b:=by unfold qZ gP;simp
theorem LP {a b c:Cl} (h:gP a b) (h':gP b c):gP a c:=by grind [gP]
theorem LO {a:Cl} (h:gP a a):False:=by grind [gP]
theorem agC (a b:Cl):gP a b∨a=b∨gP b a:=by
 grind [Cl.ext',gP]
abbrev lg (l:List Cl):Prop:=l.Pairwise gP
theorem BL: ∀ {a b:List Cl},lg a→lg b→(∀c,c∈a↔c∈b)→a=b:=by
 intro a
 induction a with
 |nil=>
  intro b _ _ h
  cases b with
  |nil=>rfl
  |cons y b=>exact absurd ((h y).2 (by simp)) (by simp)
 |cons x a ih=>
  intro b ha hb h
  cases b with
  |nil=>grind
  |cons y b=>
   have ha':=List.pairwise_cons.1 ha;have hb':=List.pairwise_cons.1 hb
   have hxy:x=y:=by
    rcases List.mem_cons.1 ((h x).1 (by simp)) with h1|h1
    ·exact h1
    ·rcases List.mem_cons.1 ((h y).2 (by simp)) with h2|h2<;>grind [LP,LO]
   grind [LO]
def fq (x:Cl):List Cl→List Cl
 |[]=>[x]
 |y::r=>if qZ y x then y::fq x r else if y=x then y::r else x::y::r
theorem NE {x c:Cl}: ∀ {l:List Cl},c∈fq x l↔c=x∨c∈l:=by
 intro l
 induction l<;>grind [fq]
theorem adp {x:Cl}: ∀ {l:List Cl},lg l→lg (fq x l):=by
 intro l
 induction l<;>grind [fq,List.pairwise_cons,NE,agh,agC,LP]
theorem K_ {x:Cl}: ∀ {l:List Cl},(fq x l).length≤l.length+1:=by
 intro l
 induction l<;>grind [fq]
def ce (l:List Cl) (c:Cl):Bool:=l.all fun d=>decide (d=c)|| !dR c d
def kl (o l:List Cl):List Cl:=l.foldl (fun o c=>fq c o) o
def dx (l:List Cl):List Cl:=kl [] (l.filter (ce l))
theorem agJ {c:Cl}: ∀ {l o:List Cl},c∈kl o l↔c∈l∨c∈o:=by
 intro l
 induction l with
 |nil=>grind [kl]
 |cons x l ih=>
  intro o
  show c∈kl (fq x o) l↔_
  grind [NE]
theorem ado: ∀ {l o:List Cl},lg o→lg (kl o l):=by
 intro l
 induction l with
 |nil=>intro o h;exact h
 |cons x l ih=>intro o h;exact ih (adp h)
theorem adn: ∀ {l o:List Cl},(kl o l).length≤o.length+l.length:=by
 intro l
 induction l<;>grind [kl,K_]
theorem re (l:List Cl):lg (dx l):=ado List.Pairwise.nil
theorem mem_mins {l:List Cl} {c:Cl}:c∈dx l↔c∈l∧ce l c=true:=by
 grind [dx,agJ]
theorem agM (l:List Cl):(dx l).length≤l.length:=by
 grind [adn,dx]
theorem NK {l l':List Cl} (h: ∀c,c∈l↔c∈l') (c:Cl):ce l c=ce l' c:=by
 grind [ce]
def bp (l:List Cl):List Cl×Int:=if l.all fE then if (dx l).length>64 then ([],3) else (dx l,0) else ([],2)
theorem yq {S:Type} {p:Prop} [Decidable p] (h:p) (f:Unit→Option S):Option.bind (bR p) f=f ():=fN p h f
theorem aiS (hk:Fu k) {d c:Cl} (hd:aX d) (hc:aX c) (ret:Bool→Option S):yC k d c ret=ret (!(decide (d=c)|| !dR c d)):=by
 grind [yC,Sh,lm,cH,ag,ai3,dR]
end Go.Proofs.YtfkkpkhfjpaafaaGreatDoor
